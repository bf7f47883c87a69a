/- Laws of the walk over code. -/
import Derived.WalkKit
import Derived.Orders
import Derived.Laws.StructEq
import Derived.Below
import Derived.ChangeKeysEq
import Derived.MapKept
import Derived.Laws.MakeOwn
import Derived.Laws.Cover3
import Derived.Deep.LoopGhost
set_option linter.unusedVariables false
set_option linter.unusedSimpArgs false
namespace Go
theorem j6:type_of% @if_neg:=@if_neg
theorem k9:type_of% @if_pos:=@if_pos
theorem u9:type_of% @List.mem_cons:=@List.mem_cons
theorem F6:type_of% @List.mem_cons_of_mem:=@List.mem_cons_of_mem
theorem D6:type_of% @Nat.lt_succ_self:=@Nat.lt_succ_self
theorem y6:type_of% @Nat.le_refl:=@Nat.le_refl
theorem Z8:type_of% @Array.getElem?_eq_some_iff:=@Array.getElem?_eq_some_iff
theorem I9:type_of% @Go.Result.andThen_ok:=@Go.Result.andThen_ok
theorem C5:type_of% @Nat.lt_of_lt_of_le:=@Nat.lt_of_lt_of_le
theorem C7:type_of% @List.mem_cons_self:=@List.mem_cons_self
theorem J7:type_of% @List.getElem?_eq_getElem:=@List.getElem?_eq_getElem
theorem y9:type_of% @Go.Sem.run_bind:=@Go.Sem.run_bind
theorem J6:type_of% @Nat.le_of_ble_eq_true:=@Nat.le_of_ble_eq_true
theorem D7:type_of% @Bool.and_eq_true:=@Bool.and_eq_true
theorem P3:type_of% @List.getElem?_eq_some_iff:=@List.getElem?_eq_some_iff
theorem z6:type_of% @Nat.le_trans:=@Nat.le_trans
theorem E0:type_of% @Option.some.inj:=@Option.some.inj
theorem E3:type_of% @List.mem_append:=@List.mem_append
theorem M4:type_of% @Bool.false_eq_true:=@Bool.false_eq_true
theorem O6:type_of% @List.length_append:=@List.length_append
theorem H7:type_of% @List.map_cons:=@List.map_cons
theorem a4l:type_of% @List.take_succ_eq_append_getElem:=@List.take_succ_eq_append_getElem
theorem N0:type_of% @List.length_nil:=@List.length_nil
theorem a4r:type_of% @Array.getElem?_setIfInBounds_ne:=@Array.getElem?_setIfInBounds_ne
theorem Y9:type_of% @Option.some.injEq:=@Option.some.injEq
theorem V6:type_of% @List.all_eq_true:=@List.all_eq_true
theorem Y0:type_of% @List.length_cons:=@List.length_cons
theorem a1d:type_of% @Nat.mul_le_mul_right:=@Nat.mul_le_mul_right
theorem L6:type_of% @List.mem_map:=@List.mem_map
theorem a5Q:type_of% @List.eq_nil_of_length_eq_zero:=@List.eq_nil_of_length_eq_zero
theorem Z5:type_of% @List.length_take:=@List.length_take
theorem L0:type_of% @Nat.zero_le:=@Nat.zero_le
theorem O7:type_of% @Go.Sem.run_pure:=@Go.Sem.run_pure
theorem a1V:type_of% @List.mem_singleton:=@List.mem_singleton
theorem D2:type_of% @if_true:=@if_true
theorem L9:type_of% @beq_iff_eq:=@beq_iff_eq
theorem a1l:type_of% @List.cons_append:=@List.cons_append
theorem G8:type_of% @if_false:=@if_false
theorem N8:type_of% @Array.ext':=@Array.ext'
theorem R7:type_of% @Nat.add_mul:=@Nat.add_mul
theorem a1Q:type_of% @Nat.min_eq_left:=@Nat.min_eq_left
theorem a4M:type_of% @List.mem_of_mem_take:=@List.mem_of_mem_take
theorem a0k:type_of% @Nat.zero_add:=@Nat.zero_add
theorem a3z:type_of% @List.append_assoc:=@List.append_assoc
theorem a2B:type_of% @List.nil_append:=@List.nil_append
theorem a6p:type_of% @List.mem_append_right:=@List.mem_append_right
theorem a5q:type_of% @List.getElem?_take:=@List.getElem?_take
theorem a7n:type_of% @List.mem_of_mem_drop:=@List.mem_of_mem_drop
theorem a6P:type_of% @List.mem_append_left:=@List.mem_append_left
theorem a2R:type_of% @Bool.not_true:=@Bool.not_true
theorem a4i:type_of% @List.nodup_cons:=@List.nodup_cons
theorem a5J:type_of% @Bool.not_eq_true':=@Bool.not_eq_true'
theorem a7s:type_of% @Array.length_toList:=@Array.length_toList
theorem U2:type_of% @true_and:=@true_and
theorem Y7:type_of% @congrArg:=@congrArg
theorem a4G:type_of% @Bool.not_false:=@Bool.not_false
theorem a6X:type_of% @List.nodup_append:=@List.nodup_append
theorem b0f:type_of% @List.mem_of_getElem?:=@List.mem_of_getElem?
theorem a5U:type_of% @List.mem_range:=@List.mem_range
theorem a5l:type_of% @Prod.mk.injEq:=@Prod.mk.injEq
theorem a6T:type_of% @Option.map_some:=@Option.map_some
theorem a8u:type_of% @List.take_length:=@List.take_length
theorem a8w:type_of% @List.cons.injEq:=@List.cons.injEq
theorem b0r:type_of% @List.getElem?_drop:=@List.getElem?_drop
theorem a5j:type_of% @Nat.le_of_lt:=@Nat.le_of_lt
theorem b3T:type_of% @Array.getElem?_eq_none:=@Array.getElem?_eq_none
theorem a4p:type_of% @Nat.blt_eq:=@Nat.blt_eq
theorem a6l:type_of% @Nat.sub_zero:=@Nat.sub_zero
theorem b3G:type_of% @List.singleton_append:=@List.singleton_append
theorem a9b:type_of% @List.mem_filter:=@List.mem_filter
theorem a9t:type_of% @Go.run_underlying:=@Go.run_underlying
theorem a7V:type_of% @List.length_drop:=@List.length_drop
theorem a4C:type_of% @Nat.lt_or_ge:=@Nat.lt_or_ge
theorem a5O:type_of% @Go.setRow_other:=@Go.setRow_other
theorem a7Q:type_of% @List.take_zero:=@List.take_zero
theorem b2U:type_of% @Array.getElem?_toList:=@Array.getElem?_toList
theorem b0M:type_of% @List.size_toArray:=@List.size_toArray
theorem a9w:type_of% @List.take_take:=@List.take_take
theorem a8h:type_of% @Nat.add_zero:=@Nat.add_zero
theorem b2P:type_of% @List.pairwise_cons:=@List.pairwise_cons
theorem b0O:type_of% @List.length_map:=@List.length_map
end Go
namespace Go.Sx
open Go Go.RowKit
inductive SV where
 |v (x:Value)
 |own (k o:Nat)
 |ownx (k o:Nat)
 |osl (k o n c:Nat)
 |row (k:Nat)
 |agg (l:List SV)
 |tup (l:List SV)
 |fn (f:FuncId) (first caps:List SV)
 |bad
inductive CK where
 |int (k:IntKind)|bool|str
 deriving DecidableEq
def a0q:CK→Value→Prop
 |.int k,.int k' _=>k'=k
 |.bool,.bool _=>True
 |.str,.string _=>True
 |_,_=>False
def s8:List CK→List Value→Prop
 |[],[]=>True
 |k::ks,x::xs=>a0q k x∧s8 ks xs
 |_,_=>False
def eqV:Value→Value→Bool
 |.int _ a,.int _ b=>a==b
 |.bool a,.bool b=>a==b
 |.string a,.string b=>a.toList==b.toList
 |_,_=>false
def a0j:List Value→List Value→Bool
 |x::xs,y::ys=>eqV x y&&a0j xs ys
 |_,_=>true
structure MTy where
 t:TypeId
 kt:TypeId
 et:TypeId
 ks:List CK
 ag:Bool
 z:Value
def D5:Value→List Value
 |.agg a=>a.toList
 |x=>[x]
def plV:Value→Bool
 |.int _ _=>true
 |.bool _=>true
 |.string _=>true
 |_=>false
def b5n(m:MTy)(k:Value):Prop:=match m.ag,k with
 |true,.agg a=>s8 m.ks a.toList
 |false,.agg _=>False
 |false,x=>s8 m.ks [x]
 |_,_=>False
inductive Ent where
 |blk (b:Nat) (cs:List SV) (ty:TypeId)
 |row (val:Value) (n:Nat) (xs:List Value) (sz:Nat) (ty:TypeId)
 |mp (b:Nat) (es:List (Value×Value)) (ty:MTy)
abbrev Hp:=List (Nat×Ent)
def isR:Ent→Bool
 |.blk _ _ _=>false
 |_=>true
def b0s:Value→Nat
 |.slice (some a) _ _=>a.block
 |_=>0
def l4:Hp→Nat→Option Ent
 |[],_=>none
 |(k',e)::H,k=>match Nat.beq k' k with|true=>some e|false=>l4 H k
def bOf(H:Hp)(k:Nat):Nat:=match l4 H k with
 |some (.blk b _ _)=>b
 |some (.row v _ _ _ _)=>b0s v
 |some (.mp b _ _)=>b
 |none=>0
def o5(H:Hp)(k:Nat):Value:=match l4 H k with
 |some (.row v _ _ _ _)=>v
 |some (.mp b _ _)=>.map (some b)
 |_=>undef
def b2e(v:Value)(c:Nat):Nat:=match v with|.slice _ _ cap=>cap-c|_=>c
mutual
def den(H:Hp):SV→Value
 |.v x=>x
 |.own k o=>.pointer (some ⟨bOf H k,o,none⟩)
 |.ownx k o=>.pointer (some ⟨bOf H k,o,none⟩)
 |.osl k o n c=>.slice (some ⟨bOf H k,o,none⟩) n (b2e (o5 H k) c)
 |.row k=>o5 H k
 |.agg l=>.agg (o6 H l).toArray
 |.tup l=>.tuple (o6 H l).toArray
 |.fn f first caps=>.func (.func f) (o6 H first).toArray (o6 H caps).toArray
 |.bad=>undef
def o6(H:Hp):List SV→List Value
 |[]=>[]
 |s::l=>den H s::o6 H l
end
mutual
def ment(k:Nat):SV→Bool
 |.v _=>false
 |.own j _=>Nat.beq j k
 |.ownx j _=>Nat.beq j k
 |.osl j _ _ _=>Nat.beq j k
 |.row j=>Nat.beq j k
 |.agg l=>I2 k l
 |.tup l=>I2 k l
 |.fn _ f c=>match I2 k f with|true=>true|false=>I2 k c
 |.bad=>false
def I2(k:Nat):List SV→Bool
 |[]=>false
 |s::l=>match ment k s with|true=>true|false=>I2 k l
end
def b2D(k:Nat)(s:SV):SV:=match ment k s with|true=>.bad|false=>s
def A7(k:Nat):Hp→Bool
 |[]=>true
 |(_,.blk _ cs _)::H=>match I2 k cs with|true=>false|false=>A7 k H
 |(_,.row _ _ _ _ _)::H=>A7 k H
 |(_,.mp _ _ _)::H=>A7 k H
def w8(k:Nat):List (Nat×SV)→Bool
 |[]=>true
 |(_,s)::T=>match ment k s with|true=>false|false=>w8 k T
def b3k(k:Nat):List SV→List SV
 |[]=>[]
 |s::l=>b2D k s::b3k k l
inductive TD where
 |int|bool|str|other
 |slice (e esz bytes:Nat)
 |arr (len e esz:Nat)
 |struct (fs:List (Nat×Nat×Nat))
structure TI where
 n:Nat
 agg:Bool
 z:List Value
 eq:Option (List CK)
 d:TD
def D4:List (Nat×TI)→Nat→Option TI
 |[],_=>none
 |(k,i)::r,t=>match Nat.beq k t with|true=>some i|false=>D4 r t
def c0K{α:Type}:List (Nat×α)→Nat→Option α
 |[],_=>none
 |(k,i)::r,t=>match Nat.beq k t with|true=>some i|false=>c0K r t
def a9A(P:Program)(t:TypeId):Bool:=match P.underlying t with
 |some .bool=>true
 |some (.int _)=>true
 |some .string=>true
 |_=>false
def c8D(P:Program)(kt:TypeId)(n:Nat):Bool:=match P.underlying kt with
 |some (.struct F)=>F.toList.all fun f=>f.name != "_" &&a9A P f.type&&Nat.blt f.offset n
 |_=>a9A P kt
structure b1q(P:Program)(tt:List (Nat×TI))(m:MTy):Prop where
 und:P.underlying m.t=some (.map m.kt m.et)
 key:(D4 tt m.kt).map (fun i=>(i.eq,i.agg))=some (some m.ks,m.ag)
 kb:c8D P m.kt m.ks.length=true
 z:(P.info? m.et).map (·.zero)=some (some m.z)
 pz:plV m.z=true
def H3(ag:Bool)(xs:List Value):Value:=match ag with|true=>.agg xs.toArray|false=>xs.headD undef
def b2p:List (Value×Value)→List Value→Option Value
 |[],_=>none
 |(k,v)::r,kc=>match a0j kc (D5 k)with|true=>some v|false=>b2p r kc
def a8N(kv x:Value):List (Value×Value)→List Value→List (Value×Value)
 |[],_=>[(kv,x)]
 |(k,v)::r,kc=>match a0j kc (D5 k)with|true=>(kv,x)::r|false=>(k,v)::a8N kv x r kc
abbrev PI:=Nat×List Nat×Bool
inductive PT where
 |nil
 |op (i:Nat) (S:List Nat) (fl:Bool) (rest:PT)
 |fork (a b:PT)
def PT.pre:List PI→PT→PT
 |[],t=>t
 |(i,S,fl)::r,t=>.op i S fl (PT.pre r t)
def PT.of(l:List PI):PT:=PT.pre l .nil
structure Cx where
 P:Program
 tt:List (Nat×TI)
 w0:World
 bor:List Nat
 nt:Nat
 pl:List (Nat×PT)
 dfs:List Deferred
 sv:List Value
structure St where
 T:List (Nat×SV)
 H:Hp
 nk:Nat
 w:World
 lo:Nat
 iv:List (Nat×Nat)
def A8:List (Nat×SV)→Nat→Option SV
 |[],_=>none
 |(d,s)::T,k=>match Nat.beq d k with|true=>some s|false=>A8 T k
abbrev L3:Nat:=1000000
def b3x(T:List (Nat×SV))(d:Nat):Option SV:=match Nat.blt d 1000000 with|true=>A8 T d|false=>none
def ev(st:St):Operand→Option SV
 |.tmp t=>match b3x st.T t with|some .bad=>none|r=>r
 |.const v=>some (.v v)
 |.func f=>some (.fn f [] [])
 |.global g=>some (.v (.pointer (some ⟨g,0,none⟩)))
def evs(st:St):List Operand→Option (List SV)
 |[]=>some []
 |x::l=>match ev st x,evs st l with|some s,some r=>some (s::r)|_,_=>none
abbrev VIf(b:Bool)(p q:Prop):Prop:=match b with|true=>p|false=>q
theorem VIf.mk{b:Bool}{p q:Prop}(h1:b=true→p)(h2:b=false→q):VIf b p q:=by cases b;exact h2 rfl;exact h1 rfl
theorem VIf.t{b:Bool}{p q:Prop}(h:b=true)(h1:p):VIf b p q:=by subst h;exact h1
theorem VIf.f{b:Bool}{p q:Prop}(h:b=false)(h1:q):VIf b p q:=by subst h;exact h1
def a3T:Value→Bool
 |.agg _=>false
 |.tuple _=>false
 |_=>true
def b7n(H:Hp):SV→Bool
 |.v x=>a3T x
 |.own _ _=>true
 |.ownx _ _=>true
 |.osl _ _ _ _=>true
 |.row k=>match l4 H k with|some (.row _ _ _ _ _)=>true|some (.mp _ _ _)=>true|_=>false
 |.fn _ _ _=>true
 |_=>false
def b0D(H:Hp):List SV→Bool
 |[]=>true
 |s::l=>match b7n H s with|true=>b0D H l|false=>false
def a4n:Nat→List SV→Option (List SV)
 |0,_=>some []
 |_+1,[]=>none
 |_+1,.bad::_=>none
 |n+1,x::l=>match a4n n l with|some r=>some (x::r)|none=>none
def a2z:Nat→List SV→List SV
 |0,l=>l
 |_+1,[]=>[]
 |n+1,_::l=>a2z n l
def over{α:Type}:Nat→List α→List α→Option (List α)
 |0,[],l=>some l
 |0,x::xs,_::l=>match over 0 xs l with|some r=>some (x::r)|none=>none
 |0,_::_,[]=>none
 |_+1,_,[]=>none
 |n+1,xs,y::l=>match over n xs l with|some r=>some (y::r)|none=>none
def mkv(agg:Bool)(l:List SV):Option SV:=
 match agg,l with
 |true,l=>some (.agg l)
 |false,[x]=>some x
 |false,_=>none
def vs:List Value→List SV
 |[]=>[]
 |x::l=>.v x::vs l
def a2t:SV→Option (List SV)
 |.agg l=>some l
 |.v (.agg a)=>some (vs a.toList)
 |.v (.tuple _)=>none
 |.tup _=>none
 |.bad=>none
 |s=>some [s]
def a4Y:SV→Option (List SV)
 |.agg l=>some l
 |.v (.agg a)=>some (vs a.toList)
 |_=>none
def a8b:Bool→SV→Option (List SV)
 |true,.agg l=>some l
 |true,.v (.agg a)=>some (vs a.toList)
 |false,.v (.bool b)=>some [.v (.bool b)]
 |_,_=>none
inductive Out where
 |val (s:SV)
 |new (cs:List SV) (ty:TypeId) (sl:Option Nat)
 |call (f:FuncId) (args:List SV)
 |upd (key:Nat) (cs:List SV)
 |updR (key:Nat) (xs:List Value)
 |app (e esz bytes:Nat) (s x:SV)
structure Fx(own:List Nat)(w wc:World):Prop where
 os:wc.os=w.os
 tape:wc.tape=w.tape
 output:wc.output=w.output
 size:w.heap.size≤wc.heap.size
 block:∀i,i<w.heap.size→(∀b,b∈own→b≠i)→wc.heap[i]?=w.heap[i]?
def r6:Value→List Nat
 |.slice (some a) _ _=>[a.block]
 |_=>[]
def bsE:Ent→List Nat
 |.blk b _ _=>[b]
 |.row v _ _ _ _=>r6 v
 |.mp b _ _=>[b]
def bs:Hp→List Nat
 |[]=>[]
 |(_,e)::H=>bsE e++bs H
def c1z(H:Hp)(i:Nat):Prop:=∀b,b∈bs H→b≠i
def b6G:List Nat→Nat→Prop
 |[],_=>True
 |b::l,i=>b≠i∧b6G l i
def c9f(H:Hp)(n:Nat):Prop:=∀b,b∈bs H→b<n
def a7b:List (Nat×Nat)→Nat→Prop
 |[],_=>True
 |(n,m)::l,b=>(b<n∨m≤b)∧a7b l b
def b8B(X:Cx)(H:Hp)(w:World)(b o n:Nat)(cs:List Value):Prop:=
 cs.length=n∧((b<X.w0.heap.size∧b6G X.bor b∧∀j,j<n→X.w0.cell? ⟨b,o+j,none⟩=cs[j]?)∨
  (c1z H b∧∀j,j<n→w.cell? ⟨b,o+j,none⟩=cs[j]?))
def c8K(X:Cx)(H:Hp)(w:World)(r:Nat)(es:Array MapEntry)(c:Nat):Prop:=
 (r<X.w0.heap.size∧b6G X.bor r∧X.w0.heap[r]?=some (.map es c))∨(c1z H r∧w.heap[r]?=some (.map es c))
def a8k(agg:Bool)(cs:List Value):Option SV:=
 match agg,cs with
 |true,cs=>some (.agg (vs cs))
 |false,[x]=>some (.v x)
 |false,_=>none
def kEq:IntKind→IntKind→Bool
 |.i64,.i64=>true
 |.u8,.u8=>true
 |.i32,.i32=>true
 |.u64,.u64=>true
 |.u32,.u32=>true
 |.i16,.i16=>true
 |.u16,.u16=>true
 |.i8,.i8=>true
 |_,_=>false
def eqC:CK→SV→SV→Option Bool
 |.int k,.v (.int ka a),.v (.int kb b)=>match kEq k ka,kEq k kb with|true,true=>some (a==b)|_,_=>none
 |.bool,.v (.bool a),.v (.bool b)=>some (a==b)
 |.str,.v (.string a),.v (.string b)=>some (a.toList==b.toList)
 |_,_,_=>none
def a7S:List CK→List SV→List SV→Option Bool
 |[],[],[]=>some true
 |[k],[x],[y]=>eqC k x y
 |k::ks,x::l,y::r=>match eqC k x y,a7S ks l r with|some a,some b=>some (a&&b)|_,_=>none
 |_,_,_=>none
def b1k:List (Nat×Nat×Nat)→Nat→Option (Nat×Nat×Nat)
 |[],_=>none
 |f::_,0=>some f
 |_::l,n+1=>b1k l n
def b6u(op:BinOp)(k:IntKind)(a b:Int)(K:Out→Prop):Prop:=
 match op with
 |.add=>K (.val (.v (.int k (k.wrap (a+b)))))
 |.sub=>K (.val (.v (.int k (k.wrap (a-b)))))
 |.mul=>K (.val (.v (.int k (k.wrap (a*b)))))
 |.quo=>b≠0∧K (.val (.v (.int k (k.wrap (a.tdiv b)))))
 |.rem=>b≠0∧K (.val (.v (.int k (a.tmod b))))
 |.eql=>K (.val (.v (.bool (a==b))))
 |.neq=>K (.val (.v (.bool (a !=b))))
 |.lss=>K (.val (.v (.bool (decide (a<b)))))
 |.leq=>K (.val (.v (.bool (decide (a≤b)))))
 |.gtr=>K (.val (.v (.bool (decide (a>b)))))
 |.geq=>K (.val (.v (.bool (decide (a≥b)))))
 |.and=>K (.val (.v (.int k (k.wrap (BitVec.ofInt k.bits a&&&BitVec.ofInt k.bits b).toNat))))
 |.or=>K (.val (.v (.int k (k.wrap (BitVec.ofInt k.bits a|||BitVec.ofInt k.bits b).toNat))))
 |.xor=>K (.val (.v (.int k (k.wrap (BitVec.ofInt k.bits a^^^BitVec.ofInt k.bits b).toNat))))
 |.andNot=>K (.val (.v (.int k (k.wrap (BitVec.ofInt k.bits a&&& ~~~BitVec.ofInt k.bits b).toNat))))
 |_=>False
def d1R:BinOp→Bool
 |.shl=>true
 |.shr=>true
 |_=>false
def c3U(op:BinOp)(k:IntKind)(a b:Int)(K:Out→Prop):Prop:=
 match op with
 |.shl=>0≤b∧K (.val (.v (.int k (k.wrap (a*2^(min b.toNat k.bits))))))
 |.shr=>0≤b∧K (.val (.v (.int k (a.fdiv (2^(min b.toNat k.bits))))))
 |_=>False
def b6j(op:BinOp)(a b:ByteArray)(K:Out→Prop):Prop:=
 match op with
 |.eql=>K (.val (.v (.bool (a.toList==b.toList))))
 |.neq=>K (.val (.v (.bool (!(a.toList==b.toList)))))
 |.lss=>K (.val (.v (.bool (Op.bytesLess a.toList b.toList))))
 |.add=>((a.size+b.size:Nat):Int)≤9223372036854775807∧K (.val (.v (.string (a++b))))
 |_=>False
def a5M(op:BinOp)(e:Bool)(K:Out→Prop):Prop:=
 match op with
 |.eql=>K (.val (.v (.bool e)))
 |.neq=>K (.val (.v (.bool (!e))))
 |_=>False
def a9X(K:Out→Prop):Option SV→Prop
 |some s=>K (.val s)
 |none=>False
def c7r(a:Option Addr)(l m esz:Nat):Option Addr:=if m=l then a else a.map (·.add (l*esz))
def bnd(st:St)(len cap:Nat)(lo hi mx:Option Operand)(K:Nat→Nat→Nat→Prop):Prop:=
 match mx with
 |none=>match hi with
  |none=>match lo with
   |none=>K 0 len cap
   |some l=>match ev st l with
    |some (.v (.int _ z))=>(0≤z∧z≤len)∧K z.toNat len cap
    |_=>False
  |some h=>match ev st h with
   |some (.v (.int _ y))=>(0≤y∧y≤cap)∧match lo with
    |none=>K 0 y.toNat cap
    |some l=>match ev st l with
     |some (.v (.int _ z))=>(0≤z∧z≤y)∧K z.toNat y.toNat cap
     |_=>False
   |_=>False
 |some m=>match ev st m,hi with
  |some (.v (.int _ x)),some h=>(0≤x∧x≤cap)∧match ev st h with
   |some (.v (.int _ y))=>(0≤y∧y≤x)∧match lo with
    |none=>K 0 y.toNat x.toNat
    |some l=>match ev st l with
     |some (.v (.int _ z))=>(0≤z∧z≤y)∧K z.toNat y.toNat x.toNat
     |_=>False
   |_=>False
  |_,_=>False
def Q7(X:Cx)(st:St)(b:Builtin)(args:List Operand)(tys:List TypeId)(K:Out→Prop):Prop:=
 match b,tys with
 |.len,t::_=>match D4 X.tt t,evs st args with
  |some ⟨_,_,_,_,.slice _ _ _⟩,some [.v (.slice _ n _)]=>K (.val (.v (.int .i64 n)))
  |some ⟨_,_,_,_,.slice _ _ _⟩,some [.osl _ _ n _]=>K (.val (.v (.int .i64 n)))
  |some ⟨_,_,_,_,.slice _ _ _⟩,some [.row k]=>match l4 st.H k with
   |some (.row _ n _ _ _)=>K (.val (.v (.int .i64 n)))
   |_=>False
  |some ⟨_,_,_,_,.str⟩,some [.v (.string s)]=>K (.val (.v (.int .i64 s.size)))
  |_,_=>False
 |.max,_=>match evs st args with
  |some [.v (.int ka a),.v (.int _ b)]=>K (.val (.v (.int ka (if b>a then b else a))))
  |some [.v (.int ka a),.v (.int _ b),.v (.int _ c)]=>K (.val (.v (.int ka (if c>(if b>a then b else a)then c else(if b>a then b else a)))))
  |_=>False
 |.min,_=>match evs st args with
  |some [.v (.int ka a),.v (.int _ b)]=>K (.val (.v (.int ka (if b<a then b else a))))
  |_=>False
 |.append,t::u::_=>match Nat.beq t u,D4 X.tt t,evs st args with
  |true,some ⟨_,_,_,_,.slice e esz bytes⟩,some [s,x]=>match D4 X.tt e with
   |some i=>match Nat.beq i.n esz with
    |true=>K (.app e esz bytes s x)
    |false=>False
   |none=>False
  |_,_,_=>False
 |_,_=>False
def b1u(X:Cx)(fs:List (Nat×Nat×Nat))(f:Nat)(s:SV)(K:Out→Prop):Prop:=
 match b1k fs f,a4Y s with
 |some (fty,off,n),some l=>match D4 X.tt fty,a4n n (a2z off l)with
  |some i,some r=>match Nat.beq i.n n with
   |true=>a9X K (mkv i.agg r)
   |false=>False
  |_,_=>False
 |_,_=>False
def b4X(fs:List (Nat×Nat×Nat))(st:St):List (Nat×Operand)→List SV→Option (List SV)
 |[],l=>some l
 |(i,x)::ps,l=>match b1k fs i,ev st x with
  |some (_,off,n),some s=>match a2t s with
   |some cs=>match Nat.beq cs.length n,b0D st.H cs with
    |true,true=>match over off cs l with
     |some r=>b4X fs st ps r
     |none=>none
    |_,_=>none
   |none=>none
  |_,_=>none
def b1R(esz:Nat)(st:St):List (Nat×Operand)→List SV→Option (List SV)
 |[],l=>some l
 |(i,x)::ps,l=>match ev st x with
  |some s=>match a2t s with
   |some cs=>match Nat.beq cs.length esz,b0D st.H cs with
    |true,true=>match over (i*esz) cs l with
     |some r=>b1R esz st ps r
     |none=>none
    |_,_=>none
   |none=>none
  |_=>none
def a6r:Nat→List SV→List SV
 |0,_=>[]
 |n+1,l=>l++a6r n l
def a9s(X:Cx)(st:St)(i:TI)(p:SV)(K:Out→Prop):Prop:=
 match p with
 |.own k o=>match l4 st.H k with
  |some (.blk _ cs _)=>match a4n i.n (a2z o cs)with
   |some l=>a9X K (mkv i.agg l)
   |none=>False
  |_=>False
 |.ownx k o=>match l4 st.H k with
  |some (.blk _ cs _)=>∃l,(a4n i.n (a2z o cs)=some l)∧a9X K (mkv i.agg l)
  |some (.row _ n xs sz _)=>∃l:List Value,(l.length=i.n∧o+i.n≤n*sz∧∀j,j<i.n→xs[o+j]?=l[j]?)∧a9X K (a8k i.agg l)
  |_=>False
 |.v (.pointer (some ⟨b,o,none⟩))=>∃cs,b8B X st.H st.w b o i.n cs∧a9X K (a8k i.agg cs)
 |_=>False
def b1g(st:St)(i:TI)(p s:SV)(K:Out→Prop):Prop:=
 match a2t s with
 |some l=>match Nat.beq l.length i.n,b0D st.H l with
  |true,true=>match p with
   |.own k o=>match l4 st.H k with
    |some (.blk _ cs _)=>match over o l cs with
     |some cs'=>K (.upd k cs')
     |none=>False
    |_=>False
   |.ownx k o=>match l4 st.H k with
    |some (.blk _ cs _)=>∃cs',over o l cs=some cs'∧K (.upd k cs')
    |some (.row _ _ xs _ _)=>∃xs',over o (o6 st.H l) xs=some xs'∧K (.updR k xs')
    |_=>False
   |_=>False
  |_,_=>False
 |none=>False
def b2O(s:SV)(off:Nat):Option SV:=
 match s with
 |.own k o=>some (.own k (o+off))
 |.ownx k o=>some (.ownx k (o+off))
 |.v (.pointer (some ⟨b,o,none⟩))=>some (.v (.pointer (some ⟨b,o+off,none⟩)))
 |_=>none
def b4H(s:SV)(off:Nat):Option SV:=
 match s with
 |.own k o=>some (.ownx k (o+off))
 |.ownx k o=>some (.ownx k (o+off))
 |.v (.pointer (some ⟨b,o,none⟩))=>some (.v (.pointer (some ⟨b,o+off,none⟩)))
 |_=>none
def b9s:Operand→Bool
 |.const _=>true
 |_=>false
def ev1(X:Cx)(st:St)(op:Op)(K:Out→Prop):Prop:=
 match op with
 |.move x=>a9X K (ev st x)
 |.assign x=>a9X K (ev st x)
 |.pick c a b=>match ev st c with
  |some (.v (.bool t))=>VIf t (a9X K (ev st a)) (a9X K (ev st b))
  |_=>False
 |.alloc t=>match D4 X.tt t with
  |some i=>K (.new (vs i.z) t none)
  |none=>False
 |.box t x=>match D4 X.tt t,ev st x with
  |some _,some s=>match a2t s with
   |some l=>match b0D st.H l with|true=>K (.new l t none)|false=>False
   |none=>False
  |_,_=>False
 |.load t p=>match D4 X.tt t,ev st p with
  |some i,some s=>a9s X st i s K
  |_,_=>False
 |.store t p x=>match D4 X.tt t,ev st p,ev st x with
  |some i,some q,some s=>b1g st i q s K
  |_,_,_=>False
 |.nilCheck p=>match ev st p with
  |some (.own k o)=>K (.val (.own k o))
  |some (.ownx k o)=>K (.val (.ownx k o))
  |some (.v (.pointer (some a)))=>K (.val (.v (.pointer (some a))))
  |some (.fn f l c)=>K (.val (.fn f l c))
  |_=>False
 |.fieldAddr t p f=>match D4 X.tt t,ev st p with
  |some ⟨_,_,_,_,.struct fs⟩,some s=>match b1k fs f with
   |some (_,off,_)=>a9X K (b2O s off)
   |none=>False
  |_,_=>False
 |.field t x f=>match D4 X.tt t,ev st x with
  |some ⟨_,_,_,_,.struct fs⟩,some s=>b1u X fs f s K
  |_,_=>False
 |.indexAddr t x ix=>match D4 X.tt t,ev st x,ev st ix with
  |some ⟨_,_,_,_,.slice _ esz _⟩,some (.v (.slice a n _)),some (.v (.int _ z))=>
   ∃b o,(a=some ⟨b,o,none⟩∧0≤z∧z<n)∧K (.val (.v (.pointer (some ⟨b,o+z.toNat*esz,none⟩))))
  |some ⟨_,_,_,_,.slice _ esz _⟩,some (.osl k o n _),some (.v (.int _ z))=>
   (0≤z∧z<n)∧K (.val (.ownx k (o+z.toNat*esz)))
  |some ⟨_,_,_,_,.slice _ esz _⟩,some (.row k),some (.v (.int _ z))=>match l4 st.H k with
   |some (.row _ n _ _ _)=>(0≤z∧z<n)∧K (.val (.ownx k (z.toNat*esz)))
   |_=>False
  |some ⟨_,_,_,_,.arr len _ esz⟩,some s,some (.v (.int _ z))=>
   (0≤z∧z<len)∧a9X K (match b9s ix with|true=>b2O s (z.toNat*esz)|false=>b4H s (z.toNat*esz))
  |_,_,_=>False
 |.index t x ix=>match D4 X.tt t,ev st x,ev st ix with
  |some ⟨_,_,_,_,.str⟩,some (.v (.string s)),some (.v (.int _ z))=>
   ∃c,(0≤z∧s.data.toList[z.toNat]?=some c)∧K (.val (.v (.int .u8 c.toNat)))
  |some ⟨_,_,_,_,.arr len ety esz⟩,some s,some (.v (.int _ z))=>match a4Y s,D4 X.tt ety with
   |some l,some i=>(0≤z∧z<len)∧match Nat.beq i.n esz,a4n i.n (a2z (z.toNat*esz) l)with
    |true,some r=>a9X K (mkv i.agg r)
    |_,_=>False
   |_,_=>False
  |_,_,_=>False
 |.binOp op t x y _=>match ev st x,ev st y with
  |some (.v (.int ka a)),some (.v (.int kb b))=>match d1R op,kEq ka kb with
   |true,_=>c3U op ka a b K
   |false,true=>b6u op ka a b K
   |false,false=>False
  |some (.v (.string a)),some (.v (.string b))=>b6j op a b K
  |some s,some r=>match D4 X.tt t with
   |some ⟨_,agg,_,some ks,_⟩=>match a8b agg s,a8b agg r with
    |some l,some m=>match a7S ks l m with
     |some e=>a5M op e K
     |none=>False
    |_,_=>False
   |some ⟨_,_,_,none,.slice _ _ _⟩=>match s,r with
    |.v (.slice a _ _),.v (.slice none 0 0)=>a5M op a.isNone K
    |_,_=>False
   |_=>False
  |_,_=>False
 |.unOp op _ x=>match op,ev st x with
  |.not,some (.v (.bool b))=>K (.val (.v (.bool (!b))))
  |.neg,some (.v (.int k a))=>K (.val (.v (.int k (k.wrap (0-a)))))
  |_,_=>False
 |.convert src dst x=>match D4 X.tt src,D4 X.tt dst,ev st x with
  |some _,some ⟨_,_,_,some [.int k],.int⟩,some (.v (.int _ n))=>K (.val (.v (.int k (k.wrap n))))
  |_,_,_=>False
 |.extract x n=>match ev st x with
  |some (.tup l)=>match a2z n l with|.bad::_=>False|s::_=>K (.val s)|[]=>False
  |some (.v (.tuple a))=>match a2z n (vs a.toList)with|s::_=>K (.val s)|[]=>False
  |_=>False
 |.makeFunc fn first caps=>match fn,evs st first.toList,evs st caps.toList with
  |.func f,some l,some c=>K (.val (.fn f l c))
  |_,_,_=>False
 |.build t ps=>match D4 X.tt t with
  |some ⟨_,_,z,_,.struct fs⟩=>match b4X fs st ps.toList (vs z)with
   |some l=>K (.val (.agg l))
   |none=>False
  |some ⟨_,_,z,_,.arr _ _ esz⟩=>match b1R esz st ps.toList (vs z)with
   |some l=>K (.val (.agg l))
   |none=>False
  |_=>False
 |.buildSlice t n ps=>match D4 X.tt t with
  |some ⟨_,_,_,_,.slice e esz _⟩=>match D4 X.tt e with
   |some i=>match Nat.ble (n*esz) 16777216,Nat.beq i.n esz,b1R esz st ps.toList (a6r n (vs i.z))with
    |true,true,some l=>K (.new l e (some n))
    |_,_,_=>False
   |none=>False
  |_=>False
 |.makeSlice t l c=>match D4 X.tt t,ev st l,ev st c with
  |some ⟨_,_,_,_,.slice e esz bytes⟩,some (.v (.int _ p)),some (.v (.int _ q))=>match D4 X.tt e with
   |some i=>match Nat.beq i.n esz with
    |true=>(p=q∧0≤p∧(bytes:Int)*p≤281474976710656∧p≤9223372036854775807)∧K (.new (a6r p.toNat (vs i.z)) e (some p.toNat))
    |false=>False
   |none=>False
  |_,_,_=>False
 |.slice t x lo hi mx=>match D4 X.tt t,ev st x with
  |some ⟨_,_,_,_,.slice _ esz _⟩,some (.v (.slice a n c))=>
   bnd st n c lo hi mx fun l h m=>∀a',a'=c7r a l m esz→K (.val (.v (.slice a' (h-l) (m-l))))
  |some ⟨_,_,_,_,.slice _ esz _⟩,some (.row k)=>match mx,l4 st.H k with
   |none,some (.row _ n _ _ _)=>0<n∧∀c,n≤c→bnd st n c lo hi none fun l h _=>K (.val (.osl k (if c=l then 0 else l*esz) (h-l) l))
   |_,_=>False
  |some ⟨_,_,_,_,.str⟩,some (.v (.string s))=>match mx with
   |none=>bnd st s.size s.size lo hi none fun l h _=>K (.val (.v (.string (s.extract l h))))
   |some _=>False
  |some ⟨_,_,_,_,.arr len _ _⟩,some (.own k 0)=>match lo,hi,mx with
   |none,none,none=>(match l4 st.H k with|some (.blk _ _ _)=>K (.val (.osl k 0 len len))|_=>False)
   |_,_,_=>False
  |_,_=>False
 |.lookup t x ix ok=>match ev st x with
  |some (.v (.map (some r)))=>match ok,ev st ix with
   |false,some (.v (.int .i64 i))=>(∃kt et,X.P.underlying t=some (.map kt et)∧X.P.underlying kt=some (.int .i64))∧
    ∃es c j v,c8K X st.H st.w r es c∧Instr.findNow (.int .i64) (.int .i64 i) es.toList 0=some (some (j,v))∧K (.val (.v v))
   |_,_=>False
  |some (.row k)=>match ev st ix,l4 st.H k with
   |some s,some (.mp _ es m)=>(b1q X.P X.tt m∧m.t=t)∧∃kc v b,(den st.H s=H3 m.ag kc∧s8 m.ks kc∧(b2p es kc).getD m.z=v∧(b2p es kc).isSome=b)∧
    K (.val (match ok with|true=>.tup [.v v,.v (.bool b)]|false=>.v v))
   |_,_=>False
  |_=>False
 |.call c=>match c.callee with
  |.value f=>match ev st f,evs st c.args.toList with
   |some (.fn g l caps),some args=>K (.call g (l++(args++caps)))
   |some (.v (.func (.func g) l caps)),some args=>K (.call g (vs l.toList++(args++vs caps.toList)))
   |_,_=>False
  |.builtin b=>Q7 X st b c.args.toList c.argTypes.toList K
  |_=>False
 |_=>False
def d4e(H:Hp)(s:SV)(x:Value):Prop:=s=.bad∨x=den H s
def q8(H:Hp):List SV→List Value→Prop
 |[],[]=>True
 |s::l,x::r=>d4e H s x∧q8 H l r
 |_,_=>False
def b0w(w:World)(b:Nat)(es:List (Value×Value))(m:MTy):Prop:=∃(arr:Array MapEntry) (c:Nat),w.heap[b]?=some (.map arr c)∧arr.toList.map (fun e=>(e.key,e.val))=es∧∀p,p∈es→b5n m p.1∧plV p.2=true
def a5V(B:Nat)(H:Hp)(w:World):Ent→Prop
 |.blk b cs ty=>∃xs,q8 H cs xs∧w.heap[b]?=some (.cells xs.toArray ty (0,0))
 |.row v n xs sz ty=>w.ownsRow B ty sz v n xs
 |.mp b es ty=>b0w w b es ty
structure Cls(X:Cx)(H:Hp)(nk:Nat)(w wc:World):Prop where
 fx:Fx (bs H) w wc
 fx0:Fx X.bor X.w0 wc
 own:∀k e,(k,e)∈H→a5V 0 H wc e
 nd:(bs H).Nodup
 lb:∀b,b∈bs H→b∈X.bor∨X.w0.heap.size≤b
 keys:(H.map (·.1)).Nodup
 lt:∀k e,(k,e)∈H→k<nk
structure c7G(X:Cx)(seq:Bool)(f:FuncId)(args:List SV)(st:St)(K:St→SV→Prop):Prop where
 ex:∃(ι:Type) (r:ι→SV) (φ:ι→Nat→World→Prop),
  (∀wc,Cls X st.H st.nk st.w wc→Calls X.P f (o6 st.H args).toArray wc fun e w'=>
   ∃i,e=.returned (den st.H (r i))∧Below wc.heap.size wc w'∧φ i wc.heap.size w')∧
  ∀i n w1,st.w.heap.size≤n→n≤w1.heap.size→c9f st.H n→Fx (bs st.H) st.w w1→φ i n w1→
   match st,seq with
   |⟨T,H,nk,_,_,_⟩,true=>K ⟨T,H,nk,w1,w1.heap.size,[]⟩ (r i)
   |⟨T,H,nk,_,lo,iv⟩,false=>K ⟨T,H,nk,w1,lo,(n,w1.heap.size)::iv⟩ (r i)
def put(X:Cx)(st:St)(dst:Option Nat)(s:SV)(K:St→Prop):Prop:=
 match dst with
 |none=>K st
 |some d=>match Nat.blt d X.nt,st with
  |true,⟨T,H,nk,w,lo,iv⟩=>K ⟨(d,s)::T,H,nk,w,lo,iv⟩
  |false,_=>False
def b1o:Hp→Nat→Ent→(Hp→Prop)→Prop
 |[],_,_,_=>False
 |(k',e')::H,k,e,K=>match Nat.beq k' k with
  |true=>K ((k',e)::H)
  |false=>b1o H k e fun H'=>K ((k',e')::H')
def a1P(k:Nat):Ent→Ent
 |.blk b cs ty=>.blk b (b3k k cs) ty
 |e=>e
def C4(k:Nat):Hp→Hp
 |[]=>[]
 |(j,e)::H=>(j,a1P k e)::C4 k H
def a1T(k:Nat):List (Nat×SV)→List (Nat×SV)
 |[]=>[]
 |(d,s)::T=>(d,b2D k s)::a1T k T
def b3I(k:Nat):List (Nat×SV)→(List (Nat×SV)→Prop)→Prop
 |[],K=>K []
 |(d,s)::T,K=>match ment k s with
  |true=>b3I k T fun T'=>K ((d,.bad)::T')
  |false=>b3I k T fun T'=>K ((d,s)::T')
def a5v(X:Cx)(st:St)(esz:Nat)(x:SV)(m:Nat)(news:List Value):Prop:=
 match x with
 |.osl k o n _=>m=n∧match l4 st.H k with
  |some (.blk _ cs _)=>∃l,a4n (n*esz) (a2z o cs)=some l∧b0D st.H l=true∧news=o6 st.H l
  |some (.row _ N xs sz _)=>esz=sz∧(n=0∨o+n*esz≤N*esz)∧news=(xs.drop o).take (n*esz)∧∀u,u∈xs→a3T u=true
  |_=>False
 |.row k=>match l4 st.H k with
  |some (.row _ n xs sz _)=>m=n∧esz=sz∧news=xs∧∀u,u∈xs→a3T u=true
  |_=>False
 |.v (.slice none 0 0)=>m=0∧news=[]
 |.v (.slice (some ⟨b,o,sp⟩) n _)=>(m=0∧n=0∧news=[])∨(sp=none∧m=n∧(∀u,u∈news→a3T u=true)∧b8B X st.H st.w b o (n*esz) news)
 |_=>False
def reW(seq:Bool)(st:St)(w1:World)(K:List (Nat×SV)→Hp→Nat→World→Nat→List (Nat×Nat)→Prop):Prop:=
 match st,seq with
 |⟨T,H,nk,_,_,_⟩,true=>K T H nk w1 w1.heap.size []
 |⟨T,H,nk,_,lo,iv⟩,false=>K T H nk w1 lo iv
structure b8G(X:Cx)(seq:Bool)(e esz bytes:Nat)(s x:SV)(st:St)(K:St→SV→Prop):Prop where
 ex:∃(k n m:Nat) (v:Value) (xs news:List Value),
  (1≤esz∧a5v X st esz x m news∧(n+m)*bytes≤140737488355328∧n+m≤maxLen)∧
  ((s=.v (.slice none 0 0)∧n=0∧∀v' w1,(v'=.slice none 0 0↔m=0)→(∀b,b∈r6 v'→b∈bs st.H∨st.w.heap.size≤b)→Fx (bs st.H) st.w w1→reW seq st w1 fun T H nk w lo iv=>
   w8 nk T=true∧A7 nk H=true∧K ⟨T,(nk,.row v' m news esz e)::H,nk+1,w,lo,iv⟩ (.row nk))∨
   (s=.row k∧l4 st.H k=some (.row v n xs esz e)∧∀v' w1,(v'=.slice none 0 0↔v=.slice none 0 0∧m=0)→(∀b,b∈r6 v'→b∈bs st.H∨st.w.heap.size≤b)→Fx (bs st.H) st.w w1→reW seq st w1 fun T H nk w lo iv=>
    b1o (C4 k H) k (.row v' (n+m) (xs++news) esz e) fun H'=>b3I k T fun T'=>K ⟨T',H',nk,w,lo,iv⟩ (.row k))∨
   (s=.osl k 0 n 0∧(∃u N ys,l4 st.H k=some (.row u N ys esz e)∧0<N∧n≤N∧xs=ys.take (n*esz))∧∀v' w1,v'≠ .slice none 0 0→(∀b,b∈r6 v'→b∈bs st.H∨st.w.heap.size≤b)→Fx (bs st.H) st.w w1→reW seq st w1 fun T H nk w lo iv=>
    b1o (C4 k H) k (.row v' (n+m) (xs++news) esz e) fun H'=>b3I k T fun T'=>K ⟨T',H',nk,w,lo,iv⟩ (.row k))∨
   ((∃a,s=.v (.slice (some a) 0 0))∧n=0∧(m=0→K st s)∧(m≠0→∀v' w1,v'≠ .slice none 0 0→(∀b,b∈r6 v'→b∈bs st.H∨st.w.heap.size≤b)→Fx (bs st.H) st.w w1→reW seq st w1 fun T H nk w lo iv=>
    w8 nk T=true∧A7 nk H=true∧K ⟨T,(nk,.row v' m news esz e)::H,nk+1,w,lo,iv⟩ (.row nk))))
def fin(X:Cx)(seq:Bool)(st:St)(dst:Option Nat)(K:St→Prop)(o:Out):Prop:=
 match o with
 |.val s=>put X st dst s K
 |.new cs ty sl=>match st with
  |⟨T,H,nk,w,lo,iv⟩=>match w8 nk T,A7 nk H,I2 nk cs with
   |true,true,false=>(∀b,lo≤b→a7b iv b→
    put X ⟨T,(nk,.blk b cs ty)::H,nk+1,w,lo,iv⟩ dst (match sl with|none=>.own nk 0|some n=>.osl nk 0 n n) K)∨
    (∃n sz,(sl=some n∧cs.length=n*sz∧n≤maxLen∧b0D H cs=true)∧∀b,lo≤b→a7b iv b→
    put X ⟨T,(nk,.row (.slice (some ⟨b,0,none⟩) n n) n (o6 H cs) sz ty)::H,nk+1,w,lo,iv⟩ dst (.row nk) K)
   |_,_,_=>False
 |.call f args=>c7G X seq f args st fun st' s=>put X st' dst s K
 |.upd k cs=>match st,l4 st.H k with
  |⟨T,H,nk,w,lo,iv⟩,some (.blk b _ ty)=>b1o H k (.blk b cs ty) fun H'=>put X ⟨T,H',nk,w,lo,iv⟩ dst (.v undef) K
  |_,_=>False
 |.updR k xs=>match st,l4 st.H k with
  |⟨T,H,nk,w,lo,iv⟩,some (.row v n _ sz ty)=>b1o H k (.row v n xs sz ty) fun H'=>put X ⟨T,H',nk,w,lo,iv⟩ dst (.v undef) K
  |_,_=>False
 |.app e esz bytes s x=>b8G X seq e esz bytes s x st fun st' s=>put X st' dst s K
def b6x:List Oper→Nat→Option Nat
 |[],_=>none
 |o::_,0=>o.dst
 |_::l,n+1=>b6x l n
def a6j(ops:List Oper)(g:Option (Nat×Bool))(st:St)(yes no:St→Prop):Prop:=
 match g with
 |none=>yes st
 |some (j,want)=>match b6x ops j with
  |some d=>match b3x st.T d with
   |some (.v (.bool b))=>match st with
    |⟨T,H,nk,w,lo,iv⟩=>VIf b
     (match want with|true=>yes ⟨(d,.v (.bool true))::T,H,nk,w,lo,iv⟩|false=>no ⟨(d,.v (.bool true))::T,H,nk,w,lo,iv⟩)
     (match want with|true=>no ⟨(d,.v (.bool false))::T,H,nk,w,lo,iv⟩|false=>yes ⟨(d,.v (.bool false))::T,H,nk,w,lo,iv⟩)
   |some (.v (.tuple _))=>no st
   |_=>False
  |none=>False
def b7S:SV→Option Nat
 |.own k _=>some k
 |.ownx k _=>some k
 |_=>none
def a8q:Out→Option Nat
 |.upd k _=>some k
 |.updR k _=>some k
 |.app _ _ _ (.row k) _=>some k
 |.app _ _ _ (.osl k _ _ _) _=>some k
 |_=>none
def c7A(H H':Hp)(T:List (Nat×SV)):List (Nat×SV)→Prop
 |[]=>True
 |(d,s)::r=>(match A8 T d with|some .bad=>False|some s'=>den H s'=den H' s|none=>False)∧c7A H H' T r
def c0G(H H':Hp):List SV→List SV→Prop
 |[],[]=>True
 |s::l,s'::l'=>(s'=.bad∨(s≠ .bad∧den H s=den H' s'))∧c0G H H' l l'
 |_,_=>False
def c0h(H H':Hp):Ent→Ent→Prop
 |.blk b cs ty,.blk b' cs' ty'=>b=b'∧c0G H H' cs cs'∧ty=ty'
 |.row v n xs sz ty,.row v' n' xs' sz' ty'=>v=v'∧n=n'∧xs=xs'∧sz=sz'∧ty=ty'
 |.mp b es ty,.mp b' es' ty'=>b=b'∧es=es'∧ty=ty'
 |_,_=>False
def a7w(H H':Hp):List (Option Nat)→Hp→Prop
 |[],[]=>True
 |some k::ks,(_,e')::r=>(match l4 H k with|some e=>c0h H H' e e'|none=>False)∧a7w H H' ks r
 |none::ks,(_,.row v n xs _ _)::r=>(v=.slice none 0 0∧n=0∧xs=[])∧a7w H H' ks r
 |_,_=>False
def Sub(st st':St):Prop:=∃src:List (Option Nat),
 c7A st.H st'.H st.T st'.T∧a7w st.H st'.H src st'.H∧(src.filterMap id).Nodup∧(st'.H.map (·.1)).Nodup∧(∀k,k∈st'.H.map (·.1)→k<st'.nk)
def At(st:St)(w:World):Prop:=st.w=w∧st.lo=w.heap.size∧st.iv=[]
def b0e(X:Cx)(st:St):List ResultVar→Option (List SV)
 |[]=>some []
 |.tmp t::r=>match b3x st.T t,b0e X st r with
  |some .bad,_=>none
  |some s,some l=>some (s::l)
  |_,_=>none
 |.cell a t::r=>match D4 X.tt t,b3x st.T a,b0e X st r with
  |some i,some (.own k o),some l=>match l4 st.H k with
   |some (.blk _ cs _)=>match a4n i.n (a2z o cs)with
    |some c=>match mkv i.agg c with
     |some s=>some (s::l)
     |none=>none
    |none=>none
   |_=>none
  |_,_,_=>none
def a4O:Nat→List SV→List (Nat×SV)
 |_,[]=>[]
 |n,s::l=>(n,s)::a4O (n+1) l
theorem z7{a b:Nat}(h:Nat.beq a b=true):a=b:=by simpa using h
theorem a3y{a b:Nat}(h:Nat.beq a b=false):a≠b:=by
 intro e;subst e;simp at h
theorem o7{H:Hp}{k:Nat}{e:Ent}(h:l4 H k=some e):(k,e)∈H:=by
 induction H with
 |nil=>simp[l4]at h
 |cons x H ih=>
  obtain⟨k',e'⟩:=x;simp only[l4]at h;split at h
  ·rename_i hb;cases h;rw[←z7 hb];exact C7
  ·exact F6 _ (ih h)
theorem Q5{H:Hp}{k k':Nat}{e:Ent}(h:k'≠k):l4 ((k',e)::H) k=l4 H k:=by
 simp only[l4];split
 ·rename_i hb;exact absurd (z7 hb) h
 ·rfl
theorem A3{H:Hp}{b:Nat}:b∈bs H↔∃k e,(k,e)∈H∧b∈bsE e:=by
 induction H with
 |nil=>simp[bs]
 |cons x H ih=>
  obtain⟨k',e'⟩:=x;simp only[bs,E3,ih,u9];constructor
  ·rintro(h|⟨k,e,h,hb⟩)
   ·exact⟨k',e',.inl rfl,h⟩
   ·exact⟨k,e,.inr h,hb⟩
  ·rintro⟨k,e,h|h,hb⟩
   ·cases h;exact .inl hb
   ·exact .inr ⟨k,e,h,hb⟩
theorem a4o{H:Hp}(hn:(bs H).Nodup)(hk:(H.map (·.1)).Nodup){k k':Nat}{e e':Ent}(h:(k,e)∈H)(h':(k',e')∈H)(hne:k≠k'){b:Nat}(hb:b∈bsE e):b∉bsE e':=by
 induction H with
 |nil=>cases h
 |cons x H ih=>
  obtain⟨k0,e0⟩:=x;simp only[bs,a6X,H7,a4i]at hn hk;rcases u9.1 h with h1|h1
  ·rcases u9.1 h' with h2|h2
   ·cases h1;cases h2;exact absurd rfl hne
   ·cases h1;intro hc;exact hn.2.2 b hb b (A3.2 ⟨_,_,h2,hc⟩) rfl
  ·rcases u9.1 h' with h2|h2
   ·cases h2;intro hc;exact hn.2.2 b hc b (A3.2 ⟨_,_,h1,hb⟩) rfl
   ·exact ih hn.2.1 hk.2 h1 h2
theorem H9(H:Hp)(l:List Value):o6 H (vs l)=l:=by
 induction l with
 |nil=>rfl
 |cons x l ih=>simp[vs,o6,den,ih]
theorem u6(H:Hp)(l:List SV):(o6 H l).length=l.length:=by
 induction l with
 |nil=>rfl
 |cons x l ih=>simp[o6,ih]
theorem a0m(H:Hp)(l r:List SV):o6 H (l++r)=o6 H l++o6 H r:=by
 induction l with
 |nil=>rfl
 |cons x l ih=>simp[o6,ih]
theorem V7(H:Hp)(l:List SV):o6 H l=l.map (den H):=by
 induction l with
 |nil=>rfl
 |cons x l ih=>simp[o6,ih]
theorem b4W(H:Hp)(l:List SV)(j:Nat):(o6 H l)[j]?=(l[j]?).map (den H):=by rw[V7];simp
theorem b8P(l:List Value):(vs l).length=l.length:=by
 induction l with
 |nil=>rfl
 |cons x l ih=>simp[vs,ih]
theorem b1E(l:List Value): .bad∉vs l:=by
 induction l with
 |nil=>simp[vs]
 |cons x l ih=>simp[vs,ih]
theorem c3F{H:Hp}{s:SV}{l:List SV}(h:a2t s=some l):(den H s).cells.toList=o6 H l∨(∃k,s=.row k∧l=[.row k]):=by
 cases s with
 |v x=>
  cases x<;>simp only[a2t]at h<;>first|(cases h;left;simp[den,o6,Value.cells,H9];done)|cases h
 |row k=>simp only[a2t]at h;cases h;exact .inr ⟨k,rfl,rfl⟩
 |tup l=>simp[a2t]at h
 |bad=>simp[a2t]at h
 |agg l=>simp only[a2t]at h;cases h;left;simp[den,Value.cells]
 |_=>simp only[a2t]at h;cases h;left;simp[den,o6,Value.cells]
def a6I(H:Hp):Prop:=∀k v n xs sz ty,l4 H k=some (.row v n xs sz ty)→∃a m c,v=.slice a m c∧(0<n→m=n∧n≤c∧∃g,a=some ⟨g,0,none⟩)
theorem a6o{H:Hp}{s:SV}{l:List SV}(h:a2t s=some l)(ho:b0D H l=true)(hr:a6I H):(den H s).cells.toList=o6 H l:=by
 rcases c3F (H:=H) h with h|⟨k,rfl,rfl⟩
 ·exact h
 ·simp only[b0D,b7n]at ho;cases hf:l4 H k with
  |none=>simp[hf]at ho
  |some e=>
   cases e with
   |blk b cs ty=>simp[hf]at ho
   |row v n xs sz ty=>
    obtain⟨a,n',c,rfl,_⟩:=hr k v n xs sz ty hf;simp[den,o6,o5,hf,Value.cells]
   |mp b es ty=>simp[den,o6,o5,hf,Value.cells]
theorem a9M(x:Value):a3T x=x.oneCell':=by cases x<;>rfl
theorem c2h{H:Hp}(hr:a6I H){s:SV}(h:b7n H s=true):(den H s).oneCell'=true∧s≠ .bad:=by
 cases s with
 |v x=>exact⟨by rw[←a9M];exact h,by simp⟩
 |row k=>
  simp only[b7n]at h;cases hf:l4 H k with
  |none=>simp[hf]at h
  |some e=>
   cases e with
   |blk b cs ty=>simp[hf]at h
   |row v n xs sz ty=>
    obtain⟨a,n',c,rfl,_⟩:=hr k v n xs sz ty hf;exact⟨by simp[den,o5,hf,Value.oneCell'],by simp⟩
   |mp b es ty=>exact⟨by simp[den,o5,hf,Value.oneCell'],by simp⟩
 |agg l=>simp[b7n]at h
 |tup l=>simp[b7n]at h
 |bad=>simp[b7n]at h
 |own k o=>exact⟨rfl,by simp⟩
 |ownx k o=>exact⟨rfl,by simp⟩
 |osl k o n c=>exact⟨rfl,by simp⟩
 |fn f l c=>exact⟨rfl,by simp⟩
theorem c1T{H:Hp}{l:List SV}(h:b0D H l=true){s:SV}(hs:s∈l):b7n H s=true:=by
 induction l with
 |nil=>cases hs
 |cons x l ih=>
  simp only[b0D]at h;split at h
  ·rcases u9.1 hs with rfl|hs
   ·assumption
   ·exact ih h hs
  ·cases h
theorem c2m{H:Hp}(hr:a6I H){l:List SV}(h:b0D H l=true):∀x,x∈o6 H l→x.oneCell'=true:=by
 intro x hx;rw[V7]at hx;obtain⟨s,hs,rfl⟩:=L6.1 hx;exact(c2h hr (c1T h hs)).1
theorem b4L{H:Hp}(hr:a6I H){l:List SV}(h:b0D H l=true): .bad∉l:=fun hb=>(c2h hr (c1T h hb)).2 rfl
theorem b0p{H:Hp}{l:List SV}{xs:List Value}(h:q8 H l xs):l.length=xs.length:=by
 induction l generalizing xs with
 |nil=>cases xs with
  |nil=>rfl
  |cons x xs=>simp[q8]at h
 |cons s l ih=>cases xs with
  |nil=>simp[q8]at h
  |cons x xs=>simp only[q8]at h;simp[ih h.2]
theorem a7N{H:Hp}(l:List SV):q8 H l (o6 H l):=by
 induction l with
 |nil=>trivial
 |cons s l ih=>exact⟨.inr rfl,ih⟩
theorem a2T{H H':Hp}{l:List SV}{xs:List Value}(h:q8 H l xs)(hd:∀s,s∈l→s≠ .bad→den H' s=den H s):q8 H' l xs:=by
 induction l generalizing xs with
 |nil=>cases xs<;>simp_all[q8]
 |cons t l ih=>cases xs with
  |nil=>simp[q8]at h
  |cons x xs=>
   simp only[q8]at h⊢;refine⟨?_,ih h.2 fun s hs=>hd s (F6 _ hs)⟩;rcases h.1 with h1|h1
   ·exact .inl h1
   ·by_cases hb:t=.bad
    ·exact .inl hb
    ·exact .inr (by rw[hd t C7 hb];exact h1)
theorem b0b{H:Hp}{l l':List SV}{xs xs':List Value}(h:q8 H l xs)(h':q8 H l' xs'):q8 H (l++l') (xs++xs'):=by
 induction l generalizing xs with
 |nil=>cases xs with
  |nil=>exact h'
  |cons x xs=>simp[q8]at h
 |cons t l ih=>cases xs with
  |nil=>simp[q8]at h
  |cons x xs=>simp only[q8]at h;exact⟨h.1,ih h.2⟩
theorem b3W{H:Hp}{l:List SV}{xs:List Value}(h:q8 H l xs)(n:Nat):q8 H (l.take n) (xs.take n):=by
 induction l generalizing xs n with
 |nil=>cases xs with
  |nil=>simp[q8]
  |cons x xs=>simp[q8]at h
 |cons t l ih=>cases xs with
  |nil=>simp[q8]at h
  |cons x xs=>
   simp only[q8]at h;cases n with
   |zero=>trivial
   |succ n=>exact⟨h.1,ih h.2 n⟩
theorem b3H{H:Hp}{l:List SV}{xs:List Value}(h:q8 H l xs)(n:Nat):q8 H (l.drop n) (xs.drop n):=by
 induction l generalizing xs n with
 |nil=>cases xs with
  |nil=>simp[q8]
  |cons x xs=>simp[q8]at h
 |cons t l ih=>cases xs with
  |nil=>simp[q8]at h
  |cons x xs=>
   simp only[q8]at h;cases n with
   |zero=>exact h
   |succ n=>exact ih h.2 n
theorem b4O(n:Nat)(l:List SV):a2z n l=l.drop n:=by
 induction n generalizing l with
 |zero=>cases l<;>rfl
 |succ n ih=>cases l with
  |nil=>rfl
  |cons x l=>simp[a2z,ih]
theorem a8Z{n:Nat}{l r:List SV}(h:a4n n l=some r):r.length=n∧r=l.take n∧ .bad∉r:=by
 induction n generalizing l r with
 |zero=>simp[a4n]at h;subst h;simp
 |succ n ih=>cases l with
  |nil=>simp[a4n]at h
  |cons x l=>
   cases x with
   |bad=>simp[a4n]at h
   |_=>
    simp only[a4n]at h;split at h
    ·rename_i r' hr;cases h;obtain⟨h1,h2,h3⟩:=ih hr;subst h2;exact⟨by simp[h1],by simp,by simpa using h3⟩
    ·cases h
theorem b2o{H:Hp}{cs l:List SV}{xs:List Value}{o n:Nat}(h:q8 H cs xs)(ht:a4n n (a2z o cs)=some l):(xs.drop o).take n=o6 H l∧l.length=n∧ .bad∉l:=by
 rw[b4O]at ht;obtain⟨h1,h2,h3⟩:=a8Z ht;refine⟨?_,h1,h3⟩;have hc:=b3W (b3H h o) n;rw[←h2]at hc;clear ht h2;generalize (xs.drop o).take n=ys at hc⊢;clear h h1
 induction l generalizing ys with
 |nil=>cases ys with
  |nil=>rfl
  |cons y ys=>simp[q8]at hc
 |cons t l ih=>cases ys with
  |nil=>simp[q8]at hc
  |cons y ys=>
   simp only[q8]at hc;simp only[u9,not_or]at h3;rcases hc.1 with hc1|hc1
   ·exact absurd hc1.symm h3.1
   ·simp[o6,hc1,ih h3.2 _ hc.2]
theorem a9G{α:Type}{o:Nat}{xs l r:List α}(h:over o xs l=some r):r=l.take o++xs++l.drop (o+xs.length)∧o+xs.length≤l.length:=by
 induction o generalizing l r with
 |zero=>
  induction xs generalizing l r with
  |nil=>simp[over]at h;subst h;simp
  |cons x xs ih=>cases l with
   |nil=>simp[over]at h
   |cons y l=>
    simp only[over]at h;split at h
    ·rename_i r' hr;cases h;obtain⟨h1,h2⟩:=ih hr;simp only[a7Q,a2B,a0k]at h1 h2⊢;refine⟨?_,by simp at h2⊢;omega⟩;rw[h1];simp
    ·cases h
 |succ o ih=>cases l with
  |nil=>simp[over]at h
  |cons y l=>
   simp only[over]at h;split at h
   ·rename_i r' hr;cases h;obtain⟨h1,h2⟩:=ih hr;refine⟨?_,by simp at h2⊢;omega⟩;rw[h1];simp[Nat.add_right_comm o 1]
   ·cases h
theorem b1Z{H:Hp}{agg:Bool}{l:List SV}{s:SV}(h:mkv agg l=some s)(hb: .bad∉l):
 s≠ .bad∧((agg=true∧den H s=.agg (o6 H l).toArray)∨(agg=false∧o6 H l=[den H s])):=by
 cases agg with
 |true=>simp only[mkv]at h;cases h;exact⟨by simp,.inl ⟨rfl,by simp[den]⟩⟩
 |false=>
  match l,h with
  |[x],h=>simp only[mkv]at h;cases h;exact⟨fun e=>hb (by simp[e]),.inr ⟨rfl,rfl⟩⟩
  |[],h=>simp[mkv]at h
  |_::_::_,h=>simp[mkv]at h
theorem b2F{H:Hp}{agg:Bool}{l:List Value}{s:SV}(h:a8k agg l=some s):
 s≠ .bad∧((agg=true∧den H s=.agg l.toArray)∨(agg=false∧l=[den H s])):=by
 cases agg with
 |true=>simp only[a8k]at h;cases h;exact⟨by simp,.inl ⟨rfl,by simp[den,H9]⟩⟩
 |false=>
  match l,h with
  |[x],h=>simp only[a8k]at h;cases h;exact⟨by simp,.inr ⟨rfl,rfl⟩⟩
  |[],h=>simp[a8k]at h
  |_::_::_,h=>simp[a8k]at h
mutual
theorem a9D{H H':Hp}(k:Nat)(hb:∀j,j≠k→bOf H' j=bOf H j∧o5 H' j=o5 H j):∀(s:SV),ment k s=false→den H' s=den H s
 |.v _,_=>rfl
 |.own j o,h=>by simp only[ment]at h;simp[den,(hb j (a3y h)).1]
 |.ownx j o,h=>by simp only[ment]at h;simp[den,(hb j (a3y h)).1]
 |.osl j o n c,h=>by simp only[ment]at h;simp[den,(hb j (a3y h)).1,(hb j (a3y h)).2]
 |.row j,h=>by simp only[ment]at h;simp[den,(hb j (a3y h)).2]
 |.agg l,h=>by simp only[ment]at h;simp[den,a3O k hb l h]
 |.tup l,h=>by simp only[ment]at h;simp[den,a3O k hb l h]
 |.fn f l c,h=>by
  simp only[ment]at h;split at h
  ·cases h
  ·rename_i hf;simp[den,a3O k hb l hf,a3O k hb c h]
 |.bad,_=>rfl
theorem a3O{H H':Hp}(k:Nat)(hb:∀j,j≠k→bOf H' j=bOf H j∧o5 H' j=o5 H j):∀(l:List SV),I2 k l=false→o6 H' l=o6 H l
 |[],_=>rfl
 |s::l,h=>by
  simp only[I2]at h;split at h
  ·cases h
  ·rename_i hf;simp[o6,a9D k hb s hf,a3O k hb l h]
end
mutual
theorem a9i{H H':Hp}(hb:∀j,bOf H' j=bOf H j∧o5 H' j=o5 H j):∀(s:SV),den H' s=den H s
 |.v _=>rfl
 |.own j o=>by simp[den,(hb j).1]
 |.ownx j o=>by simp[den,(hb j).1]
 |.osl j o n c=>by simp[den,(hb j).1,(hb j).2]
 |.row j=>by simp[den,(hb j).2]
 |.agg l=>by simp[den,a7k hb l]
 |.tup l=>by simp[den,a7k hb l]
 |.fn f l c=>by simp[den,a7k hb l,a7k hb c]
 |.bad=>rfl
theorem a7k{H H':Hp}(hb:∀j,bOf H' j=bOf H j∧o5 H' j=o5 H j):∀(l:List SV),o6 H' l=o6 H l
 |[]=>rfl
 |s::l=>by simp[o6,a9i hb s,a7k hb l]
end
theorem Fx.refl(own:List Nat)(w:World):Fx own w w:=⟨rfl,rfl,rfl,y6 _,fun _ _ _=>rfl⟩
theorem Fx.trans{o1 o2 o3:List Nat}{a b c:World}(h:Fx o1 a b)(k:Fx o2 b c)(h1:∀i,i∈o1→i∈o3)(h2:∀i,i∈o2→i∈o3∨a.heap.size≤i):Fx o3 a c:=
 ⟨k.os.trans h.os,k.tape.trans h.tape,k.output.trans h.output,z6 h.size k.size,fun i hi hn=>by
  rw[k.block i (C5 hi h.size),h.block i hi fun b hb=>hn b (h1 b hb)];intro b hb;rcases h2 b hb with h|h
  ·exact hn b h
  ·omega⟩
theorem Fx.of_below{own:List Nat}{a b c:World}(h:Fx own a b)(k:Below b.heap.size b c):Fx own a c:=
 ⟨k.os.trans h.os,k.tape.trans h.tape,k.output.trans h.output,z6 h.size k.size,fun i hi hn=>by
  rw[k.block i (C5 hi h.size),h.block i hi hn]⟩
theorem Fx.below{a b:World}(h:Fx [] a b):Below a.heap.size a b:=⟨h.os,h.tape,h.output,h.size,fun i hi=>h.block i hi (by simp)⟩
theorem Fx.drew{own:List Nat}{a b:World}(h:Fx own a b):Fx own a { b with drawn:=b.drawn+1}:=⟨h.os,h.tape,h.output,h.size,h.block⟩
def a0P:TypeDesc→Bool
 |.struct _=>true
 |.array _ _=>true
 |_=>false
def szB(P:Program)(t n:Nat):Bool:=match P.info? t with
 |some i=>Nat.beq i.size n
 |none=>false
def b7e(P:Program):List Field→List (Nat×Nat×Nat)→Bool
 |[],[]=>true
 |f::F,(t,o,n)::r=>Nat.beq f.type t&&(Nat.beq f.offset o&&(szB P t n&&(!(Nat.beq n 0)&&b7e P F r)))
 |_,_=>false
def tdB(P:Program):TD→TypeDesc→Bool
 |.int,.int _=>true
 |.bool,.bool=>true
 |.str,.string=>true
 |.other,_=>true
 |.slice e esz bytes,.slice e'=>Nat.beq e e'&&(match P.info? e with|some i=>Nat.beq i.size esz&&Nat.beq i.bytes bytes|none=>false)
 |.arr len e esz,.array len' e'=>Nat.beq len len'&&(Nat.beq e e'&&szB P e esz)
 |.struct fs,.struct F=>b7e P F.toList fs
 |_,_=>false
def b5L(P:Program)(go:TypeId→Option (List CK)):Nat→List Field→Option (List CK)
 |_,[]=>some []
 |off,f::fs=>
  if f.name≠ "_" ∧f.offset=off then
   match go f.type with
   |some ks=>if szB P f.type ks.length then
    match b5L P go (off+ks.length) fs with
    |some r=>some (ks++r)
    |none=>none
    else none
   |none=>none
  else none
def flatK(P:Program):Nat→TypeId→Option (List CK)
 |0,_=>none
 |d+1,t=>match P.underlying t with
  |some (.int k)=>some [.int k]
  |some .bool=>some [.bool]
  |some .string=>some [.str]
  |some (.struct F)=>if P.stoodInHeld t then none else b5L P (flatK P d) 0 F.toList
  |some (.array n e)=>(match flatK P d e with
   |some ks=>if szB P e ks.length then some (List.replicate n ks).flatten else none
   |none=>none)
  |_=>none
def c4n(P:Program)(t:Nat)(i:TI):Bool:=match P.underlying t with
 |some d=>(i.agg==a0P d)&&(tdB P i.d d&&(match i.eq with
  |none=>true
  |some ks=>(flatK P 100 t==some ks)&& !(P.eqGuardType P.depth t)))
 |none=>false
structure P6(P:Program)(t:Nat)(i:TI):Prop where
 info:∃inf z,P.info? t=some inf∧inf.size=i.n∧inf.zero=some z∧z.cells.toList=i.z
 zn:i.z.length=i.n
 zo:∀x,x∈i.z→x.oneCell'=true
 chk:c4n P t i=true
theorem P6.of{P:Program}{t:Nat}{i:TI}(z:Value)(h1:(P.info? t).map (fun f=>(f.size,f.zero))=some (i.n,some z))(h2:z.cells.toList=i.z)
 (h3:(Nat.beq i.z.length i.n&&i.z.all Value.oneCell')=true) (h4:c4n P t i=true):P6 P t i:=by
 simp only[D7]at h3;refine⟨?_,z7 h3.1,fun x hx=>V6.1 h3.2 x hx,h4⟩;cases hi:P.info? t with
 |none=>simp[hi]at h1
 |some inf=>simp[hi]at h1;exact⟨inf,z,rfl,h1.1,h1.2,h2⟩
def a3N(P:Program)(tt:List (Nat×TI)):Prop:=∀t i,D4 tt t=some i→P6 P t i
theorem a3N.nil(P:Program):a3N P []:=fun t i h=>by simp[D4]at h
theorem a3N.cons{P:Program}{k:Nat}{i:TI}{tt:List (Nat×TI)}(h:P6 P k i)(ht:a3N P tt):a3N P ((k,i)::tt):=by
 intro t j hj;simp only[D4]at hj;split at hj
 ·rename_i hb;cases hj;rw[←z7 hb];exact h
 ·exact ht t j hj
section
variable {P : Program}{t : Nat}{i : TI}
theorem P6.und(h:P6 P t i):∃d,P.underlying t=some d∧i.agg=a0P d∧tdB P i.d d=true:=by
 have hc:=h.chk;unfold c4n at hc;cases hu:P.underlying t with
 |none=>simp[hu]at hc
 |some d=>simp only[hu,D7,L9]at hc;exact⟨d,rfl,hc.1,hc.2.1⟩
theorem P6.run_size(h:P6 P t i)(w:World):(sizeOf t).run P w=.ok i.n w:=by
 obtain⟨inf,z,hi,hs,_⟩:=h.info;simp[sizeOf,typeInfo,hi,hs]
theorem P6.run_zero(h:P6 P t i):∃z,z.cells.toList=i.z∧∀w,(zeroValue t).run P w=.ok z w:=by
 obtain⟨inf,z,hi,_,hz,hc⟩:=h.info;exact⟨z,hc,fun w=>by simp[zeroValue,typeInfo,hi,hz]⟩
theorem A5{d:TypeDesc}(h:P.underlying t=some d)(w:World):(underlying t).run P w=.ok d w:=by simp[underlying,h]
theorem P6.run_isAgg(h:P6 P t i)(w:World):(isAgg t).run P w=.ok i.agg w:=by
 obtain⟨d,hu,ha,_⟩:=h.und;rw[ha];simp only[isAgg,y9,A5 hu,I9];cases d<;>rfl
theorem b2l{n:Nat}(h:szB P t n=true):∃inf,P.info? t=some inf∧inf.size=n:=by
 unfold szB at h;cases hi:P.info? t with
 |none=>simp[hi]at h
 |some inf=>simp only[hi]at h;exact⟨inf,rfl,z7 h⟩
theorem a9C{n:Nat}(h:szB P t n=true)(w:World):(sizeOf t).run P w=.ok n w:=by
 obtain⟨inf,hi,hs⟩:=b2l h;simp[sizeOf,typeInfo,hi,hs]
theorem b6E{F:List Field}{fs:List (Nat×Nat×Nat)}(h:b7e P F fs=true){j ty off n:Nat}(hj:b1k fs j=some (ty,off,n)):
 ∃f,F[j]?=some f∧f.type=ty∧f.offset=off∧szB P ty n=true∧n≠0:=by
 induction F generalizing fs j with
 |nil=>cases fs with
  |nil=>simp[b1k]at hj
  |cons x fs=>simp[b7e]at h
 |cons f F ih=>cases fs with
  |nil=>simp[b7e]at h
  |cons x fs=>
   obtain⟨t',o',n'⟩:=x;simp only[b7e,D7,a5J]at h;obtain⟨h1,h2,h3,h4,h5⟩:=h;cases j with
   |zero=>
    simp only[b1k,Y9,a5l]at hj;obtain⟨rfl,rfl,rfl⟩:=hj;exact⟨f,rfl,z7 h1,z7 h2,h3,fun e=>by subst e;simp at h4⟩
   |succ j=>simp only[b1k]at hj;simpa using ih h5 hj
theorem P6.struct{fs:List (Nat×Nat×Nat)}(h:P6 P t i)(hd:i.d=.struct fs):∃F,P.underlying t=some (.struct F)∧b7e P F.toList fs=true:=by
 obtain⟨d,hu,_,htd⟩:=h.und;rw[hd]at htd;cases d<;>simp only[tdB]at htd<;>first|exact⟨_,hu,htd⟩|cases htd
theorem P6.kind{n:Nat}{agg:Bool}{z:List Value}{k:IntKind}(h:P6 P t ⟨n,agg,z,some [.int k],.int⟩):P.underlying t=some (.int k):=by
 have hc:=h.chk;obtain⟨d,hu,_,htd⟩:=h.und;simp only at htd;cases d<;>simp only[tdB]at htd<;>try cases htd
 rename_i k';simp only[c4n,hu,D7,L9]at hc;have:=hc.2.2.1;rw[show(100:Nat)=99+1 from rfl,flatK,hu]at this;simp only[Y9,a8w,CK.int.injEq,and_true]at this;rw[hu,this]
theorem P6.slice{e esz bytes:Nat}(h:P6 P t i)(hd:i.d=.slice e esz bytes):P.underlying t=some (.slice e)∧∃inf,P.info? e=some inf∧inf.size=esz∧inf.bytes=bytes:=by
 obtain⟨d,hu,_,htd⟩:=h.und;rw[hd]at htd;cases d<;>simp only[tdB]at htd<;>try cases htd
 simp only[D7]at htd;obtain⟨h1,h2⟩:=htd;obtain rfl:=z7 h1;refine⟨hu,?_⟩;cases hi:P.info? e with
 |none=>simp[hi]at h2
 |some inf=>simp only[hi,D7]at h2;exact⟨inf,rfl,z7 h2.1,z7 h2.2⟩
theorem P6.arr{len e esz:Nat}(h:P6 P t i)(hd:i.d=.arr len e esz):P.underlying t=some (.array len e)∧szB P e esz=true:=by
 obtain⟨d,hu,_,htd⟩:=h.und;rw[hd]at htd;cases d<;>simp only[tdB]at htd<;>try cases htd
 simp only[D7]at htd;obtain⟨h1,h2,h3⟩:=htd;obtain rfl:=z7 h1;obtain rfl:=z7 h2;exact⟨hu,h3⟩
theorem P6.strg(h:P6 P t i)(hd:i.d=.str):P.underlying t=some .string:=by
 obtain⟨d,hu,_,htd⟩:=h.und;rw[hd]at htd;cases d<;>simp only[tdB]at htd<;>first|exact hu|cases htd
theorem c2O{a b:IntKind}(h:kEq a b=true):a=b:=by cases a<;>cases b<;>first|rfl|(simp[kEq]at h)
theorem c1d{H:Hp}{k:CK}{x y:SV}{e:Bool}(h:eqC k x y=some e):a0q k (den H x)∧a0q k (den H y)∧e=eqV (den H x) (den H y):=by
 unfold eqC at h;split at h
 ·split at h
  ·rename_i h1 h2;cases h;exact⟨(c2O h1).symm,(c2O h2).symm,rfl⟩
  ·cases h
 ·cases h;exact⟨trivial,trivial,rfl⟩
 ·cases h;exact⟨trivial,trivial,rfl⟩
 ·cases h
theorem c5x{H:Hp}{ks:List CK}{l m:List SV}{e:Bool}(h:a7S ks l m=some e):s8 ks (o6 H l)∧s8 ks (o6 H m)∧e=a0j (o6 H l) (o6 H m):=by
 induction ks generalizing l m e with
 |nil=>cases l<;>cases m<;>simp[a7S]at h;subst h;exact⟨trivial,trivial,rfl⟩
 |cons k ks ih=>
  match l,m,h with
  |[],[],h=>cases ks<;>simp[a7S]at h
  |[],_::_,h=>cases ks<;>simp[a7S]at h
  |_::_,[],h=>cases ks<;>simp[a7S]at h
  |x::l,y::m,h=>
   cases ks with
   |nil=>
    cases l with
    |nil=>cases m with
     |nil=>
      simp only[a7S]at h;obtain⟨h1,h2,h3⟩:=c1d (H:=H) h;exact⟨⟨h1,trivial⟩,⟨h2,trivial⟩,by simp[o6,a0j,h3]⟩
     |cons z m=>simp[a7S]at h
    |cons z l=>simp[a7S]at h
   |cons k2 ks=>
    simp only[a7S]at h;split at h
    ·rename_i a b ha hb;cases h;obtain⟨h1,h2,h3⟩:=c1d (H:=H) ha;obtain⟨g1,g2,g3⟩:=ih hb;exact⟨⟨h1,g1⟩,⟨h2,g2⟩,by rw[h3,g3];rfl⟩
    ·cases h
theorem D9{ks:List CK}{xs:List Value}(h:s8 ks xs):xs.length=ks.length:=by
 induction ks generalizing xs with
 |nil=>cases xs<;>simp_all[s8]
 |cons k ks ih=>cases xs with
  |nil=>simp[s8]at h
  |cons x xs=>simp only[s8]at h;simp[ih h.2]
theorem a3X{k1 k2:List CK}{xs:List Value}(h:s8 (k1++k2) xs):∃a b,xs=a++b∧s8 k1 a∧s8 k2 b:=by
 induction k1 generalizing xs with
 |nil=>exact⟨[],xs,rfl,trivial,h⟩
 |cons k ks ih=>cases xs with
  |nil=>simp[s8]at h
  |cons x xs=>
   simp only[a1l,s8]at h;obtain⟨a,b,rfl,h1,h2⟩:=ih h.2;exact⟨x::a,b,rfl,⟨h.1,h1⟩,h2⟩
theorem b3C{a b c d:List Value}(h:a.length=c.length):a0j (a++b) (c++d)=(a0j a c&&a0j b d):=by
 induction a generalizing c with
 |nil=>cases c with
  |nil=>simp[a0j]
  |cons x c=>simp at h
 |cons x a ih=>cases c with
  |nil=>simp at h
  |cons y c=>simp only[a1l,a0j];rw[ih (by simpa using h)];simp[Bool.and_assoc]
def F5(P:Program)(t:Nat):Bool:=match P.underlying t with|some d=>a0P d|none=>false
def mkV(P:Program)(t:Nat)(xs:List Value):Value:=match F5 P t with
 |true=>.agg xs.toArray
 |false=>xs.headD undef
theorem a8j{d:Nat}{ks:List CK}(hk:flatK P d t=some ks)(hsz:szB P t ks.length=true){pre xs post:List Value}(hx:s8 ks xs)(w:World):
 (part t (pre++(xs++post)).toArray pre.length).run P w=.ok (mkV P t xs) w:=by
 have hl:=D9 hx;cases d with
 |zero=>simp[flatK]at hk
 |succ d=>
  unfold flatK at hk;cases hu:P.underlying t with
  |none=>simp[hu]at hk
  |some td=>
   have hag:(isAgg t).run P w=.ok (a0P td) w:=by
    simp only[isAgg,y9,A5 hu,I9];cases td<;>rfl
   simp only[part,y9,hag,I9,mkV,F5,hu];cases hg:a0P td with
   |true=>
    simp only[D2,y9,a9C hsz,I9,O7];congr 2;apply N8;simp[←hl]
   |false=>
    simp only[hu]at hk;have h1:ks.length=1:=by cases td<;>simp_all[a0P]<;>(subst hk;rfl)
    match xs,hl with
    |[x],_=>simp
    |[],hl=>simp[h1]at hl
    |_::_::_,hl=>simp[h1]at hl
theorem b5h(d:Nat):∀(D t:Nat) (ks:List CK),flatK P d t=some ks→d≤D→∀(xs ys:List Value) (w:World),s8 ks xs→s8 ks ys→
 (Op.equalIn D t (mkV P t xs) (mkV P t ys)).run P w=.ok (a0j xs ys) w:=by
 induction d with
 |zero=>intro D t ks hk;simp[flatK]at hk
 |succ d ih=>
  intro D t ks hk hD xs ys w hx hy;obtain⟨D,rfl⟩:∃D',D=D'+1:=⟨D-1,by omega⟩;unfold flatK at hk;cases hu:P.underlying t with
  |none=>simp[hu]at hk
  |some td=>
   simp only[hu]at hk;cases td with
   |int k=>
    simp only[Y9]at hk;subst hk
    match xs,ys,hx,hy with
    |[.int k1 a],[.int k2 b],hx,hy=>
     simp only[s8,a0q]at hx hy;obtain⟨rfl,_⟩:=hx;obtain⟨rfl,_⟩:=hy;simp[mkV,F5,hu,a0P,Op.equalIn,A5 hu,a0j,eqV]
   |bool=>
    simp only[Y9]at hk;subst hk
    match xs,ys,hx,hy with
    |[.bool a],[.bool b],hx,hy=>simp[mkV,F5,hu,a0P,Op.equalIn,A5 hu,a0j,eqV]
   |string=>
    simp only[Y9]at hk;subst hk
    match xs,ys,hx,hy with
    |[.string a],[.string b],hx,hy=>simp[mkV,F5,hu,a0P,Op.equalIn,A5 hu,a0j,eqV,beq_toListBytes]
   |struct F=>
    simp only at hk;split at hk
    ·cases hk
    ·rename_i hst;have hF:P.fieldsOf t=F:=by simp[Program.fieldsOf,hu]
     have e1:mkV P t xs=.agg xs.toArray:=by simp[mkV,F5,hu,a0P]
     have e2:mkV P t ys=.agg ys.toArray:=by simp[mkV,F5,hu,a0P]
     rw[e1,e2,run_equalIn_struct w D t _ _ (by rw[hF];exact hu) (by simpa using hst),hF]
     have key:∀(fs:List Field) (off:Nat) (ks:List CK),b5L P (flatK P d) off fs=some ks→∀(p q xs ys:List Value) (w:World),p.length=off→q.length=off→s8 ks xs→s8 ks ys→
      (Op.eqFields D (p++xs).toArray (q++ys).toArray fs).run P w=.ok (a0j xs ys) w:=by
      intro fs
      induction fs with
      |nil=>
       intro off ks hk p q xs ys w _ _ hx hy;simp only[b5L,Y9]at hk;subst hk;cases xs with
       |nil=>simp[Op.eqFields,a0j]
       |cons x xs=>simp[s8]at hx
      |cons f fs ihf=>
       intro off ks hk p q xs ys w hp hq hx hy;simp only[b5L]at hk;split at hk
       ·rename_i hn;split at hk
        ·rename_i k1 hk1;split at hk
         ·rename_i hsz;split at hk
          ·rename_i r hr;simp only[Y9]at hk;subst hk;obtain⟨a,b,rfl,ha,hb⟩:=a3X hx;obtain⟨a',b',rfl,ha',hb'⟩:=a3X hy;have hla:=D9 ha;have hla':=D9 ha';have hp1:=a8j (pre:=p) (post:=b) hk1 hsz ha w;have hp2:=a8j (pre:=q) (post:=b') hk1 hsz ha' w;rw[hp]at hp1;rw[hq]at hp2;have he:=ih D f.type k1 hk1 (by omega) a a' w ha ha';have hrest:=ihf _ _ hr (p++a) (q++a') b b' w (by simp[hp,hla]) (by simp[hq,hla']) hb hb';simp only[a3z]at hrest;simp only[Op.eqFields,hn.1,ne_eq,not_false_eq_true,D2,hn.2,y9,hp1,hp2,I9,he,b3C (hla.trans hla'.symm)];cases a0j a a'<;>simp[hrest]
          ·cases hk
         ·cases hk
        ·cases hk
       ·cases hk
     exact key F.toList 0 ks hk [] [] xs ys w rfl rfl hx hy
   |array n e=>
    simp only at hk;split at hk
    ·rename_i k1 hk1;split at hk
     ·rename_i hsz;simp only[Y9]at hk;subst hk;obtain⟨inf,hi1,hi2⟩:=b2l hsz;have hcell:P.cellsOf e=k1.length:=by simp[Program.cellsOf,hi1,hi2]
      have e1:mkV P t xs=.agg xs.toArray:=by simp[mkV,F5,hu,a0P]
      have e2:mkV P t ys=.agg ys.toArray:=by simp[mkV,F5,hu,a0P]
      rw[e1,e2,run_equalIn_array w D _ _ hu hi1,hcell,List.range_eq_range']
      have key:∀(m j:Nat) (p q xs ys:List Value) (w:World),p.length=j*k1.length→q.length=j*k1.length→s8 (List.replicate m k1).flatten xs→s8 (List.replicate m k1).flatten ys→
       (Op.eqItems D e k1.length (p++xs).toArray (q++ys).toArray (List.range' j m)).run P w=.ok (a0j xs ys) w:=by
       intro m
       induction m with
       |zero=>
        intro j p q xs ys w _ _ hx hy;cases xs with
        |nil=>cases ys with
         |nil=>simp[Op.eqItems,a0j]
         |cons y ys=>simp[s8]at hy
        |cons x xs=>simp[s8]at hx
       |succ m ihm=>
        intro j p q xs ys w hp hq hx hy;rw[List.replicate_succ,List.flatten_cons]at hx hy;obtain⟨a,b,rfl,ha,hb⟩:=a3X hx;obtain⟨a',b',rfl,ha',hb'⟩:=a3X hy;have hla:=D9 ha;have hla':=D9 ha';have hp1:=a8j (pre:=p) (post:=b) hk1 hsz ha w;have hp2:=a8j (pre:=q) (post:=b') hk1 hsz ha' w;rw[hp]at hp1;rw[hq]at hp2;have he:=ih D e k1 hk1 (by omega) a a' w ha ha';have hrest:=ihm (j+1) (p++a) (q++a') b b' w (by rw[O6,hp,hla,R7,Nat.one_mul]) (by rw[O6,hq,hla',R7,Nat.one_mul]) hb hb';simp only[a3z]at hrest;simp only[List.range'_succ,Op.eqItems,y9,hp1,hp2,I9,he,b3C (hla.trans hla'.symm)];cases a0j a a'<;>simp[hrest]
      exact key n 0 [] [] xs ys w (by simp) (by simp) hx hy
     ·cases hk
    ·cases hk
   |_=>simp at hk
end
theorem b0N{H:Hp}{s:SV}{l:List SV}{b:Bool}(h:a8b b s=some l):(b=true∧den H s=.agg (o6 H l).toArray)∨(b=false∧∃x,den H s=.bool x∧o6 H l=[.bool x]):=by
 unfold a8b at h;split at h
 ·cases h;exact .inl ⟨rfl,by simp[den]⟩
 ·cases h;exact .inl ⟨rfl,by simp[den,H9]⟩
 ·cases h;exact .inr ⟨rfl,_,rfl,rfl⟩
 ·cases h
theorem P6.run_eq{P:Program}{t:Nat}{i:TI}{ks:List CK}(h:P6 P t i)(hk:i.eq=some ks){H:Hp}{s r:SV}{l m:List SV}{e:Bool}
 (hs:a8b i.agg s=some l) (hr:a8b i.agg r=some m) (he:a7S ks l m=some e) (x y:Operand) (w:World):
 (do eqGuard .eql t x y (den H s) (den H r);binOp .eql t (den H s) (den H r)).run P w=.ok (.bool e) w∧
 (do eqGuard .neq t x y (den H s) (den H r);binOp .neq t (den H s) (den H r)).run P w=.ok (.bool (!e)) w:=by
 obtain⟨d,hu,ha,_⟩:=h.und;have hc:=h.chk;simp only[c4n,hu,hk,D7,a5J]at hc;obtain⟨_,_,hfl,hg⟩:=hc;have hfl':flatK P 100 t=some ks:=by simpa using hfl
 obtain⟨h1,h2,h3⟩:=c5x (H:=H) he;have hq:=b5h (P:=P) 100 10000 t ks hfl' (by decide) _ _ w h1 h2;rw[←h3]at hq;rcases b0N (H:=H) hs with⟨ga,gs⟩|⟨ga,b1,gs,gl⟩
 ·rcases b0N (H:=H) hr with⟨_,gr⟩|⟨gb,_⟩
  ·have hst:F5 P t=true:=by simp[F5,hu,←ha,ga]
   simp only[mkV,hst]at hq;rw[gs,gr];constructor
   ·simp[run_eqGuard_agg w .eql t x y _ _ hg,run_eql_struct,hq]
   ·simp[run_eqGuard_agg w .neq t x y _ _ hg,run_neq_struct,hq]
  ·rw[ga]at gb;cases gb
 ·rcases b0N (H:=H) hr with⟨gb,_⟩|⟨_,b2,gr,gm⟩
  ·rw[ga]at gb;cases gb
  ·have hst:F5 P t=false:=by simp[F5,hu,←ha,ga]
   simp only[mkV,hst,gl,gm,List.headD]at hq;rw[gs,gr];constructor
   ·simp[eqGuard,binOp,Op.equal,Op.maxDepth,hq]
   ·simp[eqGuard,binOp,Op.equal,Op.maxDepth,hq]
theorem c0k{k:CK}{x y:Value}(n:Nat)(hx:a0q k x)(hy:a0q k y)(h:eqV x y=true):Instr.sameBits (n+1) y x=true:=by
 cases k with
 |int k=>
  cases x<;>simp only[a0q]at hx;cases y<;>simp only[a0q]at hy;simp only[eqV,L9]at h;subst hx hy h;simp[Instr.sameBits]
 |bool=>
  cases x<;>simp only[a0q]at hx;cases y<;>simp only[a0q]at hy;simp only[eqV,L9]at h;subst h;simp[Instr.sameBits]
 |str=>
  cases x<;>simp only[a0q]at hx;cases y<;>simp only[a0q]at hy;rename_i a b;simp only[eqV]at h;have h2:(b==a)=true:=by rw[beq_toListBytes];simp only[L9]at h⊢;exact h.symm
  simpa only[Instr.sameBits]using h2
theorem a6s:∀ {ks:List CK}{xs ys:List Value} (n:Nat),s8 ks xs→s8 ks ys→a0j xs ys=true→(ys.zip xs).all (fun(x,y)=>Instr.sameBits (n+1) x y)=true∧ys.length=xs.length
 |[],[],[],_,_,_,_=>⟨rfl,rfl⟩
 |k::ks,x::xs,y::ys,n,hx,hy,h=>by
  simp only[s8]at hx hy;simp only[a0j,D7]at h;obtain⟨h1,h2⟩:=a6s n hx.2 hy.2 h.2;exact⟨by simp only[List.zip_cons_cons,List.all_cons,c0k n hx.1 hy.1 h.1,Bool.true_and];exact h1,by simp[h2]⟩
 |[],_::_,_,_,hx,_,_=>by simp[s8]at hx
 |_::_,[],_,_,hx,_,_=>by simp[s8]at hx
 |_::_,_::_,[],_,_,hy,_=>by simp[s8]at hy
 |[],[],_::_,_,_,hy,_=>by simp[s8]at hy
theorem b1a{k:CK}{d:TypeDesc}{x y:Value}(hd:match k,d with|.int _,.int _=>True|.bool,.bool=>True|.str,.string=>True|_,_=>False)(hx:s8 [k] [x])(hy:s8 [k] [y]):Instr.sameNow d x y=some (eqV x y):=by
 have hx:=hx.1;have hy:=hy.1;cases k with
 |int k=>
  cases d<;>first|exact hd.elim|skip
  cases x<;>simp only[a0q]at hx;cases y<;>simp only[a0q]at hy;subst hx hy;simp[Instr.sameNow,eqV]
 |bool=>
  cases d<;>first|exact hd.elim|skip
  cases x<;>simp only[a0q]at hx;cases y<;>simp only[a0q]at hy;rfl
 |str=>
  cases d<;>first|exact hd.elim|skip
  cases x<;>simp only[a0q]at hx;cases y<;>simp only[a0q]at hy;simp only[Instr.sameNow,eqV,beq_toListBytes]
def a1j:List MapEntry→List Value→Nat→Option (Nat×Value)
 |[],_,_=>none
 |e::r,kc,i=>match a0j kc (D5 e.key)with|true=>some (i,e.val)|false=>a1j r kc (i+1)
theorem c8b(x y:Value):a0j [x] [y]=eqV x y:=by simp[a0j]
theorem a7q{P:Program}{kt:TypeId}{ks:List CK}(hfl:flatK P 100 kt=some ks){kc:List Value}(hk:s8 ks kc)(w:World)(es:List MapEntry)
 (he:∀e,e∈es→s8 ks (D5 e.key)∧e.key=mkV P kt (D5 e.key)):(Instr.findKey kt (mkV P kt kc) es).run P w=.ok (a1j es kc 0) w:=by
 have hfl':=hfl;unfold flatK at hfl;cases hu:P.underlying kt with
 |none=>simp[hu]at hfl
 |some d=>
  have plain:a0P d=false→(∀x y:Value,s8 ks [x]→s8 ks [y]→Instr.sameNow d x y=some (eqV x y))→ks.length=1→(Instr.findKey kt (mkV P kt kc) es).run P w=.ok (a1j es kc 0) w:=by
   intro hag hs hl;have hst:F5 P kt=false:=by simp[F5,hu,hag]
   obtain⟨x,rfl⟩:∃x,kc=[x]:=by
    have:=D9 hk;rw[hl]at this
    match kc,this with
    |[x],_=>exact⟨x,rfl⟩
   have key:∀(es:List MapEntry) (i:Nat),(∀e,e∈es→s8 ks (D5 e.key)∧e.key=mkV P kt (D5 e.key))→Instr.findNow d x es i=some (a1j es [x] i):=by
    intro es
    induction es with
    |nil=>intro i _;rfl
    |cons e es ih=>
     intro i he;obtain⟨h1,h2⟩:=he e C7
     obtain⟨y,hy⟩:∃y,D5 e.key=[y]:=by
      have:=D9 h1;rw[hl]at this
      match D5 e.key,this with
      |[y],_=>exact⟨y,rfl⟩
     rw[hy]at h1 h2;simp only[mkV,hst,List.headD_cons]at h2;have h3:=hs x y hk h1;simp only[Instr.findNow,a1j];rw[hy,c8b,h2,h3];cases eqV x y with
     |true=>rfl
     |false=>exact ih (i+1) fun e hm=>he e (F6 _ hm)
   have:=MapKept.run_findKey (w:=w) hu (key es 0 he);simpa[mkV,hst]using this
  rw[hu]at hfl;cases d<;>simp only[reduceCtorEq]at hfl
  case int k=>
   cases hfl;exact plain rfl (fun x y hx hy=>b1a trivial hx hy) rfl
  case bool=>
   cases hfl;exact plain rfl (fun x y hx hy=>b1a trivial hx hy) rfl
  case string=>
   cases hfl;exact plain rfl (fun x y hx hy=>b1a trivial hx hy) rfl
  case struct F=>
   have hst:F5 P kt=true:=by simp[F5,hu,a0P]
   have ask:∀(es:List MapEntry) (i:Nat),(∀e,e∈es→s8 ks (D5 e.key)∧e.key=mkV P kt (D5 e.key))→(Instr.findAsking kt (mkV P kt kc) es i).run P w=.ok (a1j es kc i) w:=by
    intro es
    induction es with
    |nil=>intro i _;rfl
    |cons e es ih=>
     intro i he;obtain⟨h1,h2⟩:=he e C7;have hq:=b5h (P:=P) 100 10000 kt ks hfl' (by decide) _ _ w hk h1;rw[←h2]at hq;simp only[Instr.findAsking,y9,a1j];rw[show(Op.equal kt (mkV P kt kc) e.key).run P w=_ from hq];simp only[I9];cases a0j kc (D5 e.key)with
     |true=>rfl
     |false=>exact ih (i+1) fun e hm=>he e (F6 _ hm)
   simp only[Instr.findKey,y9,A5 hu,I9];cases es with
   |nil=>rfl
   |cons e es=>
    have:Instr.findNow (.struct F) (mkV P kt kc) (e::es) 0=none:=by
     obtain⟨_,h2⟩:=he e C7;rw[Instr.findNow];simp[Instr.sameNow]
    rw[this];exact ask (e::es) 0 he
  case array an ae=>
   have hst:F5 P kt=true:=by simp[F5,hu,a0P]
   have ask:∀(es:List MapEntry) (i:Nat),(∀e,e∈es→s8 ks (D5 e.key)∧e.key=mkV P kt (D5 e.key))→(Instr.findAsking kt (mkV P kt kc) es i).run P w=.ok (a1j es kc i) w:=by
    intro es
    induction es with
    |nil=>intro i _;rfl
    |cons e es ih=>
     intro i he;obtain⟨h1,h2⟩:=he e C7;have hq:=b5h (P:=P) 100 10000 kt ks hfl' (by decide) _ _ w hk h1;rw[←h2]at hq;simp only[Instr.findAsking,y9,a1j];rw[show(Op.equal kt (mkV P kt kc) e.key).run P w=_ from hq];simp only[I9];cases a0j kc (D5 e.key)with
     |true=>rfl
     |false=>exact ih (i+1) fun e hm=>he e (F6 _ hm)
   simp only[Instr.findKey,y9,A5 hu,I9];cases es with
   |nil=>rfl
   |cons e es=>
    have:Instr.findNow (.array an ae) (mkV P kt kc) (e::es) 0=none:=by
     obtain⟨_,h2⟩:=he e C7;rw[Instr.findNow];simp[Instr.sameNow]
    rw[this];exact ask (e::es) 0 he
theorem c0Y{P:Program}{t:TypeId}(h:a9A P t=true):P.plainKey t=true:=by
 unfold a9A at h;unfold Program.plainKey;split at h<;>simp_all
theorem a8l{P:Program}{t:TypeId}(h:a9A P t=true)(v:Value)(w:World)(e:Bool)(n:Nat):(Instr.checkKey e (n+1) t v).run P w=.ok () w:=by
 unfold a9A at h;split at h<;>first|cases h|skip
 all_goals
  rename_i hu;rw[Instr.checkKey];simp only[y9,A5 hu,I9];rfl
theorem a6k{P:Program}{kt:TypeId}{kc:List Value}(hb:c8D P kt kc.length=true)(w:World)(e:Bool)(n:Nat):(Instr.checkKey e (n+2) kt (mkV P kt kc)).run P w=.ok () w:=by
 unfold c8D at hb;split at hb
 ·rename_i F hu;have hst:F5 P kt=true:=by simp[F5,hu,a0P]
  rw[Instr.checkKey];simp only[y9,A5 hu,I9,mkV,hst];rw[←Array.forIn_toList];generalize F.toList=L at hb
  induction L with
  |nil=>rfl
  |cons f L ih=>
   simp only[List.all_cons,D7,bne_iff_ne,ne_eq,a4p]at hb;obtain⟨⟨⟨h1,h2⟩,h3⟩,h4⟩:=hb;have hp:=run_part_plain (P:=P) w (c0Y h2) (xs:=kc.toArray) (off:=f.offset) (v:=kc[f.offset]) (by simp);have hc:=a8l h2 kc[f.offset] w e n;simp only[List.forIn_cons,y9,h1,ne_eq,not_false_eq_true,D2,I9,hp,hc,O7];exact ih h4
 ·exact a8l hb _ w e (n+1)
theorem b1q.flat{P:Program}{tt:List (Nat×TI)}{m:MTy}(hT:a3N P tt)(h:b1q P tt m):flatK P 100 m.kt=some m.ks∧(∀xs,mkV P m.kt xs=H3 m.ag xs)∧(m.ag=false→m.ks.length=1):=by
 have hk:=h.key;cases hi:D4 tt m.kt with
 |none=>simp[hi]at hk
 |some i=>
  simp only[hi,a6T,Y9,a5l]at hk;obtain⟨he,ha⟩:=hk;have hti:=hT _ _ hi;obtain⟨d,hu,hag,_⟩:=hti.und;have hc:=hti.chk;unfold c4n at hc;rw[hu]at hc;simp only[he,D7,L9]at hc;have hst:F5 P m.kt=m.ag:=by simp[F5,hu,←ha,hag]
  refine⟨hc.2.2.1,fun xs=>?_,fun h0=>?_⟩
  ·unfold mkV H3;rw[hst]
   all_goals (cases m.ag<;>rfl)
  ·have hfl:=hc.2.2.1;have hd:a0P d=false:=by rw[←hag,ha,h0]
   unfold flatK at hfl;rw[hu]at hfl;cases d<;>simp only[reduceCtorEq]at hfl<;>first|(rw[←E0 hfl];rfl)|cases hd
theorem c8O{m:MTy}{k:Value}(h:b5n m k):s8 m.ks (D5 k)∧k=H3 m.ag (D5 k):=by
 unfold b5n at h;cases hag:m.ag with
 |true=>
  rw[hag]at h;cases k<;>simp only at h<;>first|exact h.elim|exact⟨h,by simp[H3,D5]⟩
 |false=>
  rw[hag]at h;cases k<;>simp only at h<;>first|exact h.elim|exact⟨h,by simp[H3,D5]⟩
theorem b5y:∀(es:List MapEntry) (kc:List Value) (i:Nat),(a1j es kc i).map (·.2)=b2p (es.map fun e=>(e.key,e.val)) kc
 |[],_,_=>rfl
 |e::es,kc,i=>by
  simp only[a1j,H7,b2p];cases a0j kc (D5 e.key)with
  |true=>rfl
  |false=>exact b5y es kc (i+1)
theorem b3V{kv x:Value}:∀(es:List MapEntry) (kc:List Value) (i:Nat),a1j es kc i=none→a8N kv x (es.map fun e=>(e.key,e.val)) kc=es.map (fun e=>(e.key,e.val))++ [(kv,x)]
 |[],_,_,_=>rfl
 |e::es,kc,i,h=>by
  simp only[a1j]at h;simp only[H7,a8N];cases he:a0j kc (D5 e.key)with
  |true=>rw[he]at h;cases h
  |false=>rw[he]at h;simp only;rw[b3V es kc (i+1) h];rfl
theorem b3J{kv x v:Value}{j:Nat}:∀(es:List MapEntry) (kc:List Value) (i:Nat),a1j es kc i=some (j,v)→
 i≤j∧∃e,es[j-i]?=some e∧a0j kc (D5 e.key)=true∧a8N kv x (es.map fun e=>(e.key,e.val)) kc=(es.map fun e=>(e.key,e.val)).set (j-i) (kv,x)
 |[],_,_,h=>by cases h
 |e::es,kc,i,h=>by
  simp only[a1j]at h;simp only[H7,a8N];cases he:a0j kc (D5 e.key)with
  |true=>rw[he]at h;cases h;exact⟨y6 _,e,by simp,he,by simp⟩
  |false=>
   rw[he]at h;obtain⟨h1,e',h2,h3,h4⟩:=b3J (kv:=kv) (x:=x) es kc (i+1) h;have hj:j-i=(j-(i+1))+1:=by omega
   exact⟨by omega,e',by rw[hj];simpa using h2,h3,by rw[hj];simp only[h4];simp⟩
section
variable {P : Program}{tt : List (Nat × TI)}{m : MTy}{w : World}{b : Nat}{es : List (Value × Value)}{kc : List Value}
theorem b0w.keys{arr:Array MapEntry}(hes:arr.toList.map (fun e=>(e.key,e.val))=es)(hk:∀p,p∈es→b5n m p.1∧plV p.2=true)(hT:a3N P tt)(hm:b1q P tt m):
 ∀e,e∈arr.toList→s8 m.ks (D5 e.key)∧e.key=mkV P m.kt (D5 e.key):=by
 intro e he;have:=(hk (e.key,e.val) (by rw[←hes];exact L6.2 ⟨e,he,rfl⟩)).1;rw[(hm.flat hT).2.1];exact c8O this
theorem c5s(hm:b1q P tt m)(w:World):(zeroValue m.et).run P w=.ok m.z w:=by
 have hz:=hm.z;cases hi:P.info? m.et with
 |none=>simp[hi]at hz
 |some inf=>simp[hi]at hz;simp[zeroValue,typeInfo,hi,hz]
theorem c2g(hT:a3N P tt)(hm:b1q P tt m)(h:b0w w b es m)(hk:s8 m.ks kc)(ok:Bool):
 (Instr.lookup m.t (.map (some b)) (H3 m.ag kc) ok).run P w=.ok (if ok then .tuple #[(b2p es kc).getD m.z,.bool (b2p es kc).isSome]else(b2p es kc).getD m.z) w:=by
 obtain⟨arr,c,hb,hes,hks⟩:=h;obtain⟨hfl,hmk,_⟩:=hm.flat hT;have h1:=MapKept.run_getObj_map (P:=P) hb;have hlen:kc.length=m.ks.length:=D9 hk;have h2:=a6k (P:=P) (kt:=m.kt) (kc:=kc) (by rw[hlen];exact hm.kb) w arr.isEmpty 9998;have h3:=a7q hfl hk w arr.toList (b0w.keys hes hks hT hm);rw[hmk]at h2 h3;have h4:=b5y arr.toList kc 0;rw[hes]at h4;unfold Instr.lookup;simp only[y9,A5 hm.und,I9,h1,h2,h3,O7];cases hf:a1j arr.toList kc 0 with
 |none=>
  rw[hf]at h4;simp only[Option.map_none]at h4;rw[←h4];simp only[y9,c5s hm,I9,O7];cases ok<;>rfl
 |some p=>
  rw[hf]at h4;simp only[a6T]at h4;rw[←h4];simp only[O7,I9];cases ok<;>rfl
theorem b6X{k1:Value}(h1:s8 m.ks (D5 k1))(e1:k1=H3 m.ag (D5 k1))(h2:s8 m.ks kc)(hlen:m.ag=false→m.ks.length=1)(he:a0j kc (D5 k1)=true)(w:World):(Instr.keyThatStays k1 (H3 m.ag kc)).run P w=.ok (H3 m.ag kc) w:=by
 have hs:Instr.sameBits 10000 k1 (H3 m.ag kc)=true:=by
  rw[e1];have g1':=(a6s 9999 h2 h1 he).1;obtain⟨g1,g2⟩:=a6s 9998 h2 h1 he;cases hag:m.ag with
  |true=>
   simp only[H3];rw[Instr.sameBits];simp only[b0M,D7,L9];exact⟨g2,g1⟩
  |false=>
   simp only[H3];have l1:=D9 h1;have l2:=D9 h2;rw[hlen hag]at l1 l2
   match hx:D5 k1,kc,l1,l2 with
   |[a],[b],_,_=>
    rw[hx]at g1';simpa using g1'
 simp[Instr.keyThatStays,hs]
theorem c8Y(hT:a3N P tt)(hm:b1q P tt m)(hk:s8 m.ks kc):b5n m (H3 m.ag kc)∧D5 (H3 m.ag kc)=kc:=by
 cases hag:m.ag with
 |true=>simp only[H3,b5n,hag,D5];exact⟨by simpa using hk,by simp⟩
 |false=>
  have hl:=(hm.flat hT).2.2 hag;have hlen:=D9 hk;rw[hl]at hlen
  match kc,hlen with
  |[x],_=>
   simp only[H3,List.headD_cons]
   have hx:∀a,x≠ .agg a:=fun a e=>by
    subst e
    match hks:m.ks,hl with
    |[k],_=>rw[hks]at hk;simp only[s8]at hk;cases k<;>simp[a0q]at hk
   cases x<;>first|exact absurd rfl (hx _)|exact⟨by simpa[b5n,hag]using hk,rfl⟩
theorem b6q(hT:a3N P tt)(hm:b1q P tt m)(h:b0w w b es m)(hk:s8 m.ks kc){x:Value}(hx:plV x=true):
 ∃w',(Instr.mapUpdate m.t (.map (some b)) (H3 m.ag kc) x).run P w=.ok () w'∧b0w w' b (a8N (H3 m.ag kc) x es kc) m∧Fx [b] w w'∧w'.heap.size=w.heap.size:=by
 obtain⟨arr,c,hb,hes,hks⟩:=h;obtain⟨hfl,hmk,hl1⟩:=hm.flat hT;have h1:=MapKept.run_getObj_map (P:=P) hb;have hlen:kc.length=m.ks.length:=D9 hk;have h2:=a6k (P:=P) (kt:=m.kt) (kc:=kc) (by rw[hlen];exact hm.kb) w false 9998;have hkeys:=b0w.keys hes hks hT hm;have h3:=a7q hfl hk w arr.toList hkeys;rw[hmk]at h2 h3;obtain⟨hok,_⟩:=c8Y hT hm hk;unfold Instr.mapUpdate;simp only[y9,A5 hm.und,I9,h1,h2,h3]
 have fin:∀o:Obj,Fx [b] w { w with heap:=w.heap.setIfInBounds b o}∧({ w with heap:=w.heap.setIfInBounds b o}:World).heap.size=w.heap.size:=fun o=>
  ⟨⟨rfl,rfl,rfl,by simp,fun i hi hn=>(MapKept.heap_set (o':=o) hb).2 i fun e=>hn b (by simp) e.symm⟩,by simp⟩
 cases hf:a1j arr.toList kc 0 with
 |none=>
  have h4:=b3V (kv:=H3 m.ag kc) (x:=x) arr.toList kc 0 hf;rw[hes]at h4;refine⟨_,MapKept.run_setObj_map _ hb,⟨_,_,(MapKept.heap_set hb).1,?_,fun p hp=>?_⟩,(fin _).1,(fin _).2⟩
  ·rw[h4];simp[hes]
  ·rw[h4]at hp;rcases E3.1 hp with hp|hp
   ·exact hks p hp
   ·simp only[a1V]at hp;subst hp;exact⟨hok,hx⟩
 |some q=>
  obtain⟨j,v0⟩:=q;have h4:=b3J (kv:=H3 m.ag kc) (x:=x) arr.toList kc 0 hf;rw[hes]at h4;obtain⟨_,e,g1,g2,g3⟩:=h4;simp only[a6l]at g1 g3;have g1':arr[j]?=some e:=by simpa using g1
  have hj:j<arr.size:=(Z8.1 g1').1;have hem:e∈arr.toList:=b0f g1;have hst:=b6X (P:=P) (k1:=e.key) (hkeys e hem).1 (by have:=(hkeys e hem).2;rw[hmk]at this;exact this) hk hl1 g2 w;simp only[y9,g1',a6T,Option.getD_some,hst,I9];refine⟨_,MapKept.run_setObj_map _ hb,⟨_,_,(MapKept.heap_set hb).1,?_,fun p hp=>?_⟩,(fin _).1,(fin _).2⟩
  ·rw[g3,←hes];apply List.ext_getElem?;intro i;simp only[List.getElem?_map,b2U,Array.getElem?_modify,List.getElem?_set,b0O,a7s];by_cases hij:j=i
   ·subst hij;simp[g1',hj]
   ·simp[hij]
  ·rw[g3]at hp;rcases List.mem_or_eq_of_mem_set hp with hp|hp
   ·exact hks p hp
   ·subst hp;exact⟨hok,hx⟩
end
def d3W(st:St)(op:Op)(R:List Nat)(wc:World):Prop:=
 R=[]∨(∃t p s b,op=.load t p∧ev st p=some s∧R=[b]∧b<wc.heap.size∧
  ((∃k e,b7S s=some k∧l4 st.H k=some e∧b∈bsE e)∨(b7S s=none∧(∃off,s=.v (.pointer (some ⟨b,off,none⟩)))∧b∉bs st.H)))∨
 ∃t x ix ok,op=.lookup t x ix ok∧∀k,ev st x=some (.row k)→∃e b,l4 st.H k=some e∧b∈bsE e∧R=[b]∧b<wc.heap.size
def a2A(X:Cx)(st:St)(a:Act)(o:Oper):Out→Prop
 |.val s=>s≠ .bad∧∀wc,Cls X st.H st.nk st.w wc→∃R,d3W st o.op R wc∧∀wc',(∀b,b∈R→wc'.heap[b]?=wc.heap[b]?)→(execOp a.eval o).run X.P wc'=.ok (.value (den st.H s)) wc'
 |.new cs ty sl=>∀wc,Cls X st.H st.nk st.w wc→(execOp a.eval o).run X.P wc=
  .ok (.value (match sl with|none=>.pointer (some ⟨wc.heap.size,0,none⟩)|some n=>.slice (some ⟨wc.heap.size,0,none⟩) n n)) (wc.alloc (.cells (o6 st.H cs).toArray ty))
 |.call f args=>∀wc,(∃fn c,X.P.funcs[f]?=some fn∧fn.body=some c)→(execOp a.eval o).run X.P wc=.ok (.enter f (o6 st.H args).toArray) wc
 |.upd k cs'=>∃b cs ty,l4 st.H k=some (.blk b cs ty)∧∀wc,Cls X st.H st.nk st.w wc→∀xs,q8 st.H cs xs→wc.heap[b]?=some (.cells xs.toArray ty (0,0))→
  ∃xs':List Value,q8 st.H cs' xs'∧(execOp a.eval o).run X.P wc=.ok .skip (wc.setRow b xs'.toArray)
 |.updR k xs'=>∃v n xs sz ty,l4 st.H k=some (.row v n xs sz ty)∧∀wc,Cls X st.H st.nk st.w wc→
  ∃wc',(execOp a.eval o).run X.P wc=.ok .skip wc'∧wc'.ownsRow 0 ty sz v n xs'∧wc.grownBy wc' v.ownBlock∧wc'.heap.size=wc.heap.size
 |.app e esz bytes s x=>s≠ .bad∧x≠ .bad∧∃t i,D4 X.tt t=some i∧i.d=.slice e esz bytes∧(∃i2,D4 X.tt e=some i2∧i2.n=esz)∧
  ∀wc,(execOp a.eval o).run X.P wc=((Builtin.append_ #[t,t] o.type #[den st.H s,den st.H x]).run X.P wc).andThen fun v w=>.ok (.value v) w
theorem a5e{X:Cx}{H:Hp}{nk:Nat}{w wc:World}(h:Cls X H nk w wc):a6I H:=by
 intro k v n xs sz ty hf;have:=h.own k _ (o7 hf);simp only[a5V]at this;rcases this.2 with⟨rfl,h0⟩|⟨g,cap,cur,rfl,_,_,hnc,_⟩
 ·exact⟨none,0,0,rfl,fun h=>by omega⟩
 ·exact⟨_,_,_,rfl,fun _=>⟨rfl,hnc,g,rfl⟩⟩
theorem U9{K:Out→Prop}{x:Option SV}(h:a9X K x):∃s,x=some s∧K (.val s):=by
 cases x with
 |none=>exact h.elim
 |some s=>exact⟨s,rfl,h⟩
section
variable {X : Cx}{st : St}{a : Act}{o : Oper}
theorem Y6{T:List (Nat×SV)}{d:Nat}{s:SV}(h:b3x T d=some s):d<L3∧A8 T d=some s:=by
 unfold b3x at h;split at h
 ·rename_i hb;exact⟨by simpa[a4p]using hb,h⟩
 ·cases h
theorem d0q(hT:∀d s,d<L3→A8 st.T d=some s→s=.bad∨a.tmps[d]?=some (den st.H s)){x:Operand}{s:SV}(h:ev st x=some s):s≠ .bad∧a.eval x=den st.H s:=by
 cases x with
 |tmp t=>
  simp only[ev]at h;split at h
  ·cases h
  ·rename_i hb;have hne:s≠ .bad:=fun e=>hb (by rw[h,e])
   refine⟨hne,?_⟩;obtain⟨hlt,h⟩:=Y6 h;rcases hT t s hlt h with e|e
   ·exact absurd e hne
   ·simp[Act.eval,e]
 |const v=>simp only[ev]at h;cases h;exact⟨by simp,rfl⟩
 |func f=>simp only[ev]at h;cases h;exact⟨by simp,by simp[Act.eval,den,o6]⟩
 |global g=>simp only[ev]at h;cases h;exact⟨by simp,rfl⟩
theorem a6R(hev:∀x s,ev st x=some s→s≠ .bad∧a.eval x=den st.H s){l:List Operand}{r:List SV}(h:evs st l=some r):l.map a.eval=o6 st.H r∧ .bad∉r:=by
 induction l generalizing r with
 |nil=>simp only[evs]at h;cases h;simp[o6]
 |cons x l ih=>
  simp only[evs]at h;split at h
  ·rename_i s r' hs hr;cases h;obtain⟨h1,h2⟩:=hev x s hs;obtain⟨g1,g2⟩:=ih hr;exact⟨by simp[o6,h2,g1],by simp[g2];exact fun e=>h1 e.symm⟩
  ·cases h
theorem O8(b o j:Nat):(⟨b,o,none⟩:Addr).add j=⟨b,o+j,none⟩:=by unfold Addr.add;split<;>simp_all
theorem b3t{P:Program}{t:Nat}{i:TI}(h:P6 P t i){w:World}{b o:Nat}{cs:List Value}(hl:cs.length=i.n)(hc:∀j,j<i.n→w.cell? ⟨b,o+j,none⟩=cs[j]?)
 (h1:i.agg=false→cs.length=1):(loadVar t ⟨b,o,none⟩).run P w=.ok (if i.agg then .agg cs.toArray else cs.headD undef) w:=by
 simp only[loadVar,y9,h.run_isAgg,I9];cases hg:i.agg with
 |true=>
  have:=run_loadCells_list (P:=P) w ⟨b,o,none⟩ cs (fun j v hv=>by
   rw[O8,hc j (by rw[←hl];exact(P3.1 hv).1)];exact hv)
  rw[hl]at this;simp[h.run_size,this]
 |false=>
  match cs,h1 hg with
  |[x],_=>
   have:=hc 0 (by rw[←hl];simp);simp at this;simp[this]
theorem b8B.cells{own:Hp}{nk:Nat}{w wc:World}(hc:Cls X own nk w wc){b o n:Nat}{cs:List Value}(h:b8B X own w b o n cs):
 cs.length=n∧∀j,j<n→wc.cell? ⟨b,o+j,none⟩=cs[j]?:=by
 refine⟨h.1,fun j hj=>?_⟩;rcases h.2 with⟨h1,h2,h3⟩|⟨h1,h2⟩
 ·rw[World.cell?_of_block (a:=⟨b,o+j,none⟩) (w:=X.w0) (hc.fx0.block b h1 ?_)]
  ·exact h3 j hj
  ·clear h1 h3 h hc;generalize X.bor=l at h2⊢
   induction l with
   |nil=>simp
   |cons x l ih=>
    simp only[b6G]at h2;intro y hy;rcases u9.1 hy with rfl|hy
    ·exact h2.1
    ·exact ih h2.2 y hy
 ·have hlt:b<w.heap.size:=by
   have h3:=h2 j hj;rw[J7 (by rw[h.1];exact hj)]at h3;exact World.block_lt_of_cell? w _ h3
  rw[World.cell?_of_block (a:=⟨b,o+j,none⟩) (w:=w) (hc.fx.block b hlt h1)];exact h2 j hj
theorem c8K.heap{own:Hp}{nk:Nat}{w wc:World}(hc:Cls X own nk w wc){r c:Nat}{es:Array MapEntry}(h:c8K X own w r es c):wc.heap[r]?=some (.map es c):=by
 rcases h with⟨h1,h2,h3⟩|⟨h1,h2⟩
 ·rw[hc.fx0.block r h1 ?_]
  ·exact h3
  ·clear h1 h3 hc;generalize X.bor=l at h2⊢
   induction l with
   |nil=>simp
   |cons x l ih=>
    simp only[b6G]at h2;intro y hy;rcases u9.1 hy with rfl|hy
    ·exact h2.1
    ·exact ih h2.2 y hy
 ·rw[hc.fx.block r (Z8.1 h2).1 h1];exact h2
theorem Cls.blk{H:Hp}{nk:Nat}{w wc:World}(hc:Cls X H nk w wc){k b ty:Nat}{cs:List SV}(hf:l4 H k=some (.blk b cs ty)):
 ∃xs,q8 H cs xs∧wc.heap[b]?=some (.cells xs.toArray ty (0,0)):=hc.own k _ (o7 hf)
theorem Cls.row{H:Hp}{nk:Nat}{w wc:World}(hc:Cls X H nk w wc){k n sz ty:Nat}{v:Value}{xs:List Value}(hf:l4 H k=some (.row v n xs sz ty)):
 wc.ownsRow 0 ty sz v n xs:=hc.own k _ (o7 hf)
theorem a5g{w:World}{b ty:Nat}{xs:Array Value}{fr:Nat×Nat}(h:w.heap[b]?=some (.cells xs ty fr))(j:Nat):w.cell? ⟨b,j,none⟩=xs[j]?:=by simp[World.cell?,h]
theorem a7y{H:Hp}{k b ty:Nat}{cs:List SV}(h:l4 H k=some (.blk b cs ty)):bOf H k=b:=by simp[bOf,h]
theorem c0i{H:Hp}{k n sz ty:Nat}{v:Value}{xs:List Value}(h:l4 H k=some (.row v n xs sz ty)):bOf H k=b0s v:=by simp[bOf,h]
theorem b9c{H:Hp}{agg:Bool}{l:List SV}{s:SV}(h:mkv agg l=some s)(hb: .bad∉l):(if agg=true then Value.agg (o6 H l).toArray else(o6 H l).headD undef)=den H s:=by
 rcases(b1Z (H:=H) h hb).2 with⟨rfl,e⟩|⟨rfl,e⟩
 ·simp[e]
 ·simp[e]
theorem b9p{agg:Bool}{l:List SV}{s:SV}(h:mkv agg l=some s)(ha:agg=false):l.length=1:=by
 subst ha
 match l,h with
 |[x],_=>rfl
 |[],h=>simp[mkv]at h
 |_::_::_,h=>simp[mkv]at h
theorem b8k{H:Hp}{agg:Bool}{l:List Value}{s:SV}(h:a8k agg l=some s):(if agg=true then Value.agg l.toArray else l.headD undef)=den H s:=by
 rcases(b2F (H:=H) h).2 with⟨rfl,e⟩|⟨rfl,e⟩
 ·simp[e]
 ·simp[e]
theorem b8T{agg:Bool}{l:List Value}{s:SV}(h:a8k agg l=some s)(ha:agg=false):l.length=1:=by
 subst ha
 match l,h with
 |[x],_=>rfl
 |[],h=>simp[a8k]at h
 |_::_::_,h=>simp[a8k]at h
theorem a9u{α:Type}{xs l:List α}{o n:Nat}(h:(xs.drop o).take n=l){j:Nat}(hj:j<n):xs[o+j]?=l[j]?:=by
 rw[←h];simp[hj]
theorem d0J{w:World}{b o:Nat}{v:Value}(h:w.cell? ⟨b,o,none⟩=some v):b<w.heap.size:=by
 unfold World.cell? at h;split at h
 ·rename_i hh;exact(Z8.1 hh).1
 ·cases h
theorem c6A{l:List Nat}{b:Nat}(h:b6G l b):b∉l:=by
 induction l with
 |nil=>simp
 |cons x l ih=>
  simp only[b6G]at h;simp only[u9,not_or];exact⟨fun e=>h.1 e.symm,ih h.2⟩
theorem b8B.notOwn{H:Hp}{nk:Nat}{w wc:World}(hc:Cls X H nk w wc){b o n:Nat}{cs:List Value}(h:b8B X H w b o n cs):b∉bs H:=by
 intro hb;rcases h.2 with⟨h1,h2,_⟩|⟨h1,_⟩
 ·rcases hc.lb b hb with h|h
  ·exact c6A h2 h
  ·omega
 ·exact h1 b hb rfl
theorem c5Z(hT:a3N X.P X.tt){t:Nat}{i:TI}(hi:D4 X.tt t=some i){p:Operand}{s:SV}(hs:a.eval p=den st.H s)(hep:ev st p=some s)(hop:o.op=.load t p){K:Out→Prop}(h:a9s X st i s K):
 ∃out,K out∧a2A X st a o out:=by
 have hti:=hT t i hi
 have main:∀(b off:Nat) (cs:World→List Value) (r:SV),r≠ .bad→den st.H s=.pointer (some ⟨b,off,none⟩)→
  (∀wc,Cls X st.H st.nk st.w wc→(∃k e,b7S s=some k∧l4 st.H k=some e∧(i.n≠0→b∈bsE e))∨(b7S s=none∧(∃off,s=.v (.pointer (some ⟨b,off,none⟩)))∧b∉bs st.H))→
  (∀wc,Cls X st.H st.nk st.w wc→(cs wc).length=i.n∧(i.agg=false→(cs wc).length=1)∧(∀j,j<i.n→wc.cell? ⟨b,off+j,none⟩=(cs wc)[j]?)∧
  (if i.agg=true then Value.agg (cs wc).toArray else(cs wc).headD undef)=den st.H r)→a2A X st a o (.val r):=by
  intro b off cs r hr hd htag hall;refine⟨hr,fun wc hc=>?_⟩;obtain⟨h1,h2,h3,h4⟩:=hall wc hc
  have key:∀wc',(∀j,j<i.n→wc'.cell? ⟨b,off+j,none⟩=(cs wc)[j]?)→(execOp a.eval o).run X.P wc'=.ok (.value (den st.H r)) wc':=by
   intro wc' h3';simp only[execOp,hop,hs,hd,Instr.loadAt,Instr.sureAddr,y9,O7,I9,b3t hti h1 h3' h2];rw[h4]
  by_cases hn:i.n=0
  ·exact⟨[],.inl rfl,fun wc' _=>key wc' fun j hj=>by omega⟩
  ·refine⟨[b],.inr (.inl ⟨t,p,s,b,hop,hep,rfl,?_,?_⟩),fun wc' hag=>key wc' fun j hj=>?_⟩
   ·have h0:=h3 0 (by omega);have hlt:0<(cs wc).length:=by omega
    rw[J7 hlt]at h0;exact d0J h0
   ·rcases htag wc hc with⟨k,e,g1,g2,g3⟩|g
    ·exact .inl ⟨k,e,g1,g2,g3 hn⟩
    ·exact .inr g
   ·rw[←h3 j hj];simp only[World.cell?,hag b (by simp)]
 unfold a9s at h;split at h
 ·rename_i k off;split at h
  ·rename_i b cs ty hf;split at h
   ·rename_i l hl;obtain⟨r,hr,hK⟩:=U9 h;have hb:=(a8Z hl).2.2;refine⟨_,hK,main b off (fun _=>o6 st.H l) r (b1Z (H:=st.H) hr hb).1 (by simp[den,a7y hf]) (fun _ _=>.inl ⟨k,_,rfl,hf,fun _=>by simp[bsE]⟩) fun wc hc=>?_⟩;obtain⟨xs,hx,hh⟩:=hc.blk hf;obtain⟨h1,h2,h3⟩:=b2o hx hl;refine⟨by rw[u6,h2],fun ha=>by rw[u6];exact b9p hr ha,fun j hj=>?_,b9c hr hb⟩;rw[a5g hh];simp only[List.getElem?_toArray];exact a9u h1 hj
   ·exact h.elim
  ·exact h.elim
 ·rename_i k off;split at h
  ·rename_i b cs ty hf;obtain⟨l,hl,h⟩:=h;obtain⟨r,hr,hK⟩:=U9 h;have hb:=(a8Z hl).2.2;refine⟨_,hK,main b off (fun _=>o6 st.H l) r (b1Z (H:=st.H) hr hb).1 (by simp[den,a7y hf]) (fun _ _=>.inl ⟨k,_,rfl,hf,fun _=>by simp[bsE]⟩) fun wc hc=>?_⟩;obtain⟨xs,hx,hh⟩:=hc.blk hf;obtain⟨h1,h2,h3⟩:=b2o hx hl;refine⟨by rw[u6,h2],fun ha=>by rw[u6];exact b9p hr ha,fun j hj=>?_,b9c hr hb⟩;rw[a5g hh];simp only[List.getElem?_toArray];exact a9u h1 hj
  ·rename_i v n xs sz ty hf;obtain⟨l,⟨hl,hlen,hc0⟩,h⟩:=h;obtain⟨r,hr,hK⟩:=U9 h;refine⟨_,hK,main (b0s v) off (fun _=>l) r (b2F (H:=st.H) hr).1 (by simp[den,c0i hf]) (fun wc hc=>.inl ⟨k,_,rfl,hf,fun hn=>?_⟩) fun wc hc=>?_⟩
   ·rcases(hc.row hf).2 with⟨rfl,rfl⟩|⟨g,cap,cur,rfl,_⟩
    ·omega
    ·simp[bsE,r6,b0s]
   refine⟨hl,fun ha=>b8T hr ha,fun j hj=>?_,b8k hr⟩;have hown:=hc.row hf;rcases hown.2 with⟨rfl,rfl⟩|⟨g,cap,cur,rfl,hb,hg,_,_,_,htake⟩
   ·omega
   ·simp only[b0s];rw[a5g hg,←hc0 j hj,←htake,a5q,k9 (by omega)];simp
  ·exact h.elim
 ·rename_i b off;obtain⟨cs,hcs,h⟩:=h;obtain⟨r,hr,hK⟩:=U9 h;refine⟨_,hK,main b off (fun _=>cs) r (b2F (H:=st.H) hr).1 rfl (fun wc hc=>.inr ⟨rfl,⟨_,rfl⟩,hcs.notOwn hc⟩) fun wc hc=>?_⟩;obtain⟨h1,h2⟩:=hcs.cells hc;exact⟨h1,fun ha=>b8T hr ha,h2,b8k hr⟩
 ·exact h.elim
theorem a8P{H:Hp}{cs cs' l:List SV}{xs:List Value}{off:Nat}(hx:q8 H cs xs)(ho:over off l cs=some cs'):
 q8 H cs' (xs.take off++o6 H l++xs.drop (off+l.length))∧off+l.length≤xs.length:=by
 obtain⟨h1,h2⟩:=a9G ho;rw[h1];refine⟨b0b (b0b (b3W hx _) (a7N l)) (b3H hx _),?_⟩;rw[←b0p hx];exact h2
theorem c3l(hT:a3N X.P X.tt)(hrow:a6I st.H){t:Nat}{i:TI}(hi:D4 X.tt t=some i){p x:Operand}{s r:SV}(hs:a.eval p=den st.H s)(hr:a.eval x=den st.H r)(hop:o.op=.store t p x){K:Out→Prop}(h:b1g st i s r K):
 ∃out,K out∧a2A X st a o out:=by
 have hti:=hT t i hi;unfold b1g at h;split at h
 ·rename_i l hl;split at h
  ·rename_i hlen hone;have hlen':=z7 hlen;have hcl:=a6o hl hone hrow;have h1c:=c2m hrow hone;have sz:(den st.H r).cells.size=i.n:=by rw[←a7s,hcl,u6,hlen']
   have stRun:∀(b off:Nat) (ty:Nat) (cur:Array Value) (wc:World),den st.H s=.pointer (some ⟨b,off,none⟩)→wc.heap[b]?=some (.cells cur ty (0,0))→off+l.length≤cur.size→
    (execOp a.eval o).run X.P wc=.ok .skip (wc.setRow b (cur.toList.take off++o6 st.H l++cur.toList.drop (off+l.length)).toArray):=by
    intro b off ty cur wc hd hh hle;have:=run_storeCells_at X.P b off ty (o6 st.H l) 0 cur wc hh (by rw[u6];omega) (fun v hv=>h1c v hv);simp only[a8h,u6]at this;simp[execOp,hop,hs,hd,hr,Instr.storeAt,Instr.sureAddr,storeVar,hti.run_size,sz,hcl,this]
   split at h
   ·rename_i k off;split at h
    ·rename_i b cs ty hf;split at h
     ·rename_i cs' ho;refine⟨_,h,b,cs,ty,hf,fun wc hc xs hx hh=>?_⟩;obtain⟨g1,g2⟩:=a8P hx ho;refine⟨_,g1,?_⟩;rw[stRun b off ty xs.toArray wc (by simp[den,a7y hf]) hh (by simpa using g2)]
     ·exact h.elim
    ·exact h.elim
   ·rename_i k off;split at h
    ·rename_i b cs ty hf;obtain⟨cs',ho,h⟩:=h;refine⟨_,h,b,cs,ty,hf,fun wc hc xs hx hh=>?_⟩;obtain⟨g1,g2⟩:=a8P hx ho;refine⟨_,g1,?_⟩;rw[stRun b off ty xs.toArray wc (by simp[den,a7y hf]) hh (by simpa using g2)]
    ·rename_i v n xs sz' ty hf;obtain⟨xs',ho,h⟩:=h;obtain⟨e1,e2⟩:=a9G ho;rw[u6]at e1 e2;refine⟨_,h,v,n,xs,sz',ty,hf,fun wc hc=>?_⟩;have hown:=hc.row hf;rcases hown.2 with⟨rfl,rfl⟩|⟨g,cap,cur,rfl,hb,hg,hnc,hcm,hcs,htake⟩
     ·have hx:xs=[]:=a5Q (by simpa using hown.1)
      subst hx;simp only[N0]at e2;obtain rfl:off=0:=by omega
      have hl00:l=[]:=a5Q (by omega);subst hl00;have hn0:i.n=0:=by rw[←hlen'];rfl
      refine⟨wc,?_,?_,⟨rfl,rfl,rfl,y6 _,fun _ _ _=>rfl⟩,rfl⟩
      ·have hc0:(den st.H r).cells.toList=[]:=by simpa[o6]using hcl
       simp[execOp,hop,hs,hr,den,Instr.storeAt,Instr.sureAddr,storeVar,hti.run_size,sz,hc0,storeCells]
      ·have:xs'=[]:=by rw[e1];simp[o6]
       rw[this];exact hown
     ·have hxl:xs.length=n*sz':=hown.1
      have hle:off+l.length≤cur.size:=by
       have:n*sz'≤cap*sz':=a1d _ hnc;rw[hcs];omega
      refine⟨_,stRun g off ty cur wc (by simp[den,c0i hf,b0s]) hg hle,?_,⟨rfl,rfl,rfl,by simp,fun k _ hk=>a5O _ _ _ _ (fun e=>hk (by simp[Value.ownBlock,e]))⟩,by simp⟩;have hcl2:cur.toList.length=cur.size:=by simp
      refine⟨by rw[e1];simp[u6];omega,.inr ⟨g,cap,_,rfl,hb,setRow_heap _ _ _ _ _ _ hg,hnc,hcm,?_,?_⟩⟩
      ·simp[u6];omega
      ·rw[e1,←htake];have hns:off+l.length≤n*sz':=by omega
       apply List.ext_getElem?;intro j;simp only[a5q,List.getElem?_append,O6,Z5,u6,b0r,a7s];have:min off cur.size=off:=by omega
       have h2:min off (min (n*sz') cur.size)=off:=by omega
       simp only[this,h2];by_cases hj:j<n*sz'
       ·simp only[hj,D2];by_cases hj1:j<off
        ·have:j<off+l.length:=by omega
         simp[hj1,this]
        ·by_cases hj2:j<off+l.length
         ·simp[hj1,hj2]
         ·have e3:off+l.length+(j-(off+l.length))=j:=by omega
          simp[hj2,e3,hj]
       ·have e4:¬j<off:=by omega
        have e5:¬j<off+l.length:=by omega
        have e6:¬off+l.length+(j-(off+l.length))<n*sz':=by omega
        simp[hj,e5,e6]
    ·exact h.elim
   ·exact h.elim
  ·exact h.elim
 ·exact h.elim
end
section
variable {X : Cx}{st : St}{a : Act}{o : Oper}{K : Out → Prop}
theorem B7{s:SV}(hb:s≠ .bad)(hr:∀wc0,Cls X st.H st.nk st.w wc0→∀wc,(execOp a.eval o).run X.P wc=.ok (.value (den st.H s)) wc):a2A X st a o (.val s):=
 ⟨hb,fun wc0 hc=>⟨[],.inl rfl,fun wc _=>hr wc0 hc wc⟩⟩
theorem c7B{op:BinOp}{k:IntKind}{p q:Int}{t u:TypeId}{x y:Operand}(hop:o.op=.binOp op t x y u)(hx:a.eval x=.int k p)(hy:a.eval y=.int k q)
 (h:b6u op k p q K):∃out,K out∧a2A X st a o out:=by
 have bits:∀op',op'=.and∨op'=.or∨op'=.xor∨op'=.andNot→∀v,(∀wc,(Op.intBits op' k p q).run X.P wc=.ok v wc)→o.op=.binOp op' t x y u→∀wc,(execOp a.eval o).run X.P wc=.ok (.value v) wc:=by
  intro op' ho v hv hop' wc;have e:(eqGuard op' t x y (.int k p) (.int k q)).run X.P wc=.ok () wc:=by rcases ho with rfl|rfl|rfl|rfl<;>simp[eqGuard]
  have e2:binOp op' t (.int k p) (.int k q)=Op.intBits op' k p q:=by rcases ho with rfl|rfl|rfl|rfl<;>simp[binOp]
  simp only[execOp,hop',hx,hy,y9,e,e2,hv,I9];rfl
 have bit1:∀op',op'=.and∨op'=.or∨op'=.xor∨op'=.andNot→∀n,(∀wc,(Op.intBits op' k p q).run X.P wc=.ok (.int k n) wc)→o.op=.binOp op' t x y u→K (.val (.v (.int k n)))→∃out,K out∧a2A X st a o out:=
  fun op' ho n hv hop' hk=>⟨_,hk,B7 (by simp) fun _ _ wc=>bits op' ho _ hv hop' wc⟩
 cases op
 case and=>exact bit1 .and (by simp) _ (fun _=>rfl) hop h
 case or=>exact bit1 .or (by simp) _ (fun _=>rfl) hop h
 case xor=>exact bit1 .xor (by simp) _ (fun _=>rfl) hop h
 case andNot=>exact bit1 .andNot (by simp) _ (fun _=>rfl) hop h
 all_goals simp only[b6u]at h
 all_goals first
  |exact h.elim
  |exact⟨_,h,B7 (by simp) fun _ _ wc=>by simp[execOp,hop,hx,hy,eqGuard,binOp,Op.intArith,Op.intCmp,den]⟩
  |exact⟨_,h.2,B7 (by simp) fun _ _ wc=>by simp[execOp,hop,hx,hy,eqGuard,binOp,Op.intDiv,h.1,den]⟩
theorem d0C{op:BinOp}{k k':IntKind}{p q:Int}{t u:TypeId}{x y:Operand}(hop:o.op=.binOp op t x y u)(hx:a.eval x=.int k p)(hy:a.eval y=.int k' q)
 (h:c3U op k p q K):∃out,K out∧a2A X st a o out:=by
 cases op<;>simp only[c3U]at h
 all_goals exact⟨_,h.2,B7 (by simp) fun _ _ wc=>by simp[execOp,hop,hx,hy,eqGuard,binOp,Op.shift,den,Int.not_lt.2 h.1]⟩
theorem c7f{op : BinOp}{p q : ByteArray}{t u : TypeId}{x y : Operand}(hop : o.op =.binOp op t x y u)(hx : a.eval x =.string p)(hy : a.eval y =.string q)
    (h : b6j op p q K) : ∃ out, K out ∧ a2A X st a o out := by
  cases op <;> simp only[b6j] at h <;> first
    | exact h.elim
    | exact ⟨_, h, B7 (by simp) fun _ _ wc => by simp[execOp, hop, hx, hy, eqGuard, binOp, Op.stringOp, den]⟩
    | (refine ⟨_, h.2, B7 (by simp) fun _ _ wc =>?_⟩
       have h1 : ¬ (((p.size + q.size : Nat) : Int) > IntKind.i64.max) := by
         have := h.1;simp[IntKind.max, IntKind.signed, IntKind.bits]; omega
       simp only[execOp, hop, hx, hy, eqGuard, binOp, Op.stringOp, den, h1, G8];simp)
theorem b5t{s r:SV}{off:Nat}(h:b2O s off=some r):r≠ .bad∧∃b p,den st.H s=.pointer (some ⟨b,p,none⟩)∧den st.H r=.pointer (some ⟨b,p+off,none⟩):=by
 unfold b2O at h;split at h<;>first|cases h|skip
 ·exact⟨by simp,_,_,rfl,rfl⟩
 ·exact⟨by simp,_,_,rfl,rfl⟩
 ·exact⟨by simp,_,_,rfl,rfl⟩
theorem c0y{s r:SV}{off:Nat}(h:b4H s off=some r):r≠ .bad∧∃b p,den st.H s=.pointer (some ⟨b,p,none⟩)∧den st.H r=.pointer (some ⟨b,p+off,none⟩):=by
 unfold b4H at h;split at h<;>first|cases h|skip
 ·exact⟨by simp,_,_,rfl,rfl⟩
 ·exact⟨by simp,_,_,rfl,rfl⟩
 ·exact⟨by simp,_,_,rfl,rfl⟩
theorem b4P{P:Program}{ty n:Nat}(hs:szB P ty n=true)(hn:n≠0){f:Field}(hf:f.type=ty)(ad:Addr)(w:World):(fieldPlace ad f).run P w=.ok (ad.add f.offset) w:=by
 subst hf;simp[fieldPlace,a9C hs,hn]
theorem c0c(hT:a3N X.P X.tt){t f:Nat}{i:TI}{fs:List (Nat×Nat×Nat)}(hi:D4 X.tt t=some i)(hd:i.d=.struct fs){p:Operand}{s:SV}(hs:a.eval p=den st.H s)
 (hop:o.op=.fieldAddr t p f) {ty off n:Nat} (hf:b1k fs f=some (ty,off,n)) (h:a9X K (b2O s off)):∃out,K out∧a2A X st a o out:=by
 obtain⟨r,hr,hK⟩:=U9 h;obtain⟨hb,b,q,e1,e2⟩:=b5t (st:=st) hr;obtain⟨F,hu,htd⟩:=(hT t i hi).struct hd;obtain⟨fd,g1,g2,g3,g4,g5⟩:=b6E htd hf;refine⟨_,hK,B7 hb fun _ _ wc=>?_⟩;have hF:F[f]?=some fd:=by simpa using g1
 simp[execOp,hop,hs,e1,e2,Instr.fieldAt,A5 hu,hF,Instr.sureAddr,b4P g4 g5 g2,O8,g3]
theorem c8U{P:Program}{t:Nat}{i:TI}(hti:P6 P t i){cs:List Value}{off:Nat}{l:List Value}(hl:(cs.drop off).take i.n=l)(hn:l.length=i.n)(h1:i.agg=false→l.length=1)(w:World):
 (part t cs.toArray off).run P w=.ok (if i.agg=true then .agg l.toArray else l.headD undef) w:=by
 simp only[part,y9,hti.run_isAgg,I9];cases hg:i.agg with
 |true=>
  simp only[D2,y9,hti.run_size,I9,O7];congr 2;apply N8;simp[←hl]
 |false=>
  have h2:=h1 hg
  match l,h2 with
  |[x],_=>
   have:cs[off]?=some x:=by
    have h3:=a9u hl (j:=0) (by rw[←hn];simp);simpa using h3
   simp[this]
theorem b5x{H:Hp}{s:SV}{l:List SV}(h:a4Y s=some l):den H s=.agg (o6 H l).toArray:=by
 unfold a4Y at h;split at h<;>first|cases h|skip
 ·simp[den]
 ·simp[den,H9]
theorem b5s(H:Hp)(l:List SV)(o n:Nat):((o6 H l).drop o).take n=o6 H ((l.drop o).take n):=by rw[V7,V7];simp[List.map_take,List.map_drop]
theorem b1Y(hT:a3N X.P X.tt){ty off:Nat}{i:TI}(hi:D4 X.tt ty=some i){l r:List SV}{v:SV}(hr:a4n i.n (a2z off l)=some r)(hv:mkv i.agg r=some v)(w:World):
 (part ty (o6 st.H l).toArray off).run X.P w=.ok (den st.H v) w∧v≠ .bad:=by
 rw[b4O]at hr;obtain⟨e1,e2,e3⟩:=a8Z hr;refine⟨?_,(b1Z (H:=st.H) hv e3).1⟩;rw[c8U (hT ty i hi) (l:=o6 st.H r) (by rw[e2,b5s]) (by rw[u6,e1]) (fun ha=>by rw[u6];exact b9p hv ha) w,b9c hv e3]
theorem c3S(hT:a3N X.P X.tt){t f:Nat}{i:TI}{fs:List (Nat×Nat×Nat)}(hi:D4 X.tt t=some i)(hd:i.d=.struct fs){p:Operand}{s:SV}(hs:a.eval p=den st.H s)
 (hop:o.op=.field t p f) (h:b1u X fs f s K):∃out,K out∧a2A X st a o out:=by
 unfold b1u at h;split at h
 ·rename_i ty off n l hf hl;split at h
  ·rename_i i2 r hi2 hr;split at h
   ·rename_i hn;obtain⟨v,hv,hK⟩:=U9 h;obtain⟨F,hu,htd⟩:=(hT t i hi).struct hd;obtain⟨fd,g1,g2,g3,g4,g5⟩:=b6E htd hf;have hF:F[f]?=some fd:=by simpa using g1
    rw[←z7 hn]at hr;refine⟨_,hK,B7 (b1Y (st:=st) hT hi2 hr hv X.w0).2 fun _ hc wc=>?_⟩;simp[execOp,hop,hs,b5x (H:=st.H) hl,Instr.field,A5 hu,hF,asAgg,g2,g3,(b1Y (st:=st) hT hi2 hr hv wc).1]
   ·exact h.elim
  ·exact h.elim
 ·exact h.elim
theorem a4j(k:IntKind)(n:Int)(P:Program)(w:World):(asIntOf (.int k n)).run P w=.ok (k,n) w:=rfl
theorem a6N{t e esz bytes:Nat}{i:TI}(h:P6 X.P t i)(hd:i.d=.slice e esz bytes)(w:World):(sizeOf e).run X.P w=.ok esz w:=by
 obtain⟨_,inf,hi,hs,_⟩:=h.slice hd;simp[sizeOf,typeInfo,hi,hs]
theorem a6y{t e esz bytes:Nat}{i:TI}(h:P6 X.P t i)(hd:i.d=.slice e esz bytes){k:IntKind}{z:Int}{b p n c:Nat}(h0:0≤z)(h1:z<n)(w:World):
 (Instr.indexAt t (.slice (some ⟨b,p,none⟩) n c) (.int k z)).run X.P w=.ok (.pointer (some ⟨b,p+z.toNat*esz,none⟩)) w:=by
 have hu:=(h.slice hd).1;simp only[Instr.indexAt,y9,a4j,I9,A5 hu,O7];simp[h0,h1,a6N h hd,O8]
theorem c2e{t len e esz:Nat}{i:TI}(h:P6 X.P t i)(hd:i.d=.arr len e esz){k:IntKind}{z:Int}{b p:Nat}(h0:0≤z)(h1:z<len)(w:World):
 (Instr.indexAt t (.pointer (some ⟨b,p,none⟩)) (.int k z)).run X.P w=.ok (.pointer (some ⟨b,p+z.toNat*esz,none⟩)) w:=by
 obtain⟨hu,hs⟩:=h.arr hd;simp only[Instr.indexAt,y9,a4j,I9,A5 hu,O7,Instr.sureAddr];simp[h0,h1,a9C hs,O8]
theorem c0t{place:Nat→Option (Nat×Nat)}{cells:Array Value}{j off n:Nat}{v:Value}{rest:List (Nat×Value)}(hp:place j=some (off,n))(hn:v.cells.size=n)(hle:off+n≤cells.size):
 Instr.fill place cells ((j,v)::rest)=Instr.fill place (cells.toList.take off++v.cells.toList++cells.toList.drop (off+n)).toArray rest:=by
 have key:∀(l:List Value) (q:Nat) (cs:Array Value),off+q+l.length≤cs.size→
  ((l.zipIdx q).foldl (fun cs (c,j)=>cs.setIfInBounds (off+j) c) cs)=(cs.toList.take (off+q)++l++cs.toList.drop (off+q+l.length)).toArray:=by
  intro l
  induction l with
  |nil=>intro q cs _;simp
  |cons x l ih=>
   intro q cs hle;simp only[List.zipIdx_cons,List.foldl_cons];simp only[Y0]at hle;rw[ih (q+1) _ (by simp;omega)];apply N8;simp only[Array.toList_setIfInBounds,Y0];have h1:off+q<cs.toList.length:=by simp;omega
   rw[List.take_set,←Nat.add_assoc,List.drop_set_of_lt (by omega)];rw[a4l (by simpa using h1)]
   rw[List.set_append_right _ _ (by simp;omega)];simp only[Z5,a1Q (a5j h1),Nat.sub_self,List.set_cons_zero,a3z,b3G];have:off+q+1+l.length=off+q+(l.length+1):=by omega
   rw[this]
 simp only[Instr.fill,hp,hn];rw[j6 (by simp;omega)];congr 1;rw[←Array.foldl_toList,Array.toList_zipIdx];have:=key v.cells.toList 0 cells (by simp[hn];omega);simp only[a8h,a7s,hn]at this;exact this
theorem c2s(hev:∀x s,ev st x=some s→s≠ .bad∧a.eval x=den st.H s)(hrow:a6I st.H){fs:List (Nat×Nat×Nat)}{places:Array (Nat×Nat)}(hpl:∀j ty off n,b1k fs j=some (ty,off,n)→places[j]?=some (off,n)):
 ∀(ps:List (Nat×Operand)) (l r:List SV),b4X fs st ps l=some r→ .bad∉l→
  Instr.fill (places[·]?) (o6 st.H l).toArray (ps.map fun p=>(p.1,a.eval p.2))=some (o6 st.H r).toArray∧ .bad∉r
 |[],l,r,h,hb=>by simp only[b4X]at h;cases h;exact⟨rfl,hb⟩
 |(i,x)::ps,l,r,h,hb=>by
  simp only[b4X]at h;split at h
  ·rename_i ty off n s hf hs;split at h
   ·rename_i cs hcs;split at h
    ·rename_i hlen hone;split at h
     ·rename_i r1 ho;obtain⟨_,he⟩:=hev x s hs;have hc:=a6o hcs hone hrow;obtain⟨e1,e2⟩:=a9G ho;have hn:=z7 hlen
      have hb1: .bad∉r1:=by
       rw[e1];intro hm;rcases E3.1 hm with hm|hm
       ·rcases E3.1 hm with hm|hm
        ·exact hb (a4M hm)
        ·exact b4L hrow hone hm
       ·exact hb (a7n hm)
      obtain⟨ih,hb2⟩:=c2s hev hrow hpl ps r1 r h hb1;refine⟨?_,hb2⟩;have hsz:(a.eval x).cells.size=n:=by rw[he,←a7s,hc,u6,hn]
      rw[H7,c0t (hpl i ty off n hf) hsz (by simp[u6];omega),←ih];congr 2;rw[e1,a0m,a0m,he,hc,V7,V7,V7];simp[List.map_take,List.map_drop,hn,V7]
     ·cases h
    ·cases h
   ·cases h
  ·cases h
theorem b6f(hev:∀x s,ev st x=some s→s≠ .bad∧a.eval x=den st.H s)(hrow:a6I st.H){esz:Nat}:
 ∀(ps:List (Nat×Operand)) (l r:List SV),b1R esz st ps l=some r→ .bad∉l→
  Instr.fill (fun i=>some (i*esz,esz)) (o6 st.H l).toArray (ps.map fun p=>(p.1,a.eval p.2))=some (o6 st.H r).toArray∧ .bad∉r
 |[],l,r,h,hb=>by simp only[b1R]at h;cases h;exact⟨rfl,hb⟩
 |(i,x)::ps,l,r,h,hb=>by
  simp only[b1R]at h;split at h
  ·rename_i s hs;split at h
   ·rename_i cs hcs;split at h
    ·rename_i hlen hone;split at h
     ·rename_i r1 ho;obtain⟨_,he⟩:=hev x s hs;have hc:=a6o hcs hone hrow;obtain⟨e1,e2⟩:=a9G ho;have hn:=z7 hlen
      have hb1: .bad∉r1:=by
       rw[e1];intro hm;rcases E3.1 hm with hm|hm
       ·rcases E3.1 hm with hm|hm
        ·exact hb (a4M hm)
        ·exact b4L hrow hone hm
       ·exact hb (a7n hm)
      obtain⟨ih,hb2⟩:=b6f hev hrow ps r1 r h hb1;refine⟨?_,hb2⟩;have hsz:(a.eval x).cells.size=esz:=by rw[he,←a7s,hc,u6,hn]
      rw[H7,c0t (place:=fun i=>some (i*esz,esz)) rfl hsz (by simp[u6];omega),←ih];congr 2;rw[e1,a0m,a0m,he,hc,V7,V7,V7];simp[List.map_take,List.map_drop,hn,V7]
     ·cases h
    ·cases h
   ·cases h
  ·cases h
end
section
variable {X : Cx}{st : St}{a : Act}{o : Oper}{K : Out → Prop}
theorem a1J{z:Int}{k:IntKind}{y:Nat}{code:BoundsCode}{P:Program}(h0:0≤z)(h1:z≤y)(w:World):(Instr.sliceBound (.int k z) y code).run P w=.ok z.toNat w:=by
 simp only[Instr.sliceBound,y9,a4j,I9];simp[h0,h1]
theorem c9I{st:St}{len cap:Nat}{lo hi:Option Operand}{K:Nat→Nat→Nat→Prop}(h:bnd st len cap lo hi none K):bnd st len cap lo hi none fun l h m=>m=cap∧K l h m:=by
 unfold bnd at h⊢;simp only at h⊢;split at h
 ·split at h
  ·exact⟨trivial,h⟩
  ·split at h
   ·exact⟨h.1,trivial,h.2⟩
   ·exact h.elim
 ·split at h
  ·refine⟨h.1,?_⟩;have h:=h.2;split at h
   ·exact⟨trivial,h⟩
   ·split at h
    ·exact⟨h.1,trivial,h.2⟩
    ·exact h.elim
  ·exact h.elim
theorem c2F(hev:∀x s,ev st x=some s→s≠ .bad∧a.eval x=den st.H s){isSlice:Bool}{len cap:Nat}{lo hi mx:Option Operand}{Kb:Nat→Nat→Nat→Prop}(h:bnd st len cap lo hi mx Kb):
 ∃l hh m,Kb l hh m∧∀w,(Instr.sliceBounds isSlice len cap (lo.map a.eval) (hi.map a.eval) (mx.map a.eval)).run X.P w=.ok (l,hh,m) w:=by
 unfold bnd at h;split at h
 ·split at h
  ·split at h
   ·exact⟨_,_,_,h,fun w=>by simp[Instr.sliceBounds]⟩
   ·rename_i l;split at h
    ·rename_i k z hl;have hl':=(hev _ _ hl).2;exact⟨_,_,_,h.2,fun w=>by simp[Instr.sliceBounds,hl',den,a1J h.1.1 h.1.2]⟩
    ·exact h.elim
  ·rename_i hh;split at h
   ·rename_i k y hy;have hy':=(hev _ _ hy).2;obtain⟨h1,h⟩:=h;split at h
    ·exact⟨_,_,_,h,fun w=>by simp[Instr.sliceBounds,hy',den,a1J h1.1 h1.2]⟩
    ·rename_i l;split at h
     ·rename_i k2 z hl;have hl':=(hev _ _ hl).2;refine⟨_,_,_,h.2,fun w=>?_⟩;have:=h.1.2;simp[Instr.sliceBounds,hy',hl',den,a1J h1.1 h1.2,a1J (y:=y.toNat) h.1.1 (by omega)]
     ·exact h.elim
   ·exact h.elim
 ·rename_i m;split at h
  ·rename_i k x hh hm;have hm':=(hev _ _ hm).2;obtain⟨h1,h⟩:=h;split at h
   ·rename_i k2 y hy;have hy':=(hev _ _ hy).2;obtain⟨h2,h⟩:=h;split at h
    ·refine⟨_,_,_,h,fun w=>?_⟩;simp[Instr.sliceBounds,hm',hy',den,a1J h1.1 h1.2,a1J (y:=x.toNat) h2.1 (by omega)]
    ·rename_i l;split at h
     ·rename_i k3 z hl;have hl':=(hev _ _ hl).2;refine⟨_,_,_,h.2,fun w=>?_⟩;have:=h.1.2;simp[Instr.sliceBounds,hm',hy',hl',den,a1J h1.1 h1.2,a1J (y:=x.toNat) h2.1 (by omega),a1J (y:=y.toNat) h.1.1 (by omega)]
     ·exact h.elim
   ·exact h.elim
  ·exact h.elim
theorem c6G(hrowN:∀k v n xs sz ty,l4 st.H k=some (.row v n xs sz ty)→∃ad c,v=.slice ad n c){k n sz ty:Nat}{v:Value}{xs:List Value}(h:l4 st.H k=some (.row v n xs sz ty)):∃ad c,den st.H (.row k)=.slice ad n c:=by
 obtain⟨ad,c,rfl⟩:=hrowN k v n xs sz ty h;exact⟨ad,c,by simp[den,o5,h]⟩
theorem c9U{H:Hp}{nk:Nat}{w wc:World}(h:Cls X H nk w wc):∀k v n xs sz ty,l4 H k=some (.row v n xs sz ty)→∃ad c,v=.slice ad n c:=by
 intro k v n xs sz ty hf;have:=h.row hf;rcases this.2 with⟨rfl,rfl⟩|⟨g,cap,cur,rfl,_⟩
 ·exact⟨none,0,rfl⟩
 ·exact⟨_,_,rfl⟩
theorem Q3{b:Builtin}{args:Array Operand}{tys:Array TypeId}{vals:Array Value}(hop:o.op=.call { callee:=.builtin b,args:=args,argTypes:=tys})(hg:args.map a.eval=vals)(wc:World):
 ∃cs,(execOp a.eval o).run X.P wc=(builtin b tys o.type cs vals).run X.P wc:=by
 refine⟨args.map fun|.const _=>true|_=>false,?_⟩;simp only[execOp,hop,resolve,y9,O7,I9,invoke,hg];rfl
theorem b9u{P:Program}{t:TypeId}{tys:List TypeId}{ty:TypeId}{d:TypeDesc}{ad:Option Addr}{n c e:Nat}(hu:P.underlying t=some d)(hd:d=.slice e)(w:World):
 (Builtin.len_ (t::tys).toArray ty #[.slice ad n c]).run P w=.ok (.int .i64 n) w:=by
 subst hd;simp[Builtin.len_,A5 hu,goInt]
theorem c8V{P:Program}{t:TypeId}{tys:List TypeId}{ty:TypeId}{s:ByteArray}(hu:P.underlying t=some .string)(w:World):
 (Builtin.len_ (t::tys).toArray ty #[.string s]).run P w=.ok (.int .i64 s.size) w:=by
 simp[Builtin.len_,A5 hu,goInt]
theorem c0e(hT:a3N X.P X.tt)(hev:∀x s,ev st x=some s→s≠ .bad∧a.eval x=den st.H s){b:Builtin}{args:Array Operand}{tys:Array TypeId}
 (hop:o.op=.call { callee:=.builtin b,args:=args,argTypes:=tys}) (h:Q7 X st b args.toList tys.toList K):∃out,K out∧a2A X st a o out:=by
 have hargs:∀r,evs st args.toList=some r→args.map a.eval=(o6 st.H r).toArray∧ .bad∉r:=by
  intro r hr;obtain⟨h1,h2⟩:=a6R hev hr;exact⟨by apply N8;simpa using h1,h2⟩
 unfold Q7 at h;split at h
 ·--len
  rename_i t tys' htys;have htys':tys=(t::tys').toArray:=by apply N8;simpa using htys
  split at h
  ·rename_i ad n' c hi hr;have hg:=(hargs _ hr).1;refine⟨_,h,B7 (by simp) fun _ _ wc=>?_⟩;obtain⟨cs,e⟩:=Q3 (X:=X) hop hg wc;rw[e];simp[builtin,o6,den,htys',b9u ((hT t _ hi).slice rfl).1 rfl]
  ·rename_i k q n' c hi hr;have hg:=(hargs _ hr).1;refine⟨_,h,B7 (by simp) fun _ _ wc=>?_⟩;obtain⟨cs,e⟩:=Q3 (X:=X) hop hg wc;rw[e];simp[builtin,o6,den,htys',b9u ((hT t _ hi).slice rfl).1 rfl]
  ·rename_i k hi hr;split at h
   ·rename_i v n' xs sz ty hf;have hg:=(hargs _ hr).1;refine⟨_,h,B7 (by simp) fun _ hc wc=>?_⟩;obtain⟨ad,c,hd⟩:=c6G (c9U hc) hf;simp only[o6,hd]at hg;obtain⟨cs,e⟩:=Q3 (X:=X) hop hg wc;rw[e];simp[builtin,den,htys',b9u ((hT t _ hi).slice rfl).1 rfl]
   ·exact h.elim
  ·rename_i s hi hr;have hg:=(hargs _ hr).1;refine⟨_,h,B7 (by simp) fun _ _ wc=>?_⟩;obtain⟨cs,e⟩:=Q3 (X:=X) hop hg wc;rw[e];simp[builtin,o6,den,htys',c8V ((hT t _ hi).strg rfl)]
  ·exact h.elim
 ·--max
  split at h
  ·rename_i ka p kb q hr;have hg:=(hargs _ hr).1;refine⟨_,h,B7 (by simp) fun _ _ wc=>?_⟩;obtain⟨cs,e⟩:=Q3 (X:=X) hop hg wc;rw[e];simp[builtin,o6,den,Builtin.max_,Builtin.max2]
  ·rename_i hr;have hg:=(hargs _ hr).1;refine⟨_,h,B7 (by simp) fun _ _ wc=>?_⟩;obtain⟨cs,e⟩:=Q3 (X:=X) hop hg wc;rw[e];simp[builtin,o6,den,Builtin.max_,Builtin.max2]
  ·exact h.elim
 ·--min
  split at h
  ·rename_i ka p kb q hr;have hg:=(hargs _ hr).1;refine⟨_,h,B7 (by simp) fun _ _ wc=>?_⟩;obtain⟨cs,e⟩:=Q3 (X:=X) hop hg wc;rw[e];simp[builtin,o6,den,Builtin.min_,Builtin.min2]
  ·exact h.elim
 ·--append
  rename_i t u tys' htys;have htys':tys=(t::u::tys').toArray:=by apply N8;simpa using htys
  split at h
  ·rename_i e esz bytes s x htu hi hr;obtain⟨hg,hb⟩:=hargs _ hr;obtain rfl:=z7 htu;split at h
   ·rename_i i2 hi2;split at h
    ·rename_i hn2;refine⟨_,h,fun e=>hb (by simp[e]),fun e=>hb (by simp[e]),t,_,hi,rfl,⟨i2,hi2,z7 hn2⟩,fun wc=>?_⟩
     have e0:∀ty (args:Array Value),Builtin.append_ (t::t::tys').toArray ty args=Builtin.append_ #[t,t] ty args:=by
      intro ty args;simp[Builtin.append_]
     obtain⟨cs,e1⟩:=Q3 (X:=X) hop hg wc;rw[e1];simp only[builtin,o6,htys',e0,y9];rfl
    ·exact h.elim
   ·exact h.elim
  ·exact h.elim
 ·exact h.elim
theorem c2c(n:Nat)(l:List SV):(a6r n l).length=n*l.length:=by
 induction n with
 |zero=>simp[a6r]
 |succ n ih=>simp[a6r,ih,Nat.succ_mul,Nat.add_comm]
theorem c2z{n:Nat}{l:List SV}(h: .bad∉l): .bad∉a6r n l:=by
 induction n with
 |zero=>simp[a6r]
 |succ n ih=>simp[a6r,h,ih]
theorem c4y(n:Nat)(z:List Value)(d:Value):((List.range (n*z.length)).map fun i=>z.getD (i % z.length) d)=o6 ([]:Hp) (a6r n (vs z)):=by
 induction n with
 |zero=>simp[a6r,o6]
 |succ n ih=>
  rw[a6r,a0m,H9,←ih,Nat.succ_mul,Nat.add_comm,List.range_add,List.map_append];congr 1
  ·apply List.ext_getElem?;intro j;by_cases hj:j<z.length
   ·simp[hj,Nat.mod_eq_of_lt hj]
   ·simp[hj]
  ·simp only[List.map_map];apply List.map_congr_left;intro i _;simp
theorem b8F(H:Hp)(n:Nat)(z:List Value):o6 H (a6r n (vs z))=o6 ([]:Hp) (a6r n (vs z)):=by
 induction n with
 |zero=>rfl
 |succ n ih=>simp only[a6r,a0m,H9,ih]
theorem c1x{P:Program}{w:World}{t kt et:TypeId}{r c j:Nat}{i:Int}{es:Array MapEntry}{v:Value}(hu:P.underlying t=some (.map kt et))(hk:P.underlying kt=some (.int .i64))
 (hb:w.heap[r]?=some (.map es c)) (hf:Instr.findNow (.int .i64) (.int .i64 i) es.toList 0=some (some (j,v))):(Instr.lookup t (.map (some r)) (.int .i64 i) false).run P w=.ok v w:=by
 have h1:=MapKept.run_getObj_map (P:=P) hb;have h2:=MapKept.run_checkKey (w:=w) (k:=.int .i64 i) hk (by simp[MapKept.IsKey]) es.isEmpty 9999;have h3:=MapKept.run_findKey (w:=w) hk hf;unfold Instr.lookup;simp[y9,a9t hu,I9,h1,h2,h3,O7]
theorem b9o (hT : a3N X.P X.tt) (hng : ∀ (g : Nat) (fn : Func), X.P.funcs[g]? = some fn → (fn.name == "runtime.NumGoroutine") = false) (hev : ∀ x s, ev st x = some s → s ≠ .bad ∧ a.eval x = den st.H s) (hrow : a6I st.H) (h : ev1 X st o.op K) : ∃ out, K out ∧ a2A X st a o out := by
  cases hop : o.op with
  | move x =>
    rw[hop] at h; simp only[ev1] at h;obtain ⟨s, hs, hK⟩ := U9 h;obtain ⟨h1, h2⟩ := hev x s hs;exact ⟨_, hK, B7 h1 fun _ _ wc => by simp[execOp, hop, h2]⟩
  | assign x =>
    rw[hop] at h; simp only[ev1] at h;obtain ⟨s, hs, hK⟩ := U9 h;obtain ⟨h1, h2⟩ := hev x s hs;exact ⟨_, hK, B7 h1 fun _ _ wc => by simp[execOp, hop, h2]⟩
  | pick c x y =>
    rw[hop] at h; simp only[ev1] at h;split at h
    · rename_i t hc;have hc' := (hev c _ hc).2;cases t
      · simp only[VIf] at h;obtain ⟨s, hs, hK⟩ := U9 h;obtain ⟨h1, h2⟩ := hev y s hs;exact ⟨_, hK, B7 h1 fun _ _ wc => by simp[execOp, hop, hc', den, asBool, h2]⟩
      · simp only[VIf] at h;obtain ⟨s, hs, hK⟩ := U9 h;obtain ⟨h1, h2⟩ := hev x s hs;exact ⟨_, hK, B7 h1 fun _ _ wc => by simp[execOp, hop, hc', den, asBool, h2]⟩
    · exact h.elim
  | alloc t =>
    rw[hop] at h; simp only[ev1] at h;split at h
    · rename_i i hi;refine ⟨_, h, fun wc _ =>?_⟩;obtain ⟨z, hz, hr⟩ := (hT t i hi).run_zero;have : z.cells = (o6 st.H (vs i.z)).toArray := by apply N8; simp[hz, H9]
      simp[execOp, hop, Instr.alloc, hr, newVar, newRow, this]
    · exact h.elim
  | box t x =>
    rw[hop] at h; simp only[ev1] at h;split at h
    · rename_i i s hi hs;split at h
      · rename_i l hl;split at h
        · rename_i hone;refine ⟨_, h, fun wc _ =>?_⟩;have hc := a6o hl hone hrow;have hx := (hev x s hs).2;have : (den st.H s).cells = (o6 st.H l).toArray := by apply N8; simp[hc]
          simp[execOp, hop, Instr.box, newVar, newRow, hx, this]
        · exact h.elim
      · exact h.elim
    · exact h.elim
  | load t p =>
    rw[hop] at h; simp only[ev1] at h;split at h
    · rename_i i s hi hs;exact c5Z hT hi (hev p s hs).2 hs hop h
    · exact h.elim
  | store t p x =>
    rw[hop] at h; simp only[ev1] at h;split at h
    · rename_i i q s hi hq hs;exact c3l hT hrow hi (hev p q hq).2 (hev x s hs).2 hop h
    · exact h.elim
  | nilCheck p =>
    rw[hop] at h; simp only[ev1] at h;split at h
    · rename_i k q hp; have := (hev p _ hp).2; exact ⟨_, h, B7 (by simp) fun _ _ wc => by simp[execOp, hop, this, den]⟩
    · rename_i k q hp; have := (hev p _ hp).2; exact ⟨_, h, B7 (by simp) fun _ _ wc => by simp[execOp, hop, this, den]⟩
    · rename_i q hp; have := (hev p _ hp).2; exact ⟨_, h, B7 (by simp) fun _ _ wc => by simp[execOp, hop, this, den]⟩
    · rename_i f l c hp; have := (hev p _ hp).2; exact ⟨_, h, B7 (by simp) fun _ _ wc => by simp[execOp, hop, this, den]⟩
    · exact h.elim
  | fieldAddr t p f =>
    rw[hop] at h; simp only[ev1] at h;split at h
    · rename_i n agg z eq fs s hi hs;split at h
      · rename_i ty off m hf;exact c0c hT hi rfl (hev p s hs).2 hop hf h
      · exact h.elim
    · exact h.elim
  | field t x f =>
    rw[hop] at h; simp only[ev1] at h;split at h
    · rename_i n agg z eq fs s hi hs;exact c3S hT hi rfl (hev x s hs).2 hop h
    · exact h.elim
  | indexAddr t x ix =>
    rw[hop] at h; simp only[ev1] at h;split at h
    · rename_i n agg zz eq e esz bytes ad n' c k z hi hx hix;obtain ⟨b, p, ⟨rfl, h1, h2⟩, hK⟩ := h;refine ⟨_, hK, B7 (by simp) fun _ _ wc =>?_⟩;simp[execOp, hop, (hev x _ hx).2, (hev ix _ hix).2, den, a6y (hT t _ hi) rfl h1 h2]
    · rename_i n agg zz eq e esz bytes k q n' c k2 z hi hx hix;refine ⟨_, h.2, B7 (by simp) fun _ _ wc =>?_⟩;simp[execOp, hop, (hev x _ hx).2, (hev ix _ hix).2, den, a6y (hT t _ hi) rfl h.1.1 h.1.2]
    · rename_i n agg zz eq e esz bytes k k2 z hi hx hix;split at h
      · rename_i v n' xs sz ty hf;refine ⟨_, h.2, B7 (by simp) fun _ hc wc =>?_⟩;have hown := hc.row hf;rcases hown.2 with ⟨rfl, rfl⟩ | ⟨g, cap, cur, rfl, hb, hg, _⟩
        · have := h.1; omega
        · simp[execOp, hop, (hev x _ hx).2, (hev ix _ hix).2, den, o5, hf, c0i hf, b0s, a6y (hT t _ hi) rfl h.1.1 h.1.2]
      · exact h.elim
    · rename_i n agg zz eq len e esz s k z hi hx hix;obtain ⟨⟨h1, h2⟩, h⟩ := h;obtain ⟨r, hr, hK⟩ := U9 h
      have : r ≠ .bad ∧ ∃ b p, den st.H s =.pointer (some ⟨b, p, none⟩) ∧ den st.H r =.pointer (some ⟨b, p + z.toNat * esz, none⟩) := by
        split at hr
        · exact b5t hr
        · exact c0y hr
      obtain ⟨hb, b, p, e1, e2⟩ := this;refine ⟨_, hK, B7 hb fun _ _ wc =>?_⟩;simp[execOp, hop, (hev x _ hx).2, (hev ix _ hix).2, den, e1, e2, c2e (hT t _ hi) rfl h1 h2]
    · exact h.elim
  | index t x ix =>
    rw[hop] at h; simp only[ev1] at h;split at h
    · rename_i n agg zz eq s k z hi hx hix;obtain ⟨c, ⟨h1, h2⟩, hK⟩ := h;refine ⟨_, hK, B7 (by simp) fun _ _ wc =>?_⟩
      have hs : s[z.toNat]? = some c := by
        obtain ⟨hlt, he⟩ := P3.1 h2;have hlt' : z.toNat < s.size := by simpa using hlt
        rw[getElem?_pos s z.toNat hlt'];have e1 : s[z.toNat] = s.data[z.toNat] := rfl;rw[e1];simpa using he
      simp[execOp, hop, (hev x _ hx).2, (hev ix _ hix).2, den, Instr.index, A5 ((hT t _ hi).strg rfl), a4j, h1, hs]
    · rename_i n agg zz eq len ety esz s k z hi hx hix;split at h
      · rename_i l i2 hl hi2;obtain ⟨⟨h1, h2⟩, h⟩ := h;split at h
        · rename_i r hn hr;obtain ⟨v, hv, hK⟩ := U9 h;obtain ⟨hu, hsz⟩ := (hT t _ hi).arr rfl;refine ⟨_, hK, B7 (b1Y (st := st) hT hi2 hr hv X.w0).2 fun _ hc wc =>?_⟩;have hx' := (hev x _ hx).2;rw[b5x (H := st.H) hl] at hx';simp only[execOp, hop, hx', (hev ix _ hix).2, den, Instr.index, y9, A5 hu, a4j, I9];simp[h1, h2, a9C hsz, (b1Y (st := st) hT hi2 hr hv wc).1]
        · exact h.elim
      · exact h.elim
    · exact h.elim
  | binOp op t x y u =>
    rw[hop] at h; simp only[ev1] at h;split at h
    · rename_i ka p kb q hx hy;split at h
      · exact d0C hop (hev x _ hx).2 (hev y _ hy).2 h
      · rename_i _ hk;obtain rfl := c2O hk;exact c7B hop (hev x _ hx).2 (hev y _ hy).2 h
      · exact h.elim
    · rename_i p q hx hy;exact c7f hop (hev x _ hx).2 (hev y _ hy).2 h
    · rename_i s r _ _ hx hy;split at h
      · rename_i n agg z ks d hi;split at h
        · rename_i l m hl hm;split at h
          · rename_i e he
            cases op <;> simp only[a5M] at h <;> first
              | exact h.elim
              | (refine ⟨_, h, B7 (by simp) fun _ _ wc =>?_⟩
                 have h1 := (hT t _ hi).run_eq rfl (H := st.H) hl hm he x y wc
                 first
                   | (have e : (execOp a.eval o).run X.P wc = ((do eqGuard .eql t x y (den st.H s) (den st.H r); binOp .eql t (den st.H s) (den st.H r)).run X.P wc).andThen fun a w' =>.ok (.value a) w' := by
                        simp only[execOp, hop, (hev x _ hx).2, (hev y _ hy).2];rw[y9]; rfl
                      rw[e, h1.1]; rfl)
                   | (have e : (execOp a.eval o).run X.P wc = ((do eqGuard .neq t x y (den st.H s) (den st.H r); binOp .neq t (den st.H s) (den st.H r)).run X.P wc).andThen fun a w' =>.ok (.value a) w' := by
                        simp only[execOp, hop, (hev x _ hx).2, (hev y _ hy).2];rw[y9]; rfl
                      rw[e, h1.2]; rfl))
          · exact h.elim
        · exact h.elim
      · rename_i n agg z e esz bytes hi;split at h
        · rename_i ad n1 c1;obtain ⟨hu, _⟩ := (hT t _ hi).slice rfl;have hx' := (hev x _ hx).2;have hy' := (hev y _ hy).2;simp only[den] at hx' hy'
          cases op <;> simp only[a5M] at h <;> first
            | exact h.elim
            | (refine ⟨_, h, B7 (by simp) fun _ _ wc =>?_⟩
               simp only[execOp, hop, hx', hy', y9, den];simp[eqGuard, binOp, run_equal_slice_nil wc t e _ _ _ hu])
        · exact h.elim
      · exact h.elim
    · exact h.elim
  | makeSlice t l c =>
    rw[hop] at h; simp only[ev1] at h;split at h
    · rename_i m agg z eq e esz bytes k1 p k2 q hi hl hc;split at h
      · rename_i i2 hi2;split at h
        · rename_i hn;obtain ⟨⟨rfl, h0, hb, hm⟩, h⟩ := h;have hn' := z7 hn;have hz2 := hT e i2 hi2;obtain ⟨hu, inf, hinf, hsz, hby⟩ := (hT t _ hi).slice rfl;obtain ⟨inf', zv, hinf', hsz', hzz, hzc⟩ := hz2.info;obtain rfl : inf = inf' := by rw[hinf] at hinf'; exact E0 hinf'
          have hzl : zv.cells.size = esz := by rw[← a7s, hzc, hz2.zn, hn']
          refine ⟨_, h, fun wc _ =>?_⟩
          have hbase : madeCells zv.cells (p.toNat * inf.size) = (o6 st.H (a6r p.toNat (vs i2.z))).toArray := by
            rw[b8F, ← c4y p.toNat i2.z default];apply N8;rw[hz2.zn, hn', ← hzc, hsz];simp only[madeCells, Array.toList_map, Array.toList_range, hzl];apply List.map_congr_left;intro j hj;simp[Array.getElem!_eq_getD, Array.getD_eq_getD_getElem?]
          have hrun := run_make (P := X.P) wc t e inf zv hu hinf hzz k1 k2 p p h0 (Int.le_refl _) (by rw[hby]; exact hb) hm;rw[hbase] at hrun;simp only[execOp, hop, (hev l _ hl).2, (hev c _ hc).2, den, y9, hrun, I9, O7]
        · exact h.elim
      · exact h.elim
    · exact h.elim
  | unOp op t x =>
    rw[hop] at h; simp only[ev1] at h;split at h
    · rename_i b hx;exact ⟨_, h, B7 (by simp) fun _ _ wc => by simp[execOp, hop, (hev x _ hx).2, den, Op.unary]⟩
    · rename_i k p hx;exact ⟨_, h, B7 (by simp) fun _ _ wc => by simp[execOp, hop, (hev x _ hx).2, den, Op.unary, Op.intArith]⟩
    · exact h.elim
  | convert src dst x =>
    rw[hop] at h; simp only[ev1] at h;split at h
    · rename_i i1 n1 b1 z1 k k' n h1 h2 hx;refine ⟨_, h, B7 (by simp) fun _ _ wc =>?_⟩;obtain ⟨d, hd, _⟩ := (hT src _ h1).und;have hk := (hT dst _ h2).kind;have hrun := run_convert_int (P := X.P) (w := wc) src dst k' n (by rw[hd]; rfl) (by rw[Program.intKind, hk]);have hik : X.P.intKind dst = k := by rw[Program.intKind, hk]
      rw[hik] at hrun;simp only[execOp, hop, (hev x _ hx).2, den, y9, hrun];rfl
    · exact h.elim
  | extract x n =>
    rw[hop] at h; simp only[ev1] at h
    have key : ∀ (l : List SV) (s : SV) (r : List SV), a2z n l = s :: r → l[n]? = some s := by
      intro l s r hd;rw[b4O] at hd;have := Y7 (fun l => l[0]?) hd;simpa using this
    split at h
    · rename_i l hx;split at h
      · exact h.elim
      · rename_i s r hb hd;have hg := key l s r hd;refine ⟨_, h, B7 (fun e => hb e) fun _ _ wc =>?_⟩;have : (o6 st.H l)[n]? = some (den st.H s) := by rw[b4W, hg]; rfl
        simp[execOp, hop, (hev x _ hx).2, den, Instr.extract, this]
      · exact h.elim
    · rename_i arr hx;split at h
      · rename_i s r hd;have hg := key _ s r hd;have hne : s ≠ .bad := fun e => b1E arr.toList (by rw[← e]; exact b0f hg)
        refine ⟨_, h, B7 hne fun _ _ wc =>?_⟩
        have : arr[n]? = some (den st.H s) := by
          have h1 : (o6 st.H (vs arr.toList))[n]? = some (den st.H s) := by rw[b4W, hg]; rfl
          rw[H9] at h1;simpa using h1
        simp[execOp, hop, (hev x _ hx).2, den, Instr.extract, this]
      · exact h.elim
    · exact h.elim
  | makeFunc fn first caps =>
    rw[hop] at h; simp only[ev1] at h;split at h
    · rename_i f l c hl hc;obtain ⟨h1, _⟩ := a6R hev hl;obtain ⟨h2, _⟩ := a6R hev hc;have e1 : first.map a.eval = (o6 st.H l).toArray := by apply N8; simpa using h1
      have e2 : caps.map a.eval = (o6 st.H c).toArray := by apply N8; simpa using h2
      exact ⟨_, h, B7 (by simp) fun _ _ wc => by simp[execOp, hop, Instr.makeFunc, e1, e2, den]⟩
    · exact h.elim
  | build t ps =>
    rw[hop] at h; simp only[ev1] at h;split at h
    · rename_i n agg z eq fs hi;split at h
      · rename_i l hl;obtain ⟨F, hu, htd⟩ := (hT t _ hi).struct rfl;obtain ⟨zv, hz, hzr⟩ := (hT t _ hi).run_zero
        have hmap : ∀ w, (F.mapM fun f => do pure (f.offset, ← sizeOf f.type) : Sem (Array (Nat × Nat))).run X.P w =.ok (F.map fun f => (f.offset, ((X.P.info? f.type).map (·.size)).getD 0)) w := by
          intro w
          have : ∀ (L : List Field) (fs : List (Nat × Nat × Nat)), b7e X.P L fs = true → (L.mapM fun f => do pure (f.offset, ← sizeOf f.type) : Sem (List (Nat × Nat))).run X.P w =.ok (L.map fun f => (f.offset, ((X.P.info? f.type).map (·.size)).getD 0)) w := by
            intro L
            induction L with
            | nil => intro fs _; simp
            | cons f L ih =>
              intro fs hfs;cases fs with
              | nil => simp[b7e] at hfs
              | cons x fs =>
                obtain ⟨t', o', n'⟩ := x;simp only[b7e, D7] at hfs;obtain ⟨g1, g2, g3, g4, g5⟩ := hfs;obtain ⟨inf, hi1, hi2⟩ := b2l g3;rw[← z7 g1] at hi1;have hsz : ∀ w, (sizeOf f.type).run X.P w =.ok inf.size w := fun w => by simp[sizeOf, typeInfo, hi1]
                rw[List.mapM_cons];simp only[y9, hsz, I9, O7];rw[ih fs g5];simp[hi1]
          rw[← Array.toArray_toList (xs := F)];rw[List.mapM_toArray];rw[Sem.run_map, this F.toList fs htd];simp only[I9];congr 1;apply N8;simp
        have hpl : ∀ j ty off n, b1k fs j = some (ty, off, n) → (F.map fun f => (f.offset, ((X.P.info? f.type).map (·.size)).getD 0))[j]? = some (off, n) := by
          intro j ty off n hj;obtain ⟨fd, g1, g2, g3, g4, g5⟩ := b6E htd hj;obtain ⟨inf, hi1, hi2⟩ := b2l g4;have : F[j]? = some fd := by simpa using g1
          simp[this, g3, g2, hi1, hi2]
        obtain ⟨h1, h2⟩ := c2s hev hrow hpl ps.toList (vs z) l hl (b1E z);refine ⟨_, h, B7 (by simp) fun _ _ wc =>?_⟩;have hz' : zv.cells = (o6 st.H (vs z)).toArray := by apply N8; simp[hz, H9]
        have hps : (ps.map fun p => (p.1, a.eval p.2)).toList = ps.toList.map fun p => (p.1, a.eval p.2) := by simp
        simp only[execOp, hop, Instr.build, y9, hzr, I9, A5 hu, hmap, hz'];have hps2 : (Array.map (fun x => match x with | (i, x) => (i, a.eval x)) ps).toList = ps.toList.map fun p => (p.1, a.eval p.2) := by simp
        rw[hps2, h1];simp[den]
      · exact h.elim
    · rename_i n agg z eq len e esz hi;split at h
      · rename_i l hl;obtain ⟨hu, hsz⟩ := (hT t _ hi).arr rfl;obtain ⟨zv, hz, hzr⟩ := (hT t _ hi).run_zero;obtain ⟨h1, h2⟩ := b6f hev hrow (esz := esz) ps.toList (vs z) l hl (b1E z);refine ⟨_, h, B7 (by simp) fun _ _ wc =>?_⟩;have hz' : zv.cells = (o6 st.H (vs z)).toArray := by apply N8; simp[hz, H9]
        simp only[execOp, hop, Instr.build, y9, hzr, I9, A5 hu, hz', a9C hsz];have hps2 : (Array.map (fun x => match x with | (i, x) => (i, a.eval x)) ps).toList = ps.toList.map fun p => (p.1, a.eval p.2) := by simp
        rw[hps2, h1];simp[den]
      · exact h.elim
    · exact h.elim
  | buildSlice t n ps =>
    rw[hop] at h; simp only[ev1] at h;split at h
    · rename_i m agg z eq e esz bytes hi;split at h
      · rename_i i2 hi2;split at h
        · rename_i l hle hn hl;have hle' : n * esz ≤ 16777216 := J6 hle;have hn' := z7 hn;have hz2 := hT e i2 hi2;obtain ⟨hu, _⟩ := (hT t _ hi).slice rfl;obtain ⟨zv, hz, hzr⟩ := hz2.run_zero;obtain ⟨h1, h2⟩ := b6f hev hrow (esz := esz) ps.toList _ l hl (c2z (b1E _));have hzl : zv.cells.size = esz := by rw[← a7s, hz, hz2.zn, hn']
          have hbase : ((Array.range (n * esz)).map fun i => zv.cells[i % zv.cells.size]!) = (o6 st.H (a6r n (vs i2.z))).toArray := by
            rw[b8F, ← c4y n i2.z default];apply N8;rw[hz2.zn, hn', ← hz];simp only[Array.toList_map, Array.toList_range, hzl];apply List.map_congr_left;intro j hj;simp[Array.getElem!_eq_getD, Array.getD_eq_getD_getElem?]
          refine ⟨_, h, fun wc _ =>?_⟩;have hnot : ¬ n * esz > 2 ^ 24 := by omega
          have hps2 : (Array.map (fun x => match x with | (i, x) => (i, a.eval x)) ps).toList = ps.toList.map fun p => (p.1, a.eval p.2) := by simp
          simp only[execOp, hop, Instr.buildSlice, y9, A5 hu, I9, a6N (hT t _ hi) rfl, hnot, G8, hps2];by_cases hz0 : n * esz = 0
          · have hb0 : (o6 st.H (a6r n (vs i2.z))).toArray = #[] := by
              apply N8;apply a5Q;simp[u6, c2c, b8P, hz2.zn, hn', hz0]
            rw[hb0] at h1;have hr0 : ∀ f : Nat → Value, Array.map f (Array.range 0) = #[] := fun f => by simp
            simp only[hz0, D2, O7, hr0, h1];simp[newRow]
          · simp only[hz0, G8, y9, hzr, I9, O7, hbase, h1];simp[newRow]
        · exact h.elim
      · exact h.elim
    · exact h.elim
  | slice t x lo hi mx =>
    rw[hop] at h; simp only[ev1] at h;split at h
    · rename_i n agg z eq e esz bytes ad n' c hi hx;obtain ⟨l, hh, m, hK, hr⟩ := c2F (X := X) (isSlice := true) hev h;have hu := ((hT t _ hi).slice rfl).1;refine ⟨_, hK _ rfl, B7 (by simp) fun _ _ wc =>?_⟩;simp only[execOp, hop, (hev x _ hx).2, den, Instr.sliceAt, y9, A5 hu, I9];simp[Instr.slice, A5 hu, hr, a6N (hT t _ hi) rfl, c7r]
    · rename_i n agg z eq e esz bytes k hi hx;split at h
      · rename_i v n' _ _ _ hf;obtain ⟨h0, h⟩ := h;obtain ⟨ad, n2, c, rfl, h1⟩ := hrow _ _ _ _ _ _ hf;obtain ⟨rfl, hnc, b, rfl⟩ := h1 h0;have h := h c hnc;obtain ⟨l, hh, m, hK, hr⟩ := c2F (X := X) (isSlice := true) hev (Kb := fun l h m => m = c ∧ K (.val (.osl k (if c = l then 0 else l * esz) (h - l) l))) (c9I h)
        obtain ⟨rfl, hK⟩ := hK;have hu := ((hT t _ hi).slice rfl).1;refine ⟨_, hK, B7 (by simp) fun _ _ wc =>?_⟩;have hb : bOf st.H k = b := by simp[bOf, hf, b0s]
        have hv : o5 st.H k =.slice (some ⟨b, 0, none⟩) n2 m := by simp[o5, hf]
        simp only[execOp, hop, (hev x _ hx).2, den, hv, hb, b2e, Instr.sliceAt, y9, A5 hu, I9];simp only[Instr.slice, y9, A5 hu, I9, hr, a6N (hT t _ hi) rfl, O7];by_cases hc : m = l
        · simp[hc]
        · simp[hc, O8]
      · exact h.elim
    · rename_i n agg z eq s hi hx;split at h
      · obtain ⟨l, hh, m, hK, hr⟩ := c2F (X := X) (isSlice := false) hev h;have hu := (hT t _ hi).strg rfl;refine ⟨_, hK, B7 (by simp) fun _ _ wc =>?_⟩;simp only[Option.map_none] at hr;simp only[execOp, hop, (hev x _ hx).2, den, Instr.sliceAt, y9, A5 hu, I9];simp[Instr.slice, A5 hu, hr]
      · exact h.elim
    · rename_i n agg z eq len ety esz k hi hx;split at h
      · split at h
        · rename_i hf;obtain ⟨hu, hsz⟩ := (hT t _ hi).arr rfl;refine ⟨_, h, B7 (by simp) fun _ _ wc =>?_⟩;have hcap : b2e (o5 st.H k) len = len := by simp[o5, hf, b2e, undef]
          simp only[execOp, hop, (hev x _ hx).2, den, hcap, Instr.sliceAt, y9, A5 hu, I9];simp[Instr.sliceBounds, Instr.sureAddr, a9C hsz, O8]
        · exact h.elim
      · exact h.elim
    · exact h.elim
  | call c =>
    rw[hop] at h; simp only[ev1] at h;split at h
    · rename_i f hcal;split at h
      · rename_i g l caps args hf hargs;obtain ⟨h1, _⟩ := a6R hev hargs;refine ⟨_, h, fun wc hb =>?_⟩;obtain ⟨fn, cd, hfn, hbody⟩ := hb;have e1 : c.args.map a.eval = (o6 st.H args).toArray := by apply N8; simpa using h1
        have hng' := hng g fn hfn;simp only[execOp, hop, resolve, hcal, y9, (hev f _ hf).2, den, Deferred.ofValue, O7, I9, invoke, callFunc, run_program, hfn, e1];simp[hng', hbody, a0m]
      · rename_i g l caps args hf hargs;obtain ⟨h1, _⟩ := a6R hev hargs;refine ⟨_, h, fun wc hb =>?_⟩;obtain ⟨fn, cd, hfn, hbody⟩ := hb;have e1 : c.args.map a.eval = (o6 st.H args).toArray := by apply N8; simpa using h1
        have hng' := hng g fn hfn;simp only[execOp, hop, resolve, hcal, y9, (hev f _ hf).2, den, Deferred.ofValue, O7, I9, invoke, callFunc, run_program, hfn, e1];simp[hng', hbody, a0m, H9]
      · exact h.elim
    · rename_i b hcal;obtain ⟨callee, args, tys⟩ := c;simp only at hcal h;subst hcal;exact c0e hT hev hop h
    · exact h.elim
  | lookup t x ix ok =>
    rw[hop] at h; simp only[ev1] at h;split at h
    · rename_i r hx;split at h
      · rename_i i hi;obtain ⟨⟨kt, et, hu, hk⟩, es, c, j, v, hm, hf, hK⟩ := h;have h1 := (hev x _ hx).2;have h2 := (hev ix _ hi).2;refine ⟨_, hK, by simp, fun wc hc => ⟨[r],.inr (.inr ⟨_, _, _, _, hop, fun k hk2 => by rw[hx] at hk2; cases hk2⟩), fun wc' hw =>?_⟩⟩;have hb : wc'.heap[r]? = some (.map es c) := by rw[hw r (by simp)]; exact hm.heap hc
        have hl := c1x hu hk hb hf;simp only[execOp, hop, h1, h2, den, y9, hl, I9, O7]
      · exact h.elim
    · rename_i k hx;split at h
      · rename_i s b es m hi hf;obtain ⟨⟨hm, rfl⟩, kc, v, bb, ⟨hd, hk, rfl, rfl⟩, hK⟩ := h;have h1 := (hev x _ hx).2;have h2 := (hev ix _ hi).2;have hden : den st.H (.row k) =.map (some b) := by simp[den, o5, hf]
        refine ⟨_, hK, by cases ok <;> simp, fun wc hc =>?_⟩;have hat : b0w wc b es m := by have := hc.own k _ (o7 hf); exact this
        refine ⟨[b],.inr (.inr ⟨_, _, _, _, hop, fun k' hk' =>?_⟩), fun wc' hw =>?_⟩
        · rw[hx] at hk'; cases hk';obtain ⟨arr, c, hb, _⟩ := hat;exact ⟨_, b, hf, by simp[bsE], rfl, (Z8.1 hb).1⟩
        · have hat' : b0w wc' b es m := by
            obtain ⟨arr, c, hb, g1, g2⟩ := hat;exact ⟨arr, c, by rw[hw b (by simp)]; exact hb, g1, g2⟩
          have hl := c2g hT hm hat' hk ok;simp only[execOp, hop, h1, h2, hden, hd, y9, hl, I9, O7];cases ok <;> simp[den, o6]
      · exact h.elim
    · exact h.elim
  | _ => rw[hop] at h; simp only[ev1] at h
end
theorem S9{a b:Nat}(h:a≠b):Nat.beq a b=false:=by
 cases hb:Nat.beq a b with
 |false=>rfl
 |true=>exact absurd (z7 hb) h
def N1(X:Cx)(a:Act)(d:Nat):Option Value:=if d<L3 then a.tmps[d]? else X.sv[d-L3]?
structure Rel(X:Cx)(st:St)(a:Act)(w:World):Prop where
 size:a.tmps.size=X.nt∧X.nt≤L3
 T:∀d s,A8 st.T d=some s→s=.bad∨N1 X a d=some (den st.H s)
 dfs:a.defers=X.dfs
 cls:Cls X st.H st.nk st.w w
 lo:st.lo≤w.heap.size
 iv:∀p,p∈st.iv→p.1≤p.2∧p.2≤w.heap.size
def chB(H:Hp)(out:Out):List Nat:=match a8q out with
 |some k=>(match l4 H k with|some e=>bsE e|none=>[])
 |none=>[]
def KB(H:Hp)(w:World)(H':Hp):Prop:=∀k e,(k,e)∈H'→∀b,b∈bsE e→w.heap.size≤b∨∃e0,(k,e0)∈H∧b∈bsE e0
theorem KB.refl(H:Hp)(w:World):KB H w H:=fun _ e h _ hb=>.inr ⟨e,h,hb⟩
theorem KB.bs{H H':Hp}{w:World}(h:KB H w H'):∀b,b∈bs H'→b∈Sx.bs H∨w.heap.size≤b:=by
 intro b hb;obtain⟨k,e,h1,h2⟩:=A3.1 hb;rcases h k e h1 b h2 with h3|⟨e0,h3,h4⟩
 ·exact .inr h3
 ·exact .inl (A3.2 ⟨k,e0,h3,h4⟩)
theorem Fx.wide{o1 o2:List Nat}{w w':World}(h:Fx o1 w w')(hs:∀b,b∈o1→b∈o2):Fx o2 w w':=⟨h.os,h.tape,h.output,h.size,fun i hi hn=>h.block i hi fun b hb=>hn b (hs b hb)⟩
theorem c9b{H:Hp}{out:Out}:∀b,b∈chB H out→b∈bs H:=by
 intro b hb;unfold chB at hb;split at hb
 ·split at hb
  ·rename_i e he;exact A3.2 ⟨_,e,o7 he,hb⟩
  ·cases hb
 ·cases hb
def Leaves(X:Cx)(H:Hp)(ch:List Nat)(w:World)(K:St→Prop)(a':Act)(w':World):Prop:=
 ∃st',K st'∧Rel X st' a' w'∧Fx ch w w'∧KB H w st'.H
section
variable {X : Cx}{st : St}{a : Act}{w : World}{K : St → Prop}
theorem Rel.ev(hr:Rel X st a w):∀x s,ev st x=some s→s≠ .bad∧a.eval x=den st.H s:=fun _ _ h=>d0q (fun d s hd hl=>by have:=hr.T d s hl;rwa [N1,k9 hd]at this) h
theorem Y5{B:Nat}{H:Hp}{w w':World}{e:Ent}(h:a5V B H w e)(hk:∀b,b∈bsE e→w'.heap[b]?=w.heap[b]?):a5V B H w' e:=by
 cases e with
 |blk b cs ty=>obtain⟨xs,h1,h2⟩:=h;exact⟨xs,h1,by rw[hk b (by simp[bsE])];exact h2⟩
 |mp b es ty=>obtain⟨arr,c,h1,h2⟩:=h;exact⟨arr,c,by rw[hk b (by simp[bsE])];exact h1,h2⟩
 |row v n xs sz ty=>
  refine⟨h.1,?_⟩;rcases h.2 with h2|⟨g,cap,cur,rfl,hb,hg,r⟩
  ·exact .inl h2
  ·exact .inr ⟨g,cap,cur,rfl,hb,by rw[hk g (by simp[bsE,r6])];exact hg,r⟩
theorem c1c{B:Nat}{H:Hp}{w:World}{e:Ent}(h:a5V B H w e){b:Nat}(hb:b∈bsE e):b<w.heap.size:=by
 cases e with
 |blk c cs ty=>obtain⟨xs,h1,h2⟩:=h;simp[bsE]at hb;subst hb;exact(Z8.1 h2).1
 |mp c es ty=>obtain⟨arr,cl,h1,_⟩:=h;simp[bsE]at hb;subst hb;exact(Z8.1 h1).1
 |row v n xs sz ty=>
  rcases h.2 with⟨rfl,_⟩|⟨g,cap,cur,rfl,_,hg,_⟩
  ·simp[bsE,r6]at hb
  ·simp[bsE,r6]at hb;subst hb;exact(Z8.1 hg).1
theorem Cls.lt_size{H:Hp}{nk:Nat}{w wc:World}(h:Cls X H nk w wc){b:Nat}(hb:b∈bs H):b<wc.heap.size:=by
 obtain⟨k,e,he,hbe⟩:=A3.1 hb;exact c1c (h.own k e he) hbe
theorem c4L(hr:Rel X st a w){d:Nat}{s:SV}{v:Value}(hd:d<X.nt)(hv:s=.bad∨v=den st.H s):Rel X ⟨(d,s)::st.T,st.H,st.nk,st.w,st.lo,st.iv⟩ (a.put (some d) v) w:=by
 refine⟨by simp[Act.put,hr.size],fun d' s' h=>?_,hr.dfs,hr.cls,hr.lo,hr.iv⟩;simp only[A8]at h;split at h
 ·rename_i hb;cases h;obtain rfl:=z7 hb;rcases hv with h|h
  ·exact .inl h
  ·right;simp[N1,C5 hd hr.size.2,Act.put,hr.size.1,hd,h]
 ·rename_i hb;rcases hr.T d' s' h with h1|h1
  ·exact .inl h1
  ·right;simp only[N1,Act.put]at h1⊢;rw[a4r (a3y hb)];exact h1
theorem a1g(hr:Rel X st a w){dst:Option Nat}{s:SV}{v:Value}(h:put X st dst s K)(hv:s=.bad∨v=den st.H s):∃st',K st'∧Rel X st' (a.put dst v) w∧st'.H=st.H:=by
 unfold put at h;cases dst with
 |none=>exact⟨st,h,hr,rfl⟩
 |some d=>
  obtain⟨T,H,nk,w0,lo,iv⟩:=st;simp only at h;split at h
  ·rename_i hd heq;cases heq;exact⟨_,h,c4L hr (by simpa[a4p]using hd) hv,rfl⟩
  ·exact h.elim
theorem Leaves.put(hr:Rel X st a w){H0:Hp}{ch:List Nat}{w0:World}{dst:Option Nat}{s:SV}{v:Value}(h:put X st dst s K)(hv:s=.bad∨v=den st.H s)(hf:Fx ch w0 w)
 (hb:KB H0 w0 st.H):Leaves X H0 ch w0 K (a.put dst v) w:=by
 obtain⟨st',h1,h2,h3⟩:=a1g hr h hv;exact⟨st',h1,h2,hf,by rw[h3];exact hb⟩
theorem b3Y{k:Nat}{T:List (Nat×SV)}(h:w8 k T=true){d:Nat}{s:SV}(hl:A8 T d=some s):ment k s=false:=by
 induction T with
 |nil=>simp[A8]at hl
 |cons x T ih=>
  obtain⟨d',s'⟩:=x;simp only[w8]at h;split at h
  ·cases h
  ·rename_i hm;simp only[A8]at hl;split at hl
   ·cases hl;exact hm
   ·exact ih h hl
theorem b2B{k:Nat}{l:List SV}(h:I2 k l=false){s:SV}(hs:s∈l):ment k s=false:=by
 induction l with
 |nil=>cases hs
 |cons x l ih=>
  simp only[I2]at h;split at h
  ·cases h
  ·rename_i hm;rcases u9.1 hs with rfl|hs
   ·exact hm
   ·exact ih h hs
theorem b0R{k:Nat}{H:Hp}(h:A7 k H=true){j b ty:Nat}{cs:List SV}(hm:(j,Ent.blk b cs ty)∈H):I2 k cs=false:=by
 induction H with
 |nil=>cases hm
 |cons x H ih=>
  obtain⟨j',e⟩:=x;cases e with
  |blk b' cs' ty'=>
   simp only[A7]at h;split at h
   ·cases h
   ·rename_i hf;rcases u9.1 hm with he|hm
    ·cases he;exact hf
    ·exact ih h hm
  |row v n xs sz ty'=>
   simp only[A7]at h;rcases u9.1 hm with he|hm
   ·cases he
   ·exact ih h hm
  |mp b es ty'=>
   simp only[A7]at h;rcases u9.1 hm with he|hm
   ·cases he
   ·exact ih h hm
theorem b2m{H:Hp}{k:Nat}{e:Ent}{s:SV}(h:ment k s=false):den ((k,e)::H) s=den H s:=
 a9D k (fun j hj=>by simp[bOf,o5,Q5 (H:=H) (e:=e) (Ne.symm hj)]) s h
theorem c1q{H:Hp}{k:Nat}{e:Ent}{l:List SV}(h:I2 k l=false):o6 ((k,e)::H) l=o6 H l:=
 a3O k (fun j hj=>by simp[bOf,o5,Q5 (H:=H) (e:=e) (Ne.symm hj)]) l h
theorem Cls.cons{H:Hp}{nk:Nat}{w wc wc':World}{e:Ent}(hc:Cls X H nk w wc)(hfr:A7 nk H=true)(hk:∀k e,(k,e)∈H→k≠nk)
 (hsz:wc.heap.size≤wc'.heap.size) (hh:∀i,i<wc.heap.size→wc'.heap[i]?=wc.heap[i]?) (hos:wc'.os=wc.os) (htp:wc'.tape=wc.tape) (hou:wc'.output=wc.output)
 (he:a5V 0 ((nk,e)::H) wc' e) (heb:∀b,b∈bsE e→wc.heap.size≤b) (hen:(bsE e).Nodup):Cls X ((nk,e)::H) (nk+1) w wc':=by
 have hold:∀b,b∈bs H→b<wc.heap.size:=fun b hb=>hc.lt_size hb
 refine⟨⟨hos.trans hc.fx.os,htp.trans hc.fx.tape,hou.trans hc.fx.output,z6 hc.fx.size hsz,fun i hi hn=>?_⟩,
  ⟨hos.trans hc.fx0.os,htp.trans hc.fx0.tape,hou.trans hc.fx0.output,z6 hc.fx0.size hsz,fun i hi hn=>?_⟩,?_,?_,?_,?_,?_⟩
 ·rw[hh i (C5 hi hc.fx.size)];exact hc.fx.block i hi fun b hb=>hn b (by simp[bs,hb])
 ·rw[hh i (C5 hi hc.fx0.size)];exact hc.fx0.block i hi hn
 ·intro k e' hm;rcases u9.1 hm with h|h
  ·cases h;exact he
  ·have h1:=Y5 (hc.own k e' h) (w':=wc') (fun b hb=>hh b (hold b (A3.2 ⟨k,e',h,hb⟩)));cases e' with
   |row v n xs sz ty=>exact h1
   |mp b es ty=>exact h1
   |blk b cs ty=>
    obtain⟨xs,h2,h3⟩:=h1;exact⟨xs,a2T h2 fun s hs _=>b2m (b2B (b0R hfr h) hs),h3⟩
 ·simp only[bs,a6X];refine⟨hen,hc.nd,fun b hb b' hb' heq=>?_⟩;subst heq;have:=heb b hb;have:=hold b hb';omega
 ·intro b hb;simp only[bs,E3]at hb;rcases hb with hb|hb
  ·exact .inr (z6 hc.fx0.size (heb b hb))
  ·exact hc.lb b hb
 ·simp only[H7,a4i];refine⟨fun hm=>?_,hc.keys⟩;obtain⟨⟨k,e'⟩,h1,h2⟩:=L6.1 hm;exact hk k e' h1 h2
 ·intro k e' hm;rcases u9.1 hm with h|h
  ·cases h;omega
  ·have:=hc.lt k e' h;omega
theorem Rel.cons(hr:Rel X st a w){w':World}{e:Ent}(hT:w8 st.nk st.T=true)(hfr:A7 st.nk st.H=true)
 (hsz:w.heap.size≤w'.heap.size) (hh:∀i,i<w.heap.size→w'.heap[i]?=w.heap[i]?) (hos:w'.os=w.os) (htp:w'.tape=w.tape) (hou:w'.output=w.output)
 (he:a5V 0 ((st.nk,e)::st.H) w' e) (heb:∀b,b∈bsE e→w.heap.size≤b) (hen:(bsE e).Nodup):Rel X ⟨st.T,(st.nk,e)::st.H,st.nk+1,st.w,st.lo,st.iv⟩ a w':=by
 refine⟨hr.size,fun d s h=>?_,hr.dfs,hr.cls.cons hfr (fun k e h=>by have:=hr.cls.lt k e h;omega) hsz hh hos htp hou he heb hen,z6 hr.lo hsz,fun p hp=>⟨(hr.iv p hp).1,z6 (hr.iv p hp).2 hsz⟩⟩;rcases hr.T d s h with h1|h1
 ·exact .inl h1
 ·right;rw[h1,b2m (b3Y hT h)]
theorem b9L{iv:List (Nat×Nat)}{n b:Nat}(h:∀p,p∈iv→p.1≤p.2∧p.2≤n)(hb:n≤b):a7b iv b:=by
 induction iv with
 |nil=>trivial
 |cons p iv ih=>
  obtain⟨x,y⟩:=p;exact⟨.inr (z6 (h (x,y) (by simp)).2 hb),ih fun p hp=>h p (by simp[hp])⟩
theorem b9I{H:Hp}{k:Nat}{e:Ent}{K:Hp→Prop}(h:b1o H k e K):∃H1 e0 H2,H=H1++(k,e0)::H2∧(∀e',(k,e')∉H1)∧K (H1++(k,e)::H2):=by
 induction H generalizing K with
 |nil=>exact h.elim
 |cons x H ih=>
  obtain⟨k',e'⟩:=x;simp only[b1o]at h;split at h
  ·rename_i hb;obtain rfl:=z7 hb;exact⟨[],e',H,rfl,by simp,h⟩
  ·rename_i hb;obtain⟨H1,e0,H2,rfl,h2,h3⟩:=ih h;refine⟨(k',e')::H1,e0,H2,rfl,fun e1 hm=>?_,h3⟩;rcases u9.1 hm with hm|hm
   ·cases hm;exact a3y hb rfl
   ·exact h2 e1 hm
theorem a1x{H1 H2:Hp}{k j:Nat}{e e0:Ent}(h:∀e',(k,e')∉H1):l4 (H1++(k,e)::H2) j=if j=k then some e else l4 (H1++(k,e0)::H2) j:=by
 induction H1 with
 |nil=>
  simp only[a2B,l4];by_cases hj:j=k
  ·subst hj;simp
  ·have:Nat.beq k j=false:=S9 fun e=>hj e.symm
   simp[hj,this]
 |cons x H1 ih=>
  obtain⟨k',e'⟩:=x;have hk':k'≠k:=fun e=>h e' (by simp[e])
  simp only[a1l,l4];by_cases hj:j=k'
  ·subst hj;simp[hk']
  ·have:Nat.beq k' j=false:=S9 fun e=>hj e.symm
   simp only[this];exact ih fun e1 hm=>h e1 (by simp[hm])
theorem a2P(H1 H2:Hp):bs (H1++H2)=bs H1++bs H2:=by
 induction H1 with
 |nil=>rfl
 |cons x H1 ih=>obtain⟨k,e⟩:=x;simp[bs,ih]
theorem b2g{H1 H2:Hp}{k:Nat}{e e0:Ent}(h:bsE e=bsE e0):bs (H1++(k,e)::H2)=bs (H1++(k,e0)::H2):=by simp[a2P,bs,h]
theorem b5M{H1 H2:Hp}{k:Nat}{e e0:Ent}{j:Nat}{e':Ent}(h:(j,e')∈H1++(k,e)::H2):(j=k∧e'=e)∨((j,e')∈H1++(k,e0)::H2∧((j,e')∈H1∨(j,e')∈H2)):=by
 rcases E3.1 h with h|h
 ·exact .inr ⟨a6P _ h,.inl h⟩
 ·rcases u9.1 h with h|h
  ·cases h;exact .inl ⟨rfl,rfl⟩
  ·exact .inr ⟨a6p _ (F6 _ h),.inr h⟩
theorem Cls.swap{H1 H2:Hp}{k:Nat}{e e0:Ent}{nk:Nat}{w wc wc':World}(hc:Cls X (H1++(k,e0)::H2) nk w wc)(hbs:bsE e=bsE e0)
 (hd:∀j,bOf (H1++(k,e)::H2) j=bOf (H1++(k,e0)::H2) j∧o5 (H1++(k,e)::H2) j=o5 (H1++(k,e0)::H2) j)
 (hsz:wc'.heap.size=wc.heap.size) (hh:∀i,i∉bsE e0→wc'.heap[i]?=wc.heap[i]?) (hos:wc'.os=wc.os) (htp:wc'.tape=wc.tape) (hou:wc'.output=wc.output)
 (hbor:∀b,b∈bsE e0→b∈X.bor∨X.w0.heap.size≤b) (he:a5V 0 (H1++(k,e)::H2) wc' e):Cls X (H1++(k,e)::H2) nk w wc':=by
 have hmem:(k,e0)∈H1++(k,e0)::H2:=by simp
 refine⟨⟨hos.trans hc.fx.os,htp.trans hc.fx.tape,hou.trans hc.fx.output,by rw[hsz];exact hc.fx.size,fun i hi hn=>?_⟩,
  ⟨hos.trans hc.fx0.os,htp.trans hc.fx0.tape,hou.trans hc.fx0.output,by rw[hsz];exact hc.fx0.size,fun i hi hn=>?_⟩,?_,by rw[b2g hbs];exact hc.nd,by rw[b2g hbs];exact hc.lb,by simpa using hc.keys,?_⟩
 ·rw[b2g hbs]at hn;rw[hh i (fun hm=>hn i (A3.2 ⟨k,e0,hmem,hm⟩) rfl)];exact hc.fx.block i hi hn
 ·rw[hh i (fun hm=>by
   rcases hbor i hm with h|h
   ·exact hn i h rfl
   ·omega)]
  exact hc.fx0.block i hi hn
 ·intro j e' hm;rcases b5M (e0:=e0) hm with⟨rfl,rfl⟩|⟨hm,hor⟩
  ·exact he
  ·have hne:j≠k:=by
    intro hjk;subst hjk;have hk:=hc.keys;simp only[List.map_append,H7,a6X,a4i]at hk;rcases hor with h|h
    ·exact hk.2.2 j (L6.2 ⟨_,h,rfl⟩) j (by simp) rfl
    ·exact hk.2.1.1 (L6.2 ⟨_,h,rfl⟩)
   have h1:=Y5 (hc.own j e' hm) (w':=wc') (fun b hb=>hh b (a4o hc.nd hc.keys hm hmem hne hb));cases e' with
   |row v n xs sz ty=>exact h1
   |mp b es ty=>exact h1
   |blk b cs ty=>
    obtain⟨xs,h2,h3⟩:=h1;exact⟨xs,a2T h2 fun s _ _=>a9i hd s,h3⟩
 ·intro j e' hm;rcases b5M (e0:=e0) hm with⟨rfl,rfl⟩|⟨hm,_⟩
  ·exact hc.lt _ _ hmem
  ·exact hc.lt _ _ hm
theorem Rel.swap{T:List (Nat×SV)}{H1 H2:Hp}{k:Nat}{e e0:Ent}{nk lo:Nat}{ws:World}{iv:List (Nat×Nat)}{w':World}(hr:Rel X ⟨T,H1++(k,e0)::H2,nk,ws,lo,iv⟩ a w)(hbs:bsE e=bsE e0)
 (hd:∀j,bOf (H1++(k,e)::H2) j=bOf (H1++(k,e0)::H2) j∧o5 (H1++(k,e)::H2) j=o5 (H1++(k,e0)::H2) j)
 (hsz:w'.heap.size=w.heap.size) (hh:∀i,i∉bsE e0→w'.heap[i]?=w.heap[i]?) (hos:w'.os=w.os) (htp:w'.tape=w.tape) (hou:w'.output=w.output)
 (he:a5V 0 (H1++(k,e)::H2) w' e):Rel X ⟨T,H1++(k,e)::H2,nk,ws,lo,iv⟩ a w':=by
 refine⟨hr.size,fun d s h=>?_,hr.dfs,hr.cls.swap hbs hd hsz hh hos htp hou (fun b hb=>hr.cls.lb b (A3.2 ⟨k,e0,by simp,hb⟩)) he,by rw[hsz];exact hr.lo,fun p hp=>by rw[hsz];exact hr.iv p hp⟩;rcases hr.T d s h with h1|h1
 ·exact .inl h1
 ·right;rw[h1];simp only;rw[a9i hd s]
theorem b2x{k:Nat}{T:List (Nat×SV)}{d:Nat}{s:SV}(h:A8 (a1T k T) d=some s):s=.bad∨(A8 T d=some s∧ment k s=false):=by
 induction T with
 |nil=>simp[a1T,A8]at h
 |cons x T ih=>
  obtain⟨d',s'⟩:=x;simp only[a1T,A8]at h;split at h
  ·rename_i hb;cases h;simp only[b2D];cases hm:ment k s' with
   |true=>exact .inl rfl
   |false=>exact .inr ⟨by simp[A8,z7 hb],hm⟩
  ·rename_i hb;rcases ih h with h1|h1
   ·exact .inl h1
   ·exact .inr ⟨by simp[A8,hb,h1.1],h1.2⟩
theorem a5A{k:Nat}{T:List (Nat×SV)}{K:List (Nat×SV)→Prop}:b3I k T K=K (a1T k T):=by
 induction T generalizing K with
 |nil=>rfl
 |cons x T ih=>
  obtain⟨d,s⟩:=x;simp only[b3I,a1T,b2D];cases hm:ment k s<;>simp[ih]
theorem b4a{H H':Hp}{k:Nat}{l:List SV}{xs:List Value}(h:q8 H l xs)(hd:∀s,ment k s=false→den H' s=den H s):q8 H' (b3k k l) xs:=by
 induction l generalizing xs with
 |nil=>cases xs<;>simp_all[q8,b3k]
 |cons t l ih=>cases xs with
  |nil=>simp[q8]at h
  |cons x xs=>
   simp only[q8,b3k]at h⊢;refine⟨?_,ih h.2⟩;simp only[b2D];cases hm:ment k t with
   |true=>exact .inl rfl
   |false=>
    rcases h.1 with h1|h1
    ·exact .inl h1
    ·exact .inr (by rw[hd t hm];exact h1)
theorem b9l(k:Nat)(H1 H2:Hp):C4 k (H1++H2)=C4 k H1++C4 k H2:=by
 induction H1 with
 |nil=>rfl
 |cons x H1 ih=>obtain⟨j,e⟩:=x;simp[C4,ih]
theorem a2K{k j:Nat}{H:Hp}{e:Ent}(h:(j,e)∈C4 k H):∃e',(j,e')∈H∧e=a1P k e':=by
 induction H with
 |nil=>simp[C4]at h
 |cons x H ih=>
  obtain⟨j',e'⟩:=x;simp only[C4]at h;rcases u9.1 h with h|h
  ·cases h;exact⟨e',by simp,rfl⟩
  ·obtain⟨e1,h1,h2⟩:=ih h;exact⟨e1,by simp[h1],h2⟩
theorem b1A(k:Nat)(e:Ent):bsE (a1P k e)=bsE e:=by cases e<;>rfl
theorem a6f(k:Nat)(H:Hp):bs (C4 k H)=bs H:=by
 induction H with
 |nil=>rfl
 |cons x H ih=>obtain⟨j,e⟩:=x;simp[C4,bs,ih,b1A]
theorem c6d(k:Nat)(H:Hp):(C4 k H).map (·.1)=H.map (·.1):=by
 induction H with
 |nil=>rfl
 |cons x H ih=>obtain⟨j,e⟩:=x;simp[C4,ih]
theorem M9(k j:Nat)(H:Hp):l4 (C4 k H) j=(l4 H j).map (a1P k):=by
 induction H with
 |nil=>rfl
 |cons x H ih=>
  obtain⟨j',e⟩:=x;simp only[C4,l4];split<;>simp[ih]
theorem Cls.grow{H:Hp}{k:Nat}{H1 H2:Hp}{e0:Ent}{v':Value}{n sz ty:Nat}{xs:List Value}{nk:Nat}{w wc wc':World}(hc:Cls X H nk w wc)(hH:H=H1++(k,e0)::H2)(hk1:∀e',(k,e')∉H1)
 (hown:wc'.ownsRow 0 ty sz v' n xs) (hg:∀i,i<wc.heap.size→i∉bsE e0→wc'.heap[i]?=wc.heap[i]?) (hsz:wc.heap.size≤wc'.heap.size)
 (hos:wc'.os=wc.os) (htp:wc'.tape=wc.tape) (hou:wc'.output=wc.output) (hb:∀b,b∈r6 v'→b∈bsE e0∨wc.heap.size≤b) (hbor:∀b,b∈bsE e0→b∈X.bor∨X.w0.heap.size≤b):
 Cls X (C4 k H1++(k,.row v' n xs sz ty)::C4 k H2) nk wc' wc'∧(∀s,ment k s=false→den (C4 k H1++(k,.row v' n xs sz ty)::C4 k H2) s=den H s):=by
 subst hH;have hmem:(k,e0)∈H1++(k,e0)::H2:=by simp
 have hden:∀s,ment k s=false→den (C4 k H1++(k,.row v' n xs sz ty)::C4 k H2) s=den (H1++(k,e0)::H2) s:=by
  intro s hs;refine a9D k (fun j hj=>?_) s hs
  have h1:l4 (C4 k H1++(k,.row v' n xs sz ty)::C4 k H2) j=(l4 (H1++(k,e0)::H2) j).map (a1P k):=by
   rw[a1x (e0:=a1P k e0) (fun e' hm=>by obtain⟨e1,h1,_⟩:=a2K hm;exact hk1 e1 h1),j6 hj,←M9,b9l];rfl
  simp only[bOf,o5,h1];cases h:l4 (H1++(k,e0)::H2) j with
  |none=>simp
  |some e=>cases e<;>simp[a1P]
 have hownB:(r6 v').Nodup:=by cases v'<;>simp[r6]<;>(rename_i a _ _;cases a<;>simp)
 have hkeys:=hc.keys;have hnd:=hc.nd;simp only[List.map_append,H7,a6X,a4i]at hkeys;simp only[a2P,bs,a6X]at hnd;have hlt:∀b,b∈bs (H1++(k,e0)::H2)→b<wc.heap.size:=fun b hb=>hc.lt_size hb
 refine⟨⟨Fx.refl _ _,⟨hos.trans hc.fx0.os,htp.trans hc.fx0.tape,hou.trans hc.fx0.output,z6 hc.fx0.size hsz,fun i hi hn=>?_⟩,?_,?_,?_,?_,?_⟩,hden⟩
 ·rw[hg i (C5 hi hc.fx0.size) (fun hm=>by rcases hbor i hm with h|h;exact hn i h rfl;omega)]
  exact hc.fx0.block i hi hn
 ·intro j e hm;rcases E3.1 hm with hm|hm
  ·obtain⟨e',h1,rfl⟩:=a2K hm;have hm':(j,e')∈H1++(k,e0)::H2:=by simp[h1]
   have hne:j≠k:=fun e=>hk1 e' (e▸h1)
   have h2:=Y5 (hc.own j e' hm') (w':=wc') (fun b hb=>hg b (hlt b (A3.2 ⟨j,e',hm',hb⟩)) (a4o hc.nd hc.keys hm' hmem hne hb));cases e' with
   |row v n xs sz ty=>exact h2
   |mp b es ty=>exact h2
   |blk b cs ty=>obtain⟨ys,h3,h4⟩:=h2;exact⟨ys,b4a h3 hden,h4⟩
  ·rcases u9.1 hm with hm|hm
   ·cases hm;exact hown
   ·obtain⟨e',h1,rfl⟩:=a2K hm;have hm':(j,e')∈H1++(k,e0)::H2:=by simp[h1]
    have hne:j≠k:=by
     intro hjk;subst hjk;exact hkeys.2.1.1 (L6.2 ⟨_,h1,rfl⟩)
    have h2:=Y5 (hc.own j e' hm') (w':=wc') (fun b hb=>hg b (hlt b (A3.2 ⟨j,e',hm',hb⟩)) (a4o hc.nd hc.keys hm' hmem hne hb));cases e' with
    |row v n xs sz ty=>exact h2
    |mp b es ty=>exact h2
    |blk b cs ty=>obtain⟨ys,h3,h4⟩:=h2;exact⟨ys,b4a h3 hden,h4⟩
 ·simp only[a2P,bs,a6f,bsE,a6X];refine⟨hnd.1,⟨hownB,hnd.2.1.2.1,?_⟩,?_⟩
  ·intro b hbv b' hb' heq;subst heq;rcases hb b hbv with h|h
   ·exact hnd.2.1.2.2 b h b hb' rfl
   ·have:=hlt b (by simp[a2P,bs,hb']);omega
  ·intro b hb1 b' hb' heq;subst heq;rcases E3.1 hb' with hbv|hb2
   ·rcases hb b hbv with h|h
    ·exact hnd.2.2 b hb1 b (by simp[h]) rfl
    ·have:=hlt b (by simp[a2P,hb1]);omega
   ·exact hnd.2.2 b hb1 b (by simp[hb2]) rfl
 ·intro b hb1;simp only[a2P,bs,a6f,bsE,E3]at hb1;rcases hb1 with h|h|h
  ·exact hc.lb b (by simp[a2P,h])
  ·rcases hb b h with h|h
   ·exact hbor b h
   ·exact .inr (z6 hc.fx0.size h)
  ·exact hc.lb b (by simp[a2P,bs,h])
 ·simpa[c6d]using hc.keys
 ·intro j e hm;rcases E3.1 hm with hm|hm
  ·obtain⟨e',h1,rfl⟩:=a2K hm;exact hc.lt j e' (by simp[h1])
  ·rcases u9.1 hm with hm|hm
   ·cases hm;exact hc.lt _ _ hmem
   ·obtain⟨e',h1,rfl⟩:=a2K hm;exact hc.lt j e' (by simp[h1])
end
theorem Rel.consG{Xx:Cx}{st:St}{a:Act}{w:World}(hr:Rel Xx st a w){e:Ent}(hT:w8 st.nk st.T=true)(hfr:A7 st.nk st.H=true)
 (he:a5V 0 ((st.nk,e)::st.H) w e) (heb:∀b,b∈bsE e→Xx.w0.heap.size≤b∧b∉bs st.H) (hen:(bsE e).Nodup):Rel Xx ⟨st.T,(st.nk,e)::st.H,st.nk+1,st.w,st.lo,st.iv⟩ a w:=by
 have hc:=hr.cls;have hk:∀k e,(k,e)∈st.H→k≠st.nk:=fun k e h=>by have:=hc.lt k e h;omega
 refine⟨hr.size,fun d s h=>?_,hr.dfs,⟨⟨hc.fx.os,hc.fx.tape,hc.fx.output,hc.fx.size,fun i hi hn=>hc.fx.block i hi fun b hb=>hn b (by simp[bs,hb])⟩,hc.fx0,?_,?_,?_,?_,?_⟩,hr.lo,hr.iv⟩
 ·rcases hr.T d s h with h1|h1
  ·exact .inl h1
  ·right;rw[h1,b2m (b3Y hT h)]
 ·intro k e' hm;rcases u9.1 hm with h|h
  ·cases h;exact he
  ·have h1:=hc.own k e' h;cases e' with
   |row v n xs sz ty=>exact h1
   |mp b es ty=>exact h1
   |blk b cs ty=>
    obtain⟨xs,h2,h3⟩:=h1;exact⟨xs,a2T h2 fun s hs _=>b2m (b2B (b0R hfr h) hs),h3⟩
 ·simp only[bs,a6X];exact⟨hen,hc.nd,fun b hb b' hb' heq=>(heb b hb).2 (heq▸hb')⟩
 ·intro b hb;simp only[bs,E3]at hb;rcases hb with hb|hb
  ·exact .inr (heb b hb).1
  ·exact hc.lb b hb
 ·simp only[H7,a4i];refine⟨fun hm=>?_,hc.keys⟩;obtain⟨⟨k,e'⟩,h1,h2⟩:=L6.1 hm;exact hk k e' h1 h2
 ·intro k e' hm;rcases u9.1 hm with h|h
  ·cases h;exact D6 _
  ·exact Nat.lt_succ_of_lt (hc.lt k e' h)
section
variable {X : Cx}{st : St}{a : Act}{w : World}{K : St → Prop}{o : Oper}{Q : Exit → Act → World → Prop}
theorem c3c{v:Value}{b:Nat}(h:b∈r6 v):v.ownBlock=some b:=by
 cases v<;>simp[r6]at h;rename_i x _ _;cases x<;>simp at h;subst h;rfl
theorem d0w{esz m:Nat}{x:SV}{news:List Value}(hn:a5v X st esz x m news){wc:World}(hc:Cls X st.H st.nk st.w wc):
 news.length=m*esz∧(∀u,u∈news→u.oneCell'=true)∧
 ((∃ad c,den st.H x=.slice (some ad) m c∧∀j u,news[j]?=some u→wc.cell? (ad.add j)=some u)∨(den st.H x=.slice none 0 0∧m=0∧news=[])):=by
 have hrow:=a5e hc;unfold a5v at hn;split at hn
 ·rename_i k off n c;obtain⟨rfl,hn⟩:=hn;split at hn
  ·rename_i b cs ty hf;obtain⟨l,hl,hone,rfl⟩:=hn;obtain⟨xs,hx,hh⟩:=hc.blk hf;obtain⟨h1,h2,h3⟩:=b2o hx hl;refine⟨by rw[u6,h2],c2m hrow hone,.inl ⟨⟨b,off,none⟩,c,by simp[den,a7y hf,o5,hf,b2e,undef],fun j u hj=>?_⟩⟩;have hlt:j<m*esz:=by have:=(P3.1 hj).1;rw[u6,h2]at this;exact this
   rw[O8,a5g hh];simp only[List.getElem?_toArray];rw[a9u h1 hlt];exact hj
  ·rename_i v N xs sz ty hf;obtain⟨rfl,hb,rfl,hone⟩:=hn;have hown:=hc.row hf;have hxl:=hown.1;refine⟨?_,fun u hu=>by rw[←a9M];exact hone u (a7n (a4M hu)),.inl ⟨⟨bOf st.H k,off,none⟩,_,rfl,fun j u hj=>?_⟩⟩
   ·rcases hb with rfl|hb
    ·simp
    ·simp only[Z5,a7V];omega
   ·have hlt:j<m*esz:=by have:=(P3.1 hj).1;simp only[Z5]at this;omega
    rw[a5q,k9 hlt,b0r]at hj;rcases hown.2 with⟨rfl,rfl⟩|⟨g,cap,cur,rfl,hg0,hg,r⟩
    ·have:xs=[]:=a5Q (by simpa using hxl)
     subst this;simp at hj
    ·have hbo:bOf st.H k=g:=by simp[bOf,hf,b0s]
     rw[O8,hbo];have:=hown.cells (g:=g) rfl (off+j) u hj;simpa[O8]using this
  ·exact hn.elim
 ·rename_i k;split at hn
  ·rename_i v n xs sz ty hf;obtain⟨rfl,rfl,rfl,hone⟩:=hn;have hown:=hc.row hf;refine⟨hown.1,fun u hu=>by rw[←a9M];exact hone u hu,?_⟩;rcases hown.2 with⟨rfl,rfl⟩|⟨g,cap,cur,rfl,hb,hg,r⟩
   ·right;exact⟨by simp[den,o5,hf],rfl,a5Q (by simpa using hown.1)⟩
   ·left;exact⟨⟨g,0,none⟩,cap,by simp[den,o5,hf],hown.cells (g:=g) rfl⟩
  ·exact hn.elim
 ·obtain⟨rfl,rfl⟩:=hn;exact⟨by simp,by simp,.inr ⟨rfl,rfl,rfl⟩⟩
 ·rename_i b off sp n c;rcases hn with⟨rfl,rfl,rfl⟩|⟨rfl,rfl,hone,hr⟩
  ·exact⟨by simp,by simp,.inl ⟨⟨b,off,sp⟩,c,rfl,fun j u hj=>by simp at hj⟩⟩
  obtain⟨h1,h2⟩:=hr.cells hc;refine⟨h1,fun u hu=>by rw[←a9M];exact hone u hu,.inl ⟨⟨b,off,none⟩,c,rfl,fun j u hj=>?_⟩⟩;have hlt:j<m*esz:=by have:=(P3.1 hj).1;rw[h1]at this;exact this
  rw[O8,h2 j hlt];exact hj
 ·exact hn.elim
theorem b9n{P:Program}{t ty e esz bytes:Nat}{i:TI}(hi:P6 P t i)(hd:i.d=.slice e esz bytes){ie:TI}(hie:P6 P e ie)(hiz:ie.n=esz)(h1:1≤esz)
 {B:Nat}{v:Value}{n:Nat}{xs:List Value}{wc:World} (hown:wc.ownsRow B e esz v n xs) (hB:B≤wc.heap.size) {m:Nat}{news:List Value} (hl:news.length=m*esz) (hone:∀u,u∈news→u.oneCell'=true)
 {y:Value} (hy:(∃ad c,y=.slice (some ad) m c∧∀j u,news[j]?=some u→wc.cell? (ad.add j)=some u)∨(y=.slice none 0 0∧m=0∧news=[]))
 (hb:(n+m)*bytes≤140737488355328) (hm:n+m≤maxLen):
 ∃v' w1,(Builtin.append_ #[t,t] ty #[v,y]).run P wc=.ok v' w1∧w1.ownsRow B e esz v' (n+m) (xs++news)∧wc.grownBy w1 v.ownBlock∧(v'=.slice none 0 0↔v=.slice none 0 0∧m=0)∧
  ∀b,b∈r6 v'→b∈r6 v∨wc.heap.size≤b:=by
 obtain⟨hu,inf,hinf,hsz,hby⟩:=hi.slice hd;obtain⟨inf',z,hinf',hsz',hz,hzc⟩:=hie.info;obtain rfl:inf=inf':=by rw[hinf]at hinf';exact E0 hinf'
 have hzs:z.cells.size=esz:=by rw[←a7s,hzc,hie.zn,hiz]
 rcases hy with⟨ad,c,rfl,hcells⟩|⟨rfl,rfl,rfl⟩
 ·obtain⟨v',w1,hr,ho,hg,hnil⟩:=run_append_own (P:=P) wc B t ty e inf z esz bytes hu hinf hz hsz hby hzs h1 v n xs hown ad m c news hl hcells hone hm hb hB;refine⟨v',w1,hr,ho,hg,hnil,fun b hbv=>?_⟩;subst hsz;subst hby;have hm':n+m≤9223372036854775807:=by simpa[maxLen]using hm
  rcases hown.2 with⟨rfl,rfl⟩|⟨g,cap,cur,rfl,hbg,hgg,hnc,hcm,hcs,htake⟩
  ·by_cases hm0:m=0
   ·have:=hnil.2 ⟨rfl,hm0⟩;subst this;simp[r6]at hbv
   ·have hr2:=run_append_nil (P:=P) wc t ty e inf z hu hinf hz ad m c news hl hcells (by omega) (by omega) (by simp only[a0k]at hb;omega);rw[hr]at hr2;cases hr2;simp[r6]at hbv;right;omega
  ·by_cases hroom:n+m≤cap
   ·have hfit:n*inf.size+news.length≤cur.size:=by rw[hl,hcs,←R7];exact a1d _ hroom
    have hr2:=run_append_room (P:=P) wc t ty e inf hu hinf g n cap cur hgg ad m c news hl hcells hone hroom hfit;rw[hr]at hr2;cases hr2;simp[r6]at hbv⊢;left;exact hbv
   ·have hr2:=run_append_grow (P:=P) wc t ty e inf z hu hinf hz ⟨g,0,none⟩ n cap xs hown.1 (hown.cells (g:=g) rfl) ad m c news hl hcells (by omega) (by omega) (growslice_fits (by omega) hb);rw[hr]at hr2;cases hr2;simp[r6]at hbv;right;omega
 ·refine⟨v,wc,?_,by simpa using hown,⟨rfl,rfl,rfl,y6 _,fun _ _ _=>rfl⟩,by simp,fun b hb=>.inl hb⟩
  rcases hown.2 with⟨rfl,rfl⟩|⟨g,cap,cur,rfl,hbg,hgg,hnc,_⟩
  ·simp[Builtin.append_,a9t hu,sizeOf,typeInfo,hinf,Builtin.lenOf,Builtin.firstCells]
  ·simp[Builtin.append_,a9t hu,sizeOf,typeInfo,hinf,Builtin.lenOf,Builtin.firstCells,hnc,storeCells]
theorem a1o{H1 H2:Hp}{k:Nat}{e:Ent}(h:∀e',(k,e')∉H1):l4 (H1++(k,e)::H2) k=some e:=by
 rw[a1x (e0:=e) h];simp
theorem a2J{v:Value}{w':World}{next:Act→World→Prop}(h:(execOp a.eval o).run X.P w=.ok (.value v) w')(hn:next (a.put o.dst v) w'):o.wp X.P a w next Q:=by
 unfold Oper.wp;rw[h];exact hn
theorem b5z{w':World}{next:Act→World→Prop}(h:(execOp a.eval o).run X.P w=.ok .skip w')(hn:next (a.put o.dst undef) w'):o.wp X.P a w next Q:=by
 unfold Oper.wp;rw[h];exact hn
theorem a1p{P:Program}{f:FuncId}{args:Array Value}{w:World}{R:Ending→World→Prop}(h:Calls P f args w R)(hR:∀e w',R e w'→∃v,e=.returned v):
 ∃fn c,P.funcs[f]?=some fn∧fn.body=some c:=by
 obtain⟨e,w',fr,hr,hcomes,_,hleave⟩:=h [];obtain⟨v,rfl⟩:=hR e w' hr;have hmode:fr.mode=.returning:=hleave.1;obtain⟨n,hn⟩:=hcomes
 have hno:∀why,(∀fn,P.funcs[f]?=some fn→fn.body=none)→Frame.enter P f args .normal= { fn:=f,tmps:=(Frame.enter P f args .normal).tmps,todo:=[.code (.refuse why)],defers:=[],mode:=.run,kind:=.normal}→False:=by
  intro why _ heq;cases n with
  |zero=>
   simp only[runN]at hn
   have:(Frame.enter P f args .normal)=fr:=by
    have:=Y7 (fun(s:Stepped)=>match s with|.next m=>(m.gs[0]?).map Goroutine.frame|_=>none) hn
    simpa[lone]using this
   rw[←this,heq]at hmode;cases hmode
  |succ n=>
   simp only[runN]at hn;rw[heq]at hn
   have hs:step P (lone { fn:=f,tmps:=(Frame.enter P f args .normal).tmps,todo:=[.code (.refuse why)],defers:=[],mode:=.run,kind:=.normal} [] w)=.ended _ _:=
    step_lone_ended (by simp[stepG,stepG.exec];exact⟨rfl,rfl⟩)
   rw[hs]at hn;cases hn
 cases hf:P.funcs[f]? with
 |none=>
  exfalso;exact hno _ (fun fn h=>by rw[hf]at h;cases h) (by simp[Frame.enter,hf];rfl)
 |some fn=>
  cases hb:fn.body with
  |none=>exact(hno _ (fun fn' h=>by rw[hf]at h;cases h;exact hb) (by simp[Frame.enter,hf,hb];rfl)).elim
  |some c=>exact⟨fn,c,rfl,hb⟩
theorem KB.swap{H1 H2:Hp}{k:Nat}{e e0:Ent}{w:World}(h:bsE e=bsE e0):KB (H1++(k,e0)::H2) w (H1++(k,e)::H2):=by
 intro j e' hm b hb;rcases b5M (e0:=e0) hm with⟨rfl,rfl⟩|⟨hm,_⟩
 ·exact .inr ⟨e0,by simp,h▸hb⟩
 ·exact .inr ⟨e',hm,hb⟩
theorem a1v{ch:List Nat}{w w':World}{own:Option Nat}(hg:w.grownBy w' own)(ho:∀b,own=some b→b∈ch):Fx ch w w':=
 ⟨hg.os,hg.tape,hg.output,hg.size,fun i hi hn=>hg.block i hi fun e=>by
  cases own with
  |none=>cases e
  |some b=>cases e;exact hn i (ho i rfl) rfl⟩
theorem c7D(hT:a3N X.P X.tt){seq:Bool}{out:Out}(hK:fin X seq st o.dst K out)(hout:a2A X st a o out)(hr:Rel X st a w):o.wp X.P a w (Leaves X st.H (chB st.H out) w K) Q:=by
 cases out with
 |val s=>
  obtain⟨R,_,hrun⟩:=hout.2 w hr.cls;exact a2J (hrun w fun _ _=>rfl) (Leaves.put hr hK (.inr rfl) (Fx.refl _ _) (KB.refl _ _))
 |new cs ty sl=>
  obtain⟨T,H,nk,ws,lo,iv⟩:=st;simp only[fin]at hK;split at hK
  ·rename_i h1 h2 h3
   have hrel:Rel X ⟨T,(nk,.blk w.heap.size cs ty)::H,nk+1,ws,lo,iv⟩ a (w.alloc (.cells (o6 H cs).toArray ty)):=by
    refine hr.cons h1 h2 (by simp) (fun i hi=>heap_alloc_old w _ hi) rfl rfl rfl ⟨o6 H cs,?_,heap_alloc_new w _⟩ (by simp[bsE]) (by simp[bsE]);have:=a7N (H:=(nk,.blk w.heap.size cs ty)::H) cs;rwa [c1q h3]at this
   have hfxn:Fx [] w (w.alloc (.cells (o6 H cs).toArray ty)):=⟨rfl,rfl,rfl,by simp,fun i hi _=>heap_alloc_old w _ hi⟩;rcases hK with hK|⟨n,sz,⟨rfl,hcl,hnm,hone⟩,hK⟩
   ·have hput:=hK w.heap.size hr.lo (b9L hr.iv (y6 _));refine a2J (hout w hr.cls) (Leaves.put hrel hput ?_ hfxn ?_)
    ·right;cases sl<;>simp[den,bOf,o5,l4,b2e,undef]
    ·intro k e hm b hb;rcases u9.1 hm with h|h
     ·cases h;simp only[bsE,a1V]at hb;exact .inl (Nat.le_of_eq hb.symm)
     ·exact .inr ⟨e,h,hb⟩
   ·have hput:=hK w.heap.size hr.lo (b9L hr.iv (y6 _));have hB:0≤w.heap.size:=L0 _
    have hown:(w.alloc (.cells (o6 H cs).toArray ty)).ownsRow 0 ty sz (.slice (some ⟨w.heap.size,0,none⟩) n n) n (o6 H cs):=by
     refine⟨by rw[u6,hcl],.inr ⟨w.heap.size,n,_,rfl,hB,heap_alloc_new w _,y6 _,hnm,by simp[u6,hcl],?_⟩⟩;show List.take (n*sz) (o6 H cs)=o6 H cs;rw[←hcl,←u6 H cs,a8u]
    have hrel2:Rel X ⟨T,(nk,.row (.slice (some ⟨w.heap.size,0,none⟩) n n) n (o6 H cs) sz ty)::H,nk+1,ws,lo,iv⟩ a (w.alloc (.cells (o6 H cs).toArray ty)):=
     hr.cons h1 h2 (by simp) (fun i hi=>heap_alloc_old w _ hi) rfl rfl rfl hown (by simp[bsE,r6]) (by simp[bsE,r6])
    refine a2J (hout w hr.cls) (Leaves.put hrel2 hput ?_ hfxn ?_)
    ·right;simp[den,o5,l4]
    ·intro k e hm b hb;rcases u9.1 hm with h|h
     ·cases h;simp only[bsE,r6,a1V]at hb;exact .inl (Nat.le_of_eq hb.symm)
     ·exact .inr ⟨e,h,hb⟩
  ·exact hK.elim
 |call f args=>
  simp only[fin]at hK;obtain⟨ι,r,φ,hc,hk⟩:=hK.ex;have hcall:=hc w hr.cls;have hbody:=a1p hcall fun e w' ⟨i,he,_⟩=>⟨_,he⟩
  unfold Oper.wp;rw[hout w hbody];simp only[Oper.upon];refine hcall.mono fun e w' ⟨i,he,hb,hp⟩=>?_
  subst he;simp only;have hlt:c9f st.H w.heap.size:=fun b hb=>hr.cls.lt_size hb
  have hK2:=hk i w.heap.size w' hr.cls.fx.size hb.size hlt (hr.cls.fx.of_below hb) hp;have hown:∀b,b∈bs st.H→w'.heap[b]?=w.heap[b]?:=fun b hbm=>hb.block b (hr.cls.lt_size hbm)
  have hcls:Cls X st.H st.nk w' w':=⟨Fx.refl _ _,hr.cls.fx0.of_below hb,fun k e he=>Y5 (hr.cls.own k e he) fun b hbe=>hown b (A3.2 ⟨k,e,he,hbe⟩),hr.cls.nd,hr.cls.lb,hr.cls.keys,hr.cls.lt⟩;obtain⟨T,H,nk,ws,lo,iv⟩:=st;cases seq with
  |true=>
   have hrel:Rel X ⟨T,H,nk,w',w'.heap.size,[]⟩ a w':=⟨hr.size,hr.T,hr.dfs,hcls,y6 _,by simp⟩;exact Leaves.put hrel hK2 (.inr rfl) ((Fx.refl _ _).of_below hb) (KB.refl _ _)
  |false=>
   have hrel:Rel X ⟨T,H,nk,w',lo,(w.heap.size,w'.heap.size)::iv⟩ a w':=⟨hr.size,hr.T,hr.dfs,hcls,z6 hr.lo hb.size,fun p hp=>by
    rcases u9.1 hp with rfl|hp
    ·exact⟨hb.size,y6 _⟩
    ·exact⟨(hr.iv p hp).1,z6 (hr.iv p hp).2 hb.size⟩⟩
   exact Leaves.put hrel hK2 (.inr rfl) ((Fx.refl _ _).of_below hb) (KB.refl _ _)
 |upd k cs'=>
  obtain⟨b,cs,ty,hf,hall⟩:=hout;obtain⟨T,H,nk,ws,lo,iv⟩:=st;simp only[fin,hf]at hK;obtain⟨H1,e0,H2,rfl,hk1,hput⟩:=b9I hK
  have he0:e0=.blk b cs ty:=by
   have:=a1o (H2:=H2) (e:=e0) hk1;simp only at hf;rw[hf]at this;exact(E0 this).symm
  subst he0;obtain⟨xs,hx,hh⟩:=hr.cls.blk hf;obtain⟨xs',hx',hrun⟩:=hall w hr.cls xs hx hh
  have hd:∀j,bOf (H1++(k,.blk b cs' ty)::H2) j=bOf (H1++(k,.blk b cs ty)::H2) j∧o5 (H1++(k,.blk b cs' ty)::H2) j=o5 (H1++(k,.blk b cs ty)::H2) j:=by
   intro j;simp only[bOf,o5,a1x (e:=.blk b cs' ty) (e0:=.blk b cs ty) hk1];by_cases hj:j=k
   ·subst hj;simp[a1o hk1]
   ·simp[hj]
  have hrel:Rel X ⟨T,H1++(k,.blk b cs' ty)::H2,nk,ws,lo,iv⟩ a (w.setRow b xs'.toArray):=by
   refine hr.swap rfl hd (by simp) (fun i hi=>a5O _ _ _ _ (by simpa[bsE]using hi)) rfl rfl rfl ⟨xs',a2T hx' fun s _ _=>a9i hd s,setRow_heap _ _ _ _ _ _ hh⟩
  refine b5z hrun (Leaves.put hrel hput (.inr rfl) ⟨rfl,rfl,rfl,by simp,fun i _ hn=>a5O _ _ _ _ fun e=>hn b (by simp only at hf;simp[chB,a8q,hf,bsE]) e.symm⟩ (KB.swap rfl))
 |updR k xs'=>
  obtain⟨v,n,xs,sz,ty,hf,hall⟩:=hout;obtain⟨T,H,nk,ws,lo,iv⟩:=st;simp only[fin,hf]at hK;obtain⟨H1,e0,H2,rfl,hk1,hput⟩:=b9I hK
  have he0:e0=.row v n xs sz ty:=by
   have:=a1o (H2:=H2) (e:=e0) hk1;simp only at hf;rw[hf]at this;exact(E0 this).symm
  subst he0;obtain⟨w1,hrun,hown,hg,hsz⟩:=hall w hr.cls
  have hd:∀j,bOf (H1++(k,.row v n xs' sz ty)::H2) j=bOf (H1++(k,.row v n xs sz ty)::H2) j∧o5 (H1++(k,.row v n xs' sz ty)::H2) j=o5 (H1++(k,.row v n xs sz ty)::H2) j:=by
   intro j;simp only[bOf,o5,a1x (e:=.row v n xs' sz ty) (e0:=.row v n xs sz ty) hk1];by_cases hj:j=k
   ·subst hj;simp[a1o hk1]
   ·simp[hj]
  have hnb:∀i,i∉r6 v→some i≠v.ownBlock:=by
   intro i hi e;apply hi;cases v<;>simp[Value.ownBlock]at e;rename_i x _ _;cases x<;>simp at e;subst e;simp[r6]
  have hrel:Rel X ⟨T,H1++(k,.row v n xs' sz ty)::H2,nk,ws,lo,iv⟩ a w1:=by
   refine hr.swap rfl hd hsz (fun i hi=>?_) hg.os hg.tape hg.output hown;by_cases hlt:i<w.heap.size
   ·exact hg.block i hlt (hnb i hi)
   ·rw[b3T (by omega),b3T (by omega)]
  refine b5z hrun (Leaves.put hrel hput (.inr rfl) (a1v hg fun b hb=>?_) ?_)
  ·simp only at hf;simp only[chB,a8q,hf,bsE];cases v<;>simp[Value.ownBlock]at hb;rename_i x _ _;cases x<;>simp at hb;subst hb;simp[r6]
  ·exact KB.swap rfl
 |app e esz bytes s x=>
  obtain⟨hsb,hxb,t,i,hi,hd,⟨ie,hie,hiz⟩,hrun⟩:=hout;simp only[fin]at hK;obtain⟨k,n,m,v,xs,news,⟨h1,hn,hby,hml⟩,hcase⟩:=hK.ex;obtain⟨hl,hone,hy⟩:=d0w hn hr.cls;have hB:0≤w.heap.size:=L0 _;have hti:=hT t i hi;have htie:=hT e ie hie;have goOn:∀(v':Value) (w1:World) (ch:List Nat),chB st.H (.app e esz bytes s x)=ch→(execOp a.eval o).run X.P w=.ok (.value v') w1→Leaves X st.H ch w K (a.put o.dst v') w1→o.wp X.P a w (Leaves X st.H (chB st.H (.app e esz bytes s x)) w K) Q:=fun v' w1 ch hch h1 h2=>by rw[hch];exact a2J h1 h2
  have fxOf:∀(w1:World) (own:Option Nat),w.grownBy w1 own→(∀b,own=some b→b∈bs st.H)→Fx (bs st.H) st.w w1:=by
   intro w1 own hg ho;have h2:=a1v hg ho;exact Fx.trans hr.cls.fx h2 (fun i hi=>hi) fun i hi=>.inl hi
  --a new row
  have newRow:∀(v0 v':Value) (w1:World),r6 v0=[]→w.grownBy w1 none→w1.ownsRow 0 e esz v' m news→(∀b,b∈r6 v'→w.heap.size≤b)→
   reW seq st w1 (fun T H nk w lo iv=>w8 nk T=true∧A7 nk H=true∧put X ⟨T,(nk,.row v' m news esz e)::H,nk+1,w,lo,iv⟩ o.dst (.row nk) K)→Leaves X st.H [] w K (a.put o.dst v') w1:=by
   intro _ v' w1 _ hg ho hnew hre;have hownB:(r6 v').Nodup:=by cases v'<;>simp[r6]<;>(rename_i a _ _;cases a<;>simp)
   obtain⟨T,H,nk,ws,lo,iv⟩:=st
   have hkey:∀lo' iv',lo'≤w.heap.size∨lo'=w1.heap.size→(∀p,p∈iv'→p.1≤p.2∧p.2≤w.heap.size)→w8 nk T=true→A7 nk H=true→
    Rel X ⟨T,(nk,.row v' m news esz e)::H,nk+1,w1,lo',iv'⟩ a w1:=by
    intro lo' iv' hlo hiv f1 f2;have hrel0:Rel X ⟨T,H,nk,ws,w.heap.size,iv'⟩ a w:=⟨hr.size,hr.T,hr.dfs,hr.cls,y6 _,hiv⟩;have hrel:=hrel0.cons (w':=w1) (e:=.row v' m news esz e) f1 f2 hg.size (fun i hi=>hg.block i hi (by simp)) hg.os hg.tape hg.output ho hnew hownB;exact⟨hrel.size,hrel.T,hrel.dfs,⟨Fx.refl _ _,hrel.cls.fx0,hrel.cls.own,hrel.cls.nd,hrel.cls.lb,hrel.cls.keys,hrel.cls.lt⟩,by rcases hlo with h|h;exact z6 h hg.size;exact Nat.le_of_eq h,fun p hp=>hrel.iv p hp⟩
   have hbs:KB H w ((nk,Ent.row v' m news esz e)::H):=by
    intro k e' hm b hb;rcases u9.1 hm with h|h
    ·cases h;exact .inl (hnew b hb)
    ·exact .inr ⟨e',h,hb⟩
   have hden:v'=den ((nk,Ent.row v' m news esz e)::H) (.row nk):=by simp[den,o5,l4]
   have hfx:Fx [] w w1:=a1v hg (by simp);cases seq with
   |true=>
    obtain⟨f1,f2,hput⟩:=hre;exact Leaves.put (hkey _ _ (.inr rfl) (by simp) f1 f2) hput (.inr hden) hfx hbs
   |false=>
    obtain⟨f1,f2,hput⟩:=hre;exact Leaves.put (hkey _ _ (.inl hr.lo) hr.iv f1 f2) hput (.inr hden) hfx hbs
  --an entry grown
  have grow:∀(e0:Ent) (v':Value) (w1:World) (own:Option Nat),l4 st.H k=some e0→w.grownBy w1 own→(∀b,own=some b↔b∈bsE e0)→w1.ownsRow 0 e esz v' (n+m) (xs++news)→
   (∀b,b∈r6 v'→b∈bsE e0∨w.heap.size≤b)→(∀b,b∈bsE e0→b∈X.bor∨X.w0.heap.size≤b)→
   reW seq st w1 (fun T H nk w lo iv=>b1o (C4 k H) k (.row v' (n+m) (xs++news) esz e) fun H'=>b3I k T fun T'=>put X ⟨T',H',nk,w,lo,iv⟩ o.dst (.row k) K)→Leaves X st.H (bsE e0) w K (a.put o.dst v') w1:=by
   intro e0 v' w1 own hf hg ho hrow hb hbor hre;obtain⟨T,H,nk,ws,lo,iv⟩:=st
   have hkey:∀lo' iv',lo'≤w.heap.size∨lo'=w1.heap.size→(∀p,p∈iv'→p.1≤p.2∧p.2≤w.heap.size)→
    b1o (C4 k H) k (.row v' (n+m) (xs++news) esz e) (fun H'=>b3I k T fun T'=>put X ⟨T',H',nk,w1,lo',iv'⟩ o.dst (.row k) K)→Leaves X H (bsE e0) w K (a.put o.dst v') w1:=by
    intro lo' iv' hlo hiv hset;obtain⟨G1,g0,G2,hG,hG1,hput⟩:=b9I hset;rw[a5A]at hput
    --the entry stands in H at the same place
    have:∃H1 H2,H=H1++(k,e0)::H2∧(∀e',(k,e')∉H1)∧C4 k H1=G1∧C4 k H2=G2:=by
     clear hput hset hre hrow hr hrun hcase hn hK goOn newRow fxOf hy;simp only at hf
     induction H generalizing G1 with
     |nil=>simp[l4]at hf
     |cons q H ih=>
      obtain⟨j,ej⟩:=q;simp only[C4]at hG;simp only[l4]at hf;cases G1 with
      |nil=>
       simp only[a2B,a8w,a5l]at hG;obtain⟨⟨rfl,_⟩,hG2⟩:=hG;simp at hf;subst hf;exact⟨[],H,rfl,by simp,rfl,hG2⟩
      |cons g G1=>
       simp only[a1l,a8w]at hG;obtain⟨hg1,hG⟩:=hG;subst hg1;have hjk:j≠k:=fun e=>hG1 _ (by rw[e];exact C7)
       rw[S9 hjk]at hf;obtain⟨H1,H2,rfl,h1,h2,h3⟩:=ih hf G1 hG (fun e' hm=>hG1 e' (F6 _ hm));refine⟨(j,ej)::H1,H2,rfl,fun e' hm=>?_,by simp[C4,h2],h3⟩;rcases u9.1 hm with hm|hm
       ·cases hm;exact hjk rfl
       ·exact h1 e' hm
    obtain⟨H1,H2,rfl,hk1,rfl,rfl⟩:=this;have hgb:∀i,i<w.heap.size→i∉bsE e0→w1.heap[i]?=w.heap[i]?:=fun i hi hne=>hg.block i hi fun e=>hne ((ho i).1 e.symm)
    obtain⟨hcls,hden⟩:=hr.cls.grow (v':=v') (n:=n+m) (sz:=esz) (ty:=e) (xs:=xs++news) rfl hk1 hrow hgb hg.size hg.os hg.tape hg.output hb hbor
    have hrel:Rel X ⟨a1T k T,C4 k H1++(k,.row v' (n+m) (xs++news) esz e)::C4 k H2,nk,w1,lo',iv'⟩ a w1:=by
     refine⟨hr.size,fun d s hlk=>?_,hr.dfs,hcls,by rcases hlo with h|h;exact z6 h hg.size;exact Nat.le_of_eq h,fun p hp=>⟨(hiv p hp).1,z6 (hiv p hp).2 hg.size⟩⟩
     rcases b2x hlk with h|⟨h,hm⟩
     ·exact .inl h
     ·rcases hr.T d s h with h|h
      ·exact .inl h
      ·right;rw[h];simp only;rw[hden s hm]
    refine Leaves.put hrel hput (.inr ?_) (a1v hg fun b hb=>(ho b).1 hb) ?_
    ·have:l4 (C4 k H1++(k,.row v' (n+m) (xs++news) esz e)::C4 k H2) k=some (.row v' (n+m) (xs++news) esz e):=
      a1o fun e' hm=>by obtain⟨e1,h1,_⟩:=a2K hm;exact hk1 e1 h1
     simp[den,o5,this]
    ·intro j e' hm c hc;rcases E3.1 hm with hm|hm
     ·obtain⟨e1,h1,rfl⟩:=a2K hm;rw[b1A]at hc;exact .inr ⟨e1,by simp[h1],hc⟩
     ·rcases u9.1 hm with hm|hm
      ·cases hm;rcases hb c hc with h|h
       ·exact .inr ⟨e0,by simp,h⟩
       ·exact .inl h
      ·obtain⟨e1,h1,rfl⟩:=a2K hm;rw[b1A]at hc;exact .inr ⟨e1,by simp[h1],hc⟩
   cases seq with
   |true=>exact hkey _ _ (.inr rfl) (by simp) hre
   |false=>exact hkey _ _ (.inl hr.lo) hr.iv hre
  rcases hcase with⟨rfl,rfl,hk⟩|⟨rfl,hf,hk⟩|⟨rfl,⟨u,N,ys,hf,hN0,hnN,rfl⟩,hk⟩|⟨⟨ad,rfl⟩,rfl,hk0,hk1⟩
  ·obtain⟨v',w1,hr1,ho,hg,hnil,hob⟩:=b9n (ty:=o.type) hti hd htie hiz h1 (World.ownsRow_nil w 0 e esz) hB hl hone hy hby hml;simp only[a0k,a2B]at ho;refine goOn v' w1 [] rfl (by rw[hrun w];simp only[den];rw[hr1];rfl) (newRow (.slice none 0 0) v' w1 rfl hg ho (fun b hb=>by rcases hob b hb with h|h;simp[r6]at h;exact h) (hk v' w1 (by simpa using hnil) (fun b hb=>.inr (by rcases hob b hb with h|h;simp[r6]at h;exact z6 hr.cls.fx.size h)) (fxOf w1 none hg (by simp))))
  ·have hown:=hr.cls.row hf;obtain⟨v',w1,hr1,ho,hg,hnil,hob⟩:=b9n (ty:=o.type) hti hd htie hiz h1 hown hB hl hone hy hby hml;have hdv:den st.H (.row k)=v:=by simp[den,o5,hf]
   have hobk:∀b,v.ownBlock=some b↔b∈bsE (.row v n xs esz e):=by
    intro b;constructor
    ·intro h;cases v<;>simp[Value.ownBlock]at h;rename_i x _ _;cases x<;>simp at h;subst h;simp[bsE,r6]
    ·intro h;exact c3c h
   refine goOn v' w1 _ (by simp only[chB,a8q,hf]) (by rw[hrun w,hdv,hr1];rfl) (grow _ v' w1 _ hf hg hobk ho hob (fun b hb=>?_) (hk v' w1 hnil (fun b hb=>by rcases hob b hb with h|h;exact .inl (A3.2 ⟨k,_,o7 hf,by simpa[bsE]using h⟩);exact .inr (z6 hr.cls.fx.size h)) (fxOf w1 _ hg fun b hb=>A3.2 ⟨k,_,o7 hf,(hobk b).1 hb⟩)))
   exact hr.cls.lb b (A3.2 ⟨k,_,o7 hf,hb⟩)
  ·have hown0:=hr.cls.row hf;have hbk0:=fun c hc=>hr.cls.lb c (A3.2 ⟨k,_,o7 hf,hc⟩)
   rcases hown0.2 with⟨_,h0⟩|⟨g,c,cur,rfl,hg0,hgg,hnc,hcm,hcs,htake⟩
   ·omega
   have hxl:=hown0.1;have hle:n*esz≤N*esz:=a1d _ hnN
   have hown:w.ownsRow 0 e esz (.slice (some ⟨g,0,none⟩) n c) n (ys.take (n*esz)):=by
    refine⟨by rw[Z5,hxl,a1Q hle],.inr ⟨g,c,cur,rfl,hg0,hgg,by omega,hcm,hcs,?_⟩⟩;rw[←htake,a9w,a1Q hle]
   obtain⟨v',w1,hr1,ho,hg,hnil,hob⟩:=b9n (ty:=o.type) hti hd htie hiz h1 hown hB hl hone hy hby hml;have hdv:den st.H (.osl k 0 n 0)=.slice (some ⟨g,0,none⟩) n c:=by simp[den,bOf,o5,hf,b0s,b2e]
   refine goOn v' w1 _ (by simp only[chB,a8q,hf]) (by rw[hrun w,hdv,hr1];rfl) (grow _ v' w1 _ hf hg (by simp[Value.ownBlock,bsE,r6,eq_comm]) ho (by simpa[r6,bsE]using hob) hbk0 (hk v' w1 (fun e=>by have:=hnil.1 e;simp at this) (fun c hc=>by rcases hob c hc with h|h;exact .inl (A3.2 ⟨k,_,o7 hf,by simpa[r6,bsE]using h⟩);exact .inr (z6 hr.cls.fx.size h)) (fxOf w1 _ hg fun c hc=>A3.2 ⟨k,_,o7 hf,by simpa[Value.ownBlock,r6,bsE,eq_comm]using hc⟩)))
  ·by_cases hm0:m=0
   ·subst hm0;have hnews:news=[]:=a5Q (by simpa using hl)
    subst hnews
    have hrn:(Builtin.append_ #[t,t] o.type #[.slice (some ad) 0 0,den st.H x]).run X.P w=.ok (.slice (some ad) 0 0) w:=by
     obtain⟨hu,inf,hinf,hsz,hbt⟩:=hti.slice hd;rcases hy with⟨ad2,c,he,_⟩|⟨he,_,_⟩
     ·rw[he];simp[Builtin.append_,a9t hu,sizeOf,typeInfo,hinf,Builtin.lenOf,Builtin.firstCells,loadCells,loadCellsFrom,storeCells]
     ·rw[he];simp[Builtin.append_,a9t hu,sizeOf,typeInfo,hinf,Builtin.lenOf,Builtin.firstCells,storeCells]
    refine goOn _ w [] rfl (by rw[hrun w];simp only[den];rw[hrn];rfl) (Leaves.put hr (hk0 rfl) (.inr rfl) (Fx.refl _ _) (KB.refl _ _))
   ·obtain⟨hu,inf,hinf,hsz,hbt⟩:=hti.slice hd;obtain⟨inf',z,hinf',hsz',hz,hzc⟩:=htie.info;obtain rfl:inf=inf':=by rw[hinf]at hinf';exact E0 hinf'
    rcases hy with⟨ad2,c,he,hcells⟩|⟨_,h0,_⟩
    ·subst hsz;subst hbt;simp only[a0k]at hby hml;have hm':m≤9223372036854775807:=by simpa[maxLen]using hml
     have hzs:z.cells.size=inf.size:=by rw[←a7s,hzc,htie.zn,hiz]
     have hr1:=run_append_grow (P:=X.P) w t o.type e inf z hu hinf hz ad 0 0 [] (by simp) (by simp) ad2 m c news hl hcells (by omega) (by omega) (growslice_fits (by omega) (by simpa using hby))
     simp only[a0k]at hr1;generalize hcap:grownCap w m 0 e=cap at hr1;have hge:m≤cap:=by rw[←hcap];exact grownCap_ge w m 0 e
     have hcm:cap≤maxLen:=by rw[←hcap];exact grownCap_le_maxLen w m 0 e hml
     have hgrow:w.grownBy (w.drew.alloc (.cells (#[]++news.toArray++Builtin.zeroCells z.cells (cap-m)) e)) none:=⟨rfl,rfl,rfl,by simp,fun i hi _=>heap_alloc_old w.drew _ hi⟩
     refine goOn _ (w.drew.alloc (.cells (#[]++news.toArray++Builtin.zeroCells z.cells (cap-m)) e)) [] rfl (by rw[hrun w];simp only[den];rw[he,hr1];rfl) (newRow (.slice none 0 0) _ (w.drew.alloc (.cells (#[]++news.toArray++Builtin.zeroCells z.cells (cap-m)) e)) rfl hgrow ⟨hl,.inr ⟨_,cap,_,rfl,hB,heap_alloc_new w.drew _,hge,hcm,?_,?_⟩⟩ (fun b hb=>by simp[r6]at hb;omega)
      (hk1 hm0 _ _ (by simp) (fun b hb=>.inr (by simp[r6]at hb;have:=hr.cls.fx.size;omega)) (fxOf _ none hgrow (by simp))))
     ·simp only[Array.size_append,b0M,N0,size_zeroCells,hzs,hl,a0k,←R7];congr 1;omega
     ·simp only[Array.toList_append,a2B];rw[←hl];exact List.take_left
    ·exact absurd h0 hm0
end
structure POK(P:Program)(tt:List (Nat×TI)):Prop where
 tt:a3N P tt
 ng:∀(g:Nat) (fn:Func),P.funcs[g]?=some fn→(fn.name== "runtime.NumGoroutine")=false
 mix:P.follows .mixedOrders=true
structure Lv(X:Cx)(H:Hp)(w:World)(st':St)(a':Act)(w':World):Prop where
 rel:Rel X st' a' w'
 fx:Fx (bs H) w w'
 bs:∀b,b∈Sx.bs st'.H→b∈Sx.bs H∨w.heap.size≤b
theorem Lv.refl{X:Cx}{st:St}{a:Act}{w:World}(h:Rel X st a w):Lv X st.H w st a w:=⟨h,Fx.refl _ _,fun _ h=>.inl h⟩
theorem Lv.trans{X:Cx}{H:Hp}{w w1 w2:World}{st1 st2:St}{a1 a2:Act}(h:Lv X H w st1 a1 w1)(k:Lv X st1.H w1 st2 a2 w2):Lv X H w st2 a2 w2:=
 ⟨k.rel,Fx.trans h.fx k.fx (fun _ h=>h) fun i hi=>h.bs i hi,fun b hb=>by
  rcases k.bs b hb with h1|h1
  ·exact h.bs b h1
  ·exact .inr (z6 h.fx.size h1)⟩
section
variable {X : Cx}{st : St}{a : Act}{w : World}{Q : Exit → Act → World → Prop}
theorem c7P(l:List Oper)(j:Nat):b6x l j=(l[j]?).bind (·.dst):=by
 induction l generalizing j with
 |nil=>simp[b6x]
 |cons o l ih=>cases j with
  |zero=>simp[b6x]
  |succ j=>simp[b6x,ih]
def a8z(T:List (Nat×SV))(d:Nat):Prop:=∀s,A8 T d=some s→s=.bad
structure Sm(st st':St):Prop where
 H:st'.H=st.H
 nk:st'.nk=st.nk
 w:st'.w=st.w
 lo:st'.lo=st.lo
 iv:st'.iv=st.iv
theorem Sm.refl(st:St):Sm st st:=⟨rfl,rfl,rfl,rfl,rfl⟩
theorem a3J{T:List (Nat×SV)}{d e:Nat}{s:SV}(h:a8z T d)(hne:e≠d):a8z ((e,s)::T) d:=by
 intro s' hs;simp only[A8,S9 hne]at hs;exact h s' hs
theorem b4r{T:List (Nat×SV)}{d e:Nat}{s:SV}(h:a8z T d)(hl:A8 T e=some s)(hs:s≠ .bad):e≠d:=by
 intro he;subst he;exact hs (h s hl)
theorem b6J{ops:Array Oper}{o:Oper}{yes no:St→Prop}(h:a6j ops.toList o.guard st yes no)(hr:Rel X st a w):
 ∃st',Sm st st'∧(∀d,a8z st.T d→a8z st'.T d)∧Rel X st' a w∧((Region.wanted o (yielded ops a.tmps)=true∧yes st')∨(Region.wanted o (yielded ops a.tmps)=false∧no st')):=by
 unfold a6j at h;split at h
 ·rename_i hg;exact⟨st,Sm.refl st,fun _ h=>h,hr,.inl ⟨by simp[Region.wanted,hg],h⟩⟩
 ·rename_i j want hg;split at h
  ·rename_i d hd;rw[c7P]at hd;simp only[b2U]at hd;split at h
   ·rename_i b hl
    have hy:a.tmps[d]?=some (.bool b):=by
     obtain⟨hlt,hl⟩:=Y6 hl;rcases hr.T d _ hl with e|e
     ·cases e
     ·rw[N1,k9 hlt]at e;simpa[den]using e
    have hyd:yielded ops a.tmps j=some b:=by simp[yielded,hd,hy]
    obtain⟨T,H,nk,ws,lo,iv⟩:=st
    have hrel:∀b':Bool,b=b'→Rel X ⟨(d,.v (.bool b'))::T,H,nk,ws,lo,iv⟩ a w:=by
     intro b' hb;refine⟨hr.size,fun d' s hs=>?_,hr.dfs,hr.cls,hr.lo,hr.iv⟩;simp only[A8]at hs;split at hs
     ·rename_i hbq;cases hs;rw[←z7 hbq,←hb];exact .inr (by rw[N1,k9 (Y6 hl).1];simpa[den]using hy)
     ·exact hr.T d' s hs
    have hw:Region.wanted o (yielded ops a.tmps)=(b==want):=by
     simp only[Region.wanted,hg,hyd];cases b<;>cases want<;>rfl
    cases b<;>cases want<;>simp only[VIf]at h
    ·exact⟨⟨(d,.v (.bool false))::T,H,nk,ws,lo,iv⟩,⟨rfl,rfl,rfl,rfl,rfl⟩,fun e he=>a3J he (b4r he (Y6 hl).2 (by simp)),hrel false rfl,.inl ⟨by rw[hw];rfl,h⟩⟩
    ·exact⟨⟨(d,.v (.bool false))::T,H,nk,ws,lo,iv⟩,⟨rfl,rfl,rfl,rfl,rfl⟩,fun e he=>a3J he (b4r he (Y6 hl).2 (by simp)),hrel false rfl,.inr ⟨by rw[hw];rfl,h⟩⟩
    ·exact⟨⟨(d,.v (.bool true))::T,H,nk,ws,lo,iv⟩,⟨rfl,rfl,rfl,rfl,rfl⟩,fun e he=>a3J he (b4r he (Y6 hl).2 (by simp)),hrel true rfl,.inr ⟨by rw[hw];rfl,h⟩⟩
    ·exact⟨⟨(d,.v (.bool true))::T,H,nk,ws,lo,iv⟩,⟨rfl,rfl,rfl,rfl,rfl⟩,fun e he=>a3J he (b4r he (Y6 hl).2 (by simp)),hrel true rfl,.inl ⟨by rw[hw];rfl,h⟩⟩
   ·rename_i arr hl
    have hy:a.tmps[d]?=some (.tuple arr):=by
     obtain⟨hlt,hl⟩:=Y6 hl;rcases hr.T d _ hl with e|e
     ·cases e
     ·rw[N1,k9 hlt]at e;simpa[den]using e
    have hyd:yielded ops a.tmps j=none:=by simp[yielded,hd,hy]
    exact⟨st,Sm.refl st,fun _ h=>h,hr,.inr ⟨by simp[Region.wanted,hg,hyd],h⟩⟩
   ·exact h.elim
  ·exact h.elim
theorem c5I{H H':Hp}{T T':List (Nat×SV)}(h:c7A H H' T T'){d:Nat}{s:SV}(hl:A8 T' d=some s):∃s',A8 T d=some s'∧s'≠ .bad∧den H s'=den H' s:=by
 induction T' with
 |nil=>simp[A8]at hl
 |cons x T' ih=>
  obtain⟨d',s1⟩:=x;simp only[c7A]at h;simp only[A8]at hl;split at hl
  ·rename_i hb;cases hl;obtain rfl:=z7 hb;have h1:=h.1;split at h1
   ·exact h1.elim
   ·rename_i s' hbad hs';exact⟨s',hs',fun e=>hbad e,h1⟩
   ·exact h1.elim
  ·exact ih h.2 hl
theorem d0f{H H':Hp}{e e':Ent}(h:c0h H H' e e'):bsE e'=bsE e:=by
 cases e<;>cases e'<;>simp only[c0h]at h
 ·rw[h.1];rfl
 ·rw[h.1];rfl
 ·rw[h.1];rfl
theorem c5T{H:Hp}{l:List SV}{xs:List Value}(h:q8 H l xs)(hnb: .bad∉l):xs=o6 H l:=by
 induction l generalizing xs with
 |nil=>cases xs with
  |nil=>rfl
  |cons x xs=>simp[q8]at h
 |cons s l ih=>cases xs with
  |nil=>simp[q8]at h
  |cons x xs=>
   simp only[q8]at h;simp only[u9,not_or]at hnb;rcases h.1 with e|e
   ·exact absurd e.symm hnb.1
   ·rw[e,ih h.2 hnb.2];rfl
theorem c0l{H:Hp}(hn:(bs H).Nodup){k:Nat}{e:Ent}(hm:(k,e)∈H):(bsE e).Nodup:=by
 induction H with
 |nil=>cases hm
 |cons y H ih2=>
  obtain⟨k,e2⟩:=y;simp only[bs,a6X]at hn;rcases u9.1 hm with hm|hm
  ·cases hm;exact hn.1
  ·exact ih2 hn.2.1 hm
theorem b4M{H H':Hp}:∀ {l l':List SV}{xs:List Value},c0G H H' l l'→q8 H l xs→q8 H' l' xs
 |[],[],[],_,_=>trivial
 |[],[],_::_,_,h=>by simp[q8]at h
 |s::l,s'::l',[],_,h=>by simp[q8]at h
 |s::l,s'::l',x::xs,hs,h=>by
  simp only[c0G]at hs;simp only[q8]at h⊢;refine⟨?_,b4M hs.2 h.2⟩;rcases hs.1 with e|⟨e1,e2⟩
  ·exact .inl e
  ·rcases h.1 with q|q
   ·exact absurd q e1
   ·exact .inr (q.trans e2)
 |[],_::_,_,hs,_=>by simp[c0G]at hs
 |_::_,[],_,hs,_=>by simp[c0G]at hs
theorem c9Z{B:Nat}{H H':Hp}{e e':Ent}{w:World}(hrow:a6I H)(h:c0h H H' e e')(ha:a5V B H w e):a5V B H' w e':=by
 cases e<;>cases e'<;>simp only[c0h]at h
 ·obtain⟨rfl,hd,rfl⟩:=h;obtain⟨xs,h1,h2⟩:=ha;exact⟨xs,b4M hd h1,h2⟩
 ·obtain⟨rfl,rfl,rfl,rfl,rfl⟩:=h;exact ha
 ·obtain⟨rfl,rfl,rfl⟩:=h;exact ha
theorem c7I{H H':Hp}{src:List (Option Nat)}{R:Hp}(h:a7w H H' src R){k:Nat}{e':Ent}(hm:(k,e')∈R):
 (∃j e,some j∈src∧l4 H j=some e∧c0h H H' e e')∨(∃v n xs sz ty,e'=.row v n xs sz ty∧v=.slice none 0 0∧n=0∧xs=[]):=by
 induction R generalizing src with
 |nil=>cases hm
 |cons x R ih=>
  obtain⟨k1,e1⟩:=x
  match src,h with
  |some j::src,hq=>
   simp only[a7w]at hq;obtain⟨h1,hq2⟩:=hq;rcases u9.1 hm with hm|hm
   ·obtain⟨rfl,rfl⟩:=a5l .. ▸hm;split at h1
    ·rename_i e he;exact .inl ⟨j,e,by simp,he,h1⟩
    ·exact h1.elim
   ·rcases ih hq2 hm with⟨j',e,h1,h2,h3⟩|h1
    ·exact .inl ⟨j',e,by simp[h1],h2,h3⟩
    ·exact .inr h1
  |none::src,hq=>
   cases e1 with
   |blk b cs ty=>simp[a7w]at hq
   |mp b es ty=>simp[a7w]at hq
   |row v n xs sz ty=>
    simp only[a7w]at hq;obtain⟨h1,hq2⟩:=hq;rcases u9.1 hm with hm|hm
    ·obtain⟨rfl,rfl⟩:=a5l .. ▸hm;exact .inr ⟨v,n,xs,sz,ty,rfl,h1⟩
    ·rcases ih hq2 hm with⟨j',e,h1,h2,h3⟩|h1
     ·exact .inl ⟨j',e,by simp[h1],h2,h3⟩
     ·exact .inr h1
  |[],h=>simp[a7w]at h
theorem c9V{H H':Hp}(hn:(bs H).Nodup)(hk:(H.map (·.1)).Nodup){src:List (Option Nat)}{R:Hp}(h:a7w H H' src R)(hs:(src.filterMap id).Nodup):
 (bs R).Nodup∧∀b,b∈bs R→∃j e,some j∈src∧l4 H j=some e∧b∈bsE e:=by
 induction R generalizing src with
 |nil=>simp[bs]
 |cons x R ih=>
  obtain⟨k1,e1⟩:=x
  match src,h with
  |some j::src,h=>
   simp only[a7w]at h;have h1:=h.1;split at h1
   ·rename_i e he;simp only[List.filterMap_cons,id]at hs;rw[a4i]at hs;obtain⟨g1,g2⟩:=ih h.2 hs.2;have heb:=d0f h1;have hbe:(bsE e).Nodup:=c0l hn (o7 he);refine⟨?_,fun b hb=>?_⟩
    ·simp only[bs,heb,a6X];refine⟨hbe,g1,fun b hb b' hb' heq=>?_⟩;subst heq;obtain⟨j',e',h2,h3,h4⟩:=g2 b hb';by_cases hjj:j=j'
     ·subst hjj;exact hs.1 (List.mem_filterMap.2 ⟨_,h2,rfl⟩)
     ·exact a4o hn hk (o7 he) (o7 h3) hjj hb h4
    ·simp only[bs,heb,E3]at hb;rcases hb with hb|hb
     ·exact⟨j,e,by simp,he,hb⟩
     ·obtain⟨j',e',h2,h3,h4⟩:=g2 b hb;exact⟨j',e',by simp[h2],h3,h4⟩
   ·exact h1.elim
  |none::src,h=>
   cases e1 with
   |blk b cs ty=>simp[a7w]at h
   |mp b es ty=>simp[a7w]at h
   |row v n xs sz ty=>
    simp only[a7w]at h;obtain⟨⟨rfl,rfl,rfl⟩,h2⟩:=h;have hs':(src.filterMap id).Nodup:=by simpa using hs
    obtain⟨g1,g2⟩:=ih h2 hs';refine⟨by simpa[bs,bsE,r6]using g1,fun b hb=>?_⟩
    simp only[bs,bsE,r6,a2B]at hb;obtain⟨j',e',h2,h3,h4⟩:=g2 b hb;exact⟨j',e',by simp[h2],h3,h4⟩
  |[],h=>simp[a7w]at h
theorem Sub.rel{st':St}(h:Sub st st')(hr:Rel X st a w)(hat:At st' w):Rel X st' a w∧∀b,b∈bs st'.H→b∈bs st.H:=by
 obtain⟨src,hT,hH,hs,hk,hlt⟩:=h;obtain⟨e1,e2,e3⟩:=hat;obtain⟨g1,g2⟩:=c9V hr.cls.nd hr.cls.keys hH hs
 have hbs:∀b,b∈bs st'.H→b∈bs st.H:=fun b hb=>by
  obtain⟨j,e,_,h2,h3⟩:=g2 b hb;exact A3.2 ⟨j,e,o7 h2,h3⟩
 have hrow:=a5e hr.cls;refine⟨⟨hr.size,fun d s hl=>?_,hr.dfs,⟨by rw[e1];exact Fx.refl _ _,hr.cls.fx0,fun k e he=>?_,g1,fun b hb=>hr.cls.lb b (hbs b hb),hk,fun k e he=>hlt k (L6.2 ⟨_,he,rfl⟩)⟩,by rw[e2];exact y6 _,by rw[e3];simp⟩,hbs⟩
 ·obtain⟨s',h1,h2,h3⟩:=c5I hT hl;rcases hr.T d s' h1 with h|h
  ·exact absurd h h2
  ·right;rw[h,h3]
 ·rcases c7I hH he with⟨j,e0,_,h2,h3⟩|⟨v,n,xs,sz,ty,rfl,rfl,rfl,rfl⟩
  ·exact c9Z hrow h3 (hr.cls.own j e0 (o7 h2))
  ·exact World.ownsRow_nil _ _ _ _
end
def O2(x:Nat):List Nat→Bool
 |[]=>false
 |y::l=>match Nat.beq y x with|true=>true|false=>O2 x l
def b4n:List Nat→List Nat→Bool
 |[],_=>true
 |x::l,r=>match O2 x r with|true=>b4n l r|false=>false
def P7(o:Oper):List Nat:=(o.after.toList.filter (Region.binds .any ·)).map (·.on)
def A1(o:Oper):Bool:=match o.guard with
 |none=>(match o.op with
  |.alloc _=>true
  |.buildSlice _ n ps=>(match Nat.beq n 0 with|true=>ps.isEmpty|false=>false)
  |_=>false)
 |some _=>false
def a6e(o:Oper):Bool:=match o.op with
 |.move _=>true|.assign _=>true|.pick .. =>true|.load .. =>true|.nilCheck _=>true|.fieldAddr .. =>true|.field .. =>true
 |.indexAddr .. =>true|.index .. =>true|.binOp .. =>true|.unOp .. =>true|.extract .. =>true|.makeFunc .. =>true|.build .. =>true|.slice .. =>true|.convert .. =>true|.lookup .. =>true
 |.call c=>(match c.callee with|.builtin .len=>true|.builtin .max=>true|.builtin .min=>true|_=>false)
 |_=>false
def a2p(o:Oper):Bool:=match o.op with
 |.call c=>(match c.callee with|.value _=>true|_=>false)
 |_=>false
def b0d(o:Oper):Bool:=match o.op with|.select .. =>false|_=>true
def c5a(ops:Array Oper)(oi:Oper)(i:Nat)(L:List Nat):Bool:=
 (List.range ops.size).all fun j=>O2 j L||(Nat.beq j i||(match ops[j]? with|some oj=>O2 i (P7 oj)||oi.apart ops oj|none=>true))
def a1O(ops:Array Oper)(L:List Nat):List Nat:=
 (List.range ops.size).filter fun j=> !(O2 j L)&&(match ops[j]? with|some oj=>A1 oj&&b4n (P7 oj) L|none=>false)
def d0R(ops:Array Oper)(al:List Nat)(i:Nat)(L:List Nat):Bool:=
 (List.range ops.size).all fun j=>O2 j L||(O2 j al||Nat.beq j i||(O2 j (a1O ops L)||(match ops[j]? with|some oj=> !(b4n (P7 oj) (a1O ops L++L))|none=>true)))
def d0n(ops:Array Oper):Nat→List Nat→List Nat
 |0,l=>l
 |n+1,l=>d0n ops n (l++l.flatMap fun j=>match ops[j]? with|some o=>P7 o|none=>[])
def a8T:Op→Bool
 |.load _ _=>true
 |.lookup _ _ _ _=>true
 |_=>false
def c2I(ops:Array Oper)(o:Oper)(L S:List Nat):Bool:=
 L.all fun j=>(match ops[j]? with|some oj=> !(a8T oj.op)|none=>true)||(O2 j S||O2 j (d0n ops 4 (P7 o)))
def d0P(ops:Array Oper)(i:Nat)(L:List Nat):Bool:=
 (List.range ops.size).all fun j=>O2 j L||(Nat.beq j i||(O2 j (a1O ops L)||(match ops[j]? with
  |some oj=> !(b4n (P7 oj) ((a1O ops L).filter (!Nat.beq · i)++L))
  |none=>true)))
def c6T(ops:Array Oper)(L:List Nat):Bool:=(List.range ops.size).all fun j=>O2 j L||(match ops[j]? with|some oj=> !(A1 oj)|none=>true)
def c3G(ops:Array Oper)(al:List Nat)(oi:Oper)(i:Nat)(S:List Nat)(fl:Bool)(L:List Nat):Bool:=
 d0R ops al i L&&(match a2p oi with
  |true=>(match fl with|true=>c2I ops oi L S|false=>true)
  |false=>c2I ops oi L S)
def b7w(ops:Array Oper)(oi:Oper)(i j:Nat)(S:List Nat)(fl:Bool)(L:List Nat):Bool:=
 !(O2 i L)&&(b4n (P7 oi) L&&(!(a6e oi)&&(!(A1 oi)&&(!oi.guard.isSome&&c3G ops [j] oi i S fl L))))
def a2F(ops:Array Oper):List Nat→PT→Bool
 |L,.nil=>(List.range ops.size).all fun j=>O2 j L
 |L,.op i S fl r=>match ops[i]? with
  |some oi=> !(O2 i L)&&(b4n (P7 oi) L&&((match a6e oi||oi.guard.isSome with|true=>c5a ops oi i L|false=>true)&&
   ((match a6e oi with
    |true=>fl||(!(a8T oi.op)||c6T ops L)
    |false=>match A1 oi with|true=>d0P ops i L|false=>c3G ops [] oi i S fl L)&&a2F ops (i::L) r)))
  |none=>false
 |L,.fork (.op i S fl r) (.op j S' fl' r')=>match ops[i]?,ops[j]? with
  |some oi,some oj=>match A1 oj with
   |false=>b7w ops oi i j S fl L&&(b7w ops oj j i S' fl' L&&(a2F ops (i::L) r&&a2F ops (j::L) r'))
   |true=>match r' with
    |.op k S2 fl2 r2=>(match ops[k]? with
     |some ok=>b7w ops oi i k S fl L&&(!(O2 j L)&&(b4n (P7 oj) L&&(O2 j (P7 ok)&&(b7w ops ok k i S2 fl2 (j::L)&&(a2F ops (i::L) r&&a2F ops (k::j::L) r2)))))
     |none=>false)
    |_=>false
  |_,_=>false
 |_,_=>false
def b1f(tt:List (Nat×TI))(nt:Nat)(ops:Array Oper):Bool:=
 (List.range ops.size).all fun i=>match ops[i]? with
  |some oi=>match A1 oi with
   |true=>(match oi.op with
    |.alloc t=>(match D4 tt t with|some _=>true|none=>false)
    |.buildSlice t _ _=>(match D4 tt t with
     |some ⟨_,_,_,_,.slice e esz _⟩=>(match D4 tt e with|some i=>Nat.beq i.n esz|none=>false)
     |_=>false)
    |_=>false)&&match oi.dst with
    |some d=>Nat.blt d nt&&(List.range ops.size).all fun j=>Nat.beq j i||(match ops[j]? with
     |some oj=>(match oj.dst with|some d'=> !(Nat.beq d d')|none=>true)
     |none=>true)
    |none=>false
   |false=>true
  |none=>true
def a7C(tt:List (Nat×TI))(nt:Nat)(ops:Array Oper)(pl:PT):Bool:=a2F ops [] pl&&(b1f tt nt ops&&ops.toList.all b0d)
def a5Y:List Oper→List (Nat×SV)→List (Nat×SV)
 |[],T=>T
 |o::l,T=>match A1 o,o.dst with
  |true,some d=>(d,.bad)::a5Y l T
  |_,_=>a5Y l T
def a2r:List (Nat×Option Nat)→Nat→Option (Option Nat)
 |[],_=>none
 |(i,t)::r,j=>match Nat.beq i j with|true=>some t|false=>a2r r j
def c0o(pr:List (Nat×Option Nat)):List Nat→Nat→Bool
 |[],_=>true
 |j::S,k=>match a2r pr j with
  |some (some k')=>match Nat.beq k' k with|true=>false|false=>c0o pr S k
  |_=>c0o pr S k
def rdP(X:Cx)(fl:Bool)(i:Nat)(op:Op)(st:St)(pr:List (Nat×Option Nat))(K:List (Nat×Option Nat)→Prop):Prop:=
 match op with
 |.load _ p=>match ev st p with
  |some s=>match b7S s with
   |some k=>K ((i,some k)::pr)
   |none=>match fl with
    |false=>K ((i,none)::pr)
    |true=>match s with
     |.v (.pointer (some ⟨b,_,_⟩))=>(b<X.w0.heap.size∨b<st.lo∨∃p,p∈st.iv∧p.1≤b∧b<p.2)∧K ((i,none)::pr)
     |_=>False
  |none=>False
 |.lookup _ m _ _=>match ev st m with
  |some (.row k)=>K ((i,some k)::pr)
  |_=>False
 |_=>K pr
def c0X(X:Cx)(i:Nat)(S:List Nat)(fl:Bool)(pr:List (Nat×Option Nat))(o:Oper)(st:St)(K:St→List (Nat×Option Nat)→Prop)(out:Out):Prop:=
 match a6e o with
 |true=>(match out with|.val s=>rdP X fl i o.op st pr fun pr=>put X st o.dst s fun st=>K st pr|_=>False)
 |false=>match A1 o with
  |true=>(match out with|.new _ _ _=>fin X false st o.dst (fun st=>K st pr) out|_=>False)
  |false=>match a2p o with
   |true=>(match out with|.call _ _=>fin X false st o.dst (fun st=>K st pr) out|_=>False)
   |false=>(match out with
    |.call _ _=>False
    |out=>match a8q out with
     |some k=>match c0o pr S k with|true=>fin X false st o.dst (fun st=>K st pr) out|false=>False
     |none=>fin X false st o.dst (fun st=>K st pr) out)
def b4b:List Oper→Nat→Option Oper
 |[],_=>none
 |o::_,0=>some o
 |_::l,n+1=>b4b l n
def kpS:List Nat→Bool
 |[]=>false
 |_=>true
def d0L(X:Cx)(o:Oper)(kp:Bool)(st:St)(K:St→Prop):Prop:=∀(E:List Nat) (a:Act) (w:World),Rel X st a w→(∀b,b∈E→b∉bs st.H∧st.lo≤b∧a7b st.iv b∧b<w.heap.size)→
 o.wp X.P a w (fun a' w'=>∃v,a'=a.put o.dst v∧∃st',K st'∧Lv X st.H w st' a' w'∧(∀b,b∈E→st'.lo≤b∧a7b st'.iv b)∧(kp=true→(∀i,i<w.heap.size→w'.heap[i]?=w.heap[i]?)∧KB st.H w st'.H)) (fun _ _ _=>False)
def b6U:PT→List Nat
 |.nil=>[]
 |.op i _ _ r=>i::b6U r
 |.fork a b=>b6U a++b6U b
def a2Z{α:Type}(bad:α)(ops:List Oper):List Nat→List (Nat×α)→List (Nat×α)
 |[],T=>T
 |i::r,T=>match b4b ops i with
  |some o=>match A1 o,o.dst with
   |true,some d=>(d,bad)::a2Z bad ops r T
   |_,_=>a2Z bad ops r T
  |none=>a2Z bad ops r T
def b1p(X:Cx)(ops:List Oper)(rest:PT)(i:Nat)(S:List Nat)(fl:Bool)(pr:List (Nat×Option Nat))(o:Oper)(st:St)(K:St→List (Nat×Option Nat)→Prop):Prop:=
 match a2p o,fl with
 |true,true=>d0L X o (kpS S) st fun st=>match st with|⟨T,H,nk,w,lo,iv⟩=>K ⟨a2Z .bad ops (b6U rest) T,H,nk,w,lo,iv⟩ pr
 |_,_=>ev1 X st o.op (c0X X i S fl pr o st K)
def a4a(X:Cx)(ops:List Oper):PT→St→List (Nat×Option Nat)→(St→Prop)→Prop
 |.nil,st,_,K=>K st
 |.op i S fl rest,st,pr,K=>match b4b ops i with
  |some o=>a6j ops o.guard st
   (fun st=>b1p X ops rest i S fl pr o st fun st pr=>a4a X ops rest st pr K)
   (fun st=>put X st o.dst (.v undef) fun st=>a4a X ops rest st pr K)
  |none=>False
 |.fork a b,st,pr,K=>a4a X ops a st pr K∧a4a X ops b st pr K
theorem E1{x:Nat}{l:List Nat}:O2 x l=true↔x∈l:=by
 induction l with
 |nil=>simp[O2]
 |cons y l ih=>
  simp only[O2];split
  ·rename_i h;simp[z7 h]
  ·rename_i h;rw[ih];have:=a3y h;simp only[u9];exact⟨.inr,fun h=>h.resolve_left fun e=>this e.symm⟩
theorem a1U{l r:List Nat}:b4n l r=true↔∀x,x∈l→x∈r:=by
 induction l with
 |nil=>simp[b4n]
 |cons x l ih=>
  simp only[b4n];split
  ·rename_i h;rw[ih];simp[E1.1 h]
  ·rename_i h;constructor
   ·intro h;cases h
   ·intro hall;have:O2 x r=true:=E1.2 (hall x C7);rw[this]at h;cases h
section
variable {ops : Array Oper}
def c2Y(ops:Array Oper)(j:Nat):Option Nat:=(ops[j]?).bind (·.dst)
def G5(ops:Array Oper):List (Nat×Value)→Act→Act
 |[],a=>a
 |(j,v)::r,a=>(G5 ops r a).put (c2Y ops j) v
def d0W(H:Hp)(b:Nat):Option Nat→Prop
 |some k=>∀k' e,(k',e)∈H→k'≠k→b∉bsE e
 |none=>b∉bs H
def Rok(H:Hp)(w:World)(pr:List (Nat×Option Nat))(E:List Nat)(j:Nat)(op:Op)(R:List Nat):Prop:=
 R=[]∨∃b tag,R=[b]∧a8T op=true∧a2r pr j=some tag∧b<w.heap.size∧d0W H b tag∧b∉E
def Yl(P:Program)(H:Hp)(w:World)(pr:List (Nat×Option Nat))(E:List Nat)(ops:Array Oper)(j:Nat)(o:Oper)(v:Value)(a:Act):Prop:=
 (Region.wanted o (yielded ops a.tmps)=true∧∃R,Rok H w pr E j o.op R∧∀wc,(∀b,b∈R→wc.heap[b]?=w.heap[b]?)→(execOp a.eval o).run P wc=.ok (.value v) wc)∨(Region.wanted o (yielded ops a.tmps)=false∧v=undef)
theorem Yl.congr{P:Program}{H:Hp}{w:World}{pr:List (Nat×Option Nat)}{E:List Nat}{j:Nat}{o:Oper}{v:Value}{a a':Act}(h:Yl P H w pr E ops j o v a)(he:execOp a'.eval o=execOp a.eval o)
 (hw:Region.wanted o (yielded ops a'.tmps)=Region.wanted o (yielded ops a.tmps)):Yl P H w pr E ops j o v a':=by unfold Yl at*;rw[he,hw];exact h
def a0i(P:Program)(H:Hp)(w:World)(pr:List (Nat×Option Nat))(E:List Nat)(ops:Array Oper):List (Nat×Value)→Act→Prop
 |[],_=>True
 |(j,v)::r,a=>(∃oj,ops[j]?=some oj∧Yl P H w pr E ops j oj v (G5 ops r a)∧∀q,q∈r→∀oq,ops[q.1]?=some oq→q.1∈P7 oj∨oq.apart ops oj=true)∧a0i P H w pr E ops r a
theorem a0i.move{P:Program}{H H':Hp}{w w':World}{pr pr':List (Nat×Option Nat)}{E E':List Nat}:∀ {pend:List (Nat×Value)}{a:Act},a0i P H w pr E ops pend a→
 (∀j,j∈pend.map (·.1)→∀oj,ops[j]?=some oj→∀R,Rok H w pr E j oj.op R→Rok H' w' pr' E' j oj.op R∧∀b,b∈R→w'.heap[b]?=w.heap[b]?)→a0i P H' w' pr' E' ops pend a
 |[],_,_,_=>trivial
 |(j,v)::r,a,⟨⟨oj,h1,h2,h3⟩,hr⟩,hm=>by
  refine⟨⟨oj,h1,?_,h3⟩,a0i.move hr fun k hk=>hm k (F6 _ hk)⟩;rcases h2 with⟨hw,R,hR,hrun⟩|h2
  ·obtain⟨g1,g2⟩:=hm j (by simp) oj h1 R hR;exact .inl ⟨hw,R,g1,fun wc hc=>hrun wc fun b hb=>by rw[hc b hb,g2 b hb]⟩
  ·exact .inr h2
theorem c8x{ops:Array Oper}(h:ops.toList.all b0d=true){j:Nat}{o:Oper}(hj:ops[j]?=some o):∀cs b,o.op≠ .select cs b:=by
 have hm:o∈ops.toList:=by
  have:=b0f (l:=ops.toList) (i:=j) (a:=o) (by simpa using hj)
  exact this
 have:=V6.1 h o hm;intro cs b e;simp[b0d,e]at this
theorem a7m(hn:ops.toList.all b0d=true){P:Program}{H:Hp}{w:World}{pr:List (Nat×Option Nat)}{E:List Nat}{o:Oper}{v:Value}:∀ {r:List (Nat×Value)}{a:Act},a0i P H w pr E ops r a→
 (∀q,q∈r→∀oq,ops[q.1]?=some oq→oq.apart ops o=true)→a0i P H w pr E ops r (a.put o.dst v)∧G5 ops r (a.put o.dst v)=(G5 ops r a).put o.dst v
 |[],a,_,_=>⟨trivial,rfl⟩
 |(k,u)::r,a,h,hap=>by
  obtain⟨⟨ok,hk,hy,hpw⟩,hr⟩:=h;obtain⟨ih1,ih2⟩:=a7m hn hr fun q hq=>hap q (F6 _ hq)
  obtain⟨a1,a2,a3⟩:=Oper.apart_spec (hap (k,u) C7 ok hk);refine⟨⟨⟨ok,hk,?_,hpw⟩,ih1⟩,?_⟩
  ·rw[ih2];exact hy.congr (execOp_put ok (c8x hn hk) _ _ _ a3) (wanted_put ok _ _ _ a3)
  ·simp only[G5,ih2];have hd:c2Y ops k=ok.dst:=by simp[c2Y,hk]
   rw[hd];exact Act.put_comm _ v u fun d e1 e2=>a2 d e2 e1
theorem b2T(hn:ops.toList.all b0d=true){o:Oper}{j:Nat}(hj:ops[j]?=some o):∀ {r:List (Nat×Value)}{a:Act}{P:Program}{H:Hp}{w:World}{pr:List (Nat×Option Nat)}{E:List Nat},a0i P H w pr E ops r a→
 (∀q,q∈r→∀oq,ops[q.1]?=some oq→oq.apart ops o=true)→execOp (G5 ops r a).eval o=execOp a.eval o∧Region.wanted o (yielded ops (G5 ops r a).tmps)=Region.wanted o (yielded ops a.tmps)
 |[],a,_,_,_,_,_,_,_=>⟨rfl,rfl⟩
 |(k,u)::r,a,P,H,w,pr,E,h,hap=>by
  obtain⟨⟨ok,hk,hy,hpw⟩,hr⟩:=h;obtain⟨ih1,ih2⟩:=b2T hn hj hr fun q hq=>hap q (F6 _ hq)
  obtain⟨a1,a2,a3⟩:=Oper.apart_spec (hap (k,u) C7 ok hk);have hd:c2Y ops k=ok.dst:=by simp[c2Y,hk]
  simp only[G5,hd];exact⟨by rw[execOp_put o (c8x hn hj) _ _ _ a1,ih1],by rw[wanted_put o _ _ _ a1,ih2]⟩
theorem b7Q(hn:ops.toList.all b0d=true){P:Program}{H:Hp}{w:World}{pr:List (Nat×Option Nat)}{E:List Nat}{j:Nat}{oj:Oper}(hj:ops[j]?=some oj){v:Value}:∀ {pend:List (Nat×Value)}{a:Act},a0i P H w pr E ops pend a→
 (j,v)∈pend→(pend.map (·.1)).Nodup→(∀q,q∈pend.map (·.1)→q∉P7 oj)→
 Yl P H w pr E ops j oj v a∧a0i P H w pr E ops (pend.filter fun p=> !Nat.beq p.1 j) (a.put oj.dst v)∧G5 ops (pend.filter fun p=> !Nat.beq p.1 j) (a.put oj.dst v)=G5 ops pend a
 |[],_,_,hm,_,_=>by cases hm
 |(k,u)::r,a,h,hm,hnd,hnw=>by
  obtain⟨⟨ok,hk,hy,hpw⟩,hr⟩:=h;simp only[H7,a4i]at hnd;by_cases hkj:k=j
  ·subst hkj;rw[hj]at hk;obtain rfl:=E0 hk
   have hv:u=v:=by
    rcases u9.1 hm with h1|h1
    ·cases h1;rfl
    ·exact absurd (L6.2 ⟨_,h1,rfl⟩) hnd.1
   subst hv
   have hap:∀q,q∈r→∀oq,ops[q.1]?=some oq→oq.apart ops oj=true:=fun q hq oq hoq=>
    (hpw q hq oq hoq).resolve_left (hnw q.1 (by simp;exact .inr ⟨q.2,hq⟩))
   have hf:((k,u)::r).filter (fun p=> !Nat.beq p.1 k)=r:=by
    rw[List.filter_cons];have h0:(!Nat.beq k k)=false:=by simp
    simp only[h0,M4,G8];apply List.filter_eq_self.2;intro p hp;have:p.1≠k:=fun e=>hnd.1 (L6.2 ⟨p,hp,e⟩)
    simp[S9 this]
   rw[hf];obtain⟨g1,g2⟩:=a7m hn (v:=u) hr hap;obtain⟨l1,l2⟩:=b2T hn hj hr hap;refine⟨hy.congr l1.symm l2.symm,g1,?_⟩;rw[g2];simp[G5,c2Y,hj]
  ·have hm':(j,v)∈r:=by
    rcases u9.1 hm with h1|h1
    ·cases h1;exact absurd rfl hkj
    ·exact h1
   obtain⟨ih1,ih2,ih3⟩:=b7Q hn hj hr hm' hnd.2 fun q hq=>hnw q (by simp at hq⊢;exact .inr hq)
   have hf:((k,u)::r).filter (fun p=> !Nat.beq p.1 j)=(k,u)::r.filter (fun p=> !Nat.beq p.1 j):=by
    rw[List.filter_cons];simp[S9 hkj]
   rw[hf];refine⟨ih1,⟨⟨ok,hk,by rw[ih3];exact hy,fun q hq=>hpw q (a9b.1 hq).1⟩,ih2⟩,by simp only[G5,ih3]⟩
end
section
variable {ops : Array Oper}
def Ls(listed:Array Bool)(j:Nat):Prop:=listed.getD j false=true
theorem Ls.lt{listed:Array Bool}{j:Nat}(h:Ls listed j):j<listed.size:=by
 rcases a4C j listed.size with h1|h1
 ·exact h1
 ·simp[Ls,b3T h1]at h
theorem b2L{listed:Array Bool}{j k:Nat}(hj:j<listed.size):Ls (listed.setIfInBounds j true) k↔k=j∨Ls listed k:=by
 unfold Ls;by_cases h:k=j
 ·subst h;simp[hj]
 ·rw[getD_set_ne false (Ne.symm h)];simp[h]
theorem b1K{listed:Array Bool}{j:Nat}(hj:j<listed.size):listed.getD j true=false↔¬Ls listed j:=by
 unfold Ls;simp[hj]
def cnt(ops:Array Oper)(listed:Array Bool):Nat:=(List.range ops.size).countP fun j=> !(listed.getD j true)
theorem c6y{p q:Nat→Bool}{l:List Nat}{j:Nat}(hj:j∈l)(hp:p j=true)(hq:q j=false)(hle:∀x,q x=true→p x=true):l.countP q+1≤l.countP p:=by
 induction l with
 |nil=>cases hj
 |cons x l ih=>
  have hm:l.countP q≤l.countP p:=List.countP_mono_left fun x _ h=>hle x h
  by_cases hx:x=j
  ·subst hx;rw[List.countP_cons_of_neg (by simp[hq]),List.countP_cons_of_pos hp];omega
  ·have:=ih ((u9.1 hj).resolve_left (Ne.symm hx));rw[List.countP_cons,List.countP_cons];by_cases hqx:q x=true
   ·simp[hqx,hle x hqx];omega
   ·simp[hqx];omega
theorem c9E{listed:Array Bool}{j:Nat}(hs:listed.size=ops.size)(hj:j<ops.size)(h:¬Ls listed j):cnt ops (listed.setIfInBounds j true)+1≤cnt ops listed:=by
 refine c6y (j:=j) (by simpa using hj) ?_ ?_ fun x hx=>?_
 ·have:=(b1K (by omega)).2 h;simp only[this,a4G]
 ·simp[hs,hj]
 ·by_cases he:x=j
  ·subst he;have:=(b1K (listed:=listed) (by omega)).2 h;simp only[this,a4G]
  ·rw[getD_set_ne true (Ne.symm he)]at hx;exact hx
theorem a9y{listed:Array Bool}{j:Nat}(hs:listed.size=ops.size):j∈Region.ready .any ops listed↔j<ops.size∧¬Ls listed j∧∃o,ops[j]?=some o∧∀d,d∈P7 o→Ls listed d:=by
 rw[mem_ready];constructor
 ·rintro⟨h1,o,h2,h3⟩;have hlt:=(Z8.1 h2).1;refine⟨hlt,(b1K (by omega)).1 h1,o,h2,fun d hd=>?_⟩;simp only[P7,L6,a9b]at hd;obtain⟨e,⟨he,hb⟩,rfl⟩:=hd;exact h3 e (by simpa using he) hb
 ·rintro⟨h0,h1,o,h2,h3⟩;refine⟨(b1K (by omega)).2 h1,o,h2,fun e he hb=>h3 e.on ?_⟩;simp only[P7,L6,a9b];exact⟨e,⟨by simpa using he,hb⟩,rfl⟩
structure Pl(ops:Array Oper)(L pk ek:List Nat)(listed:Array Bool):Prop where
 sz:listed.size=ops.size
 Llt:∀j,j∈L→j<ops.size
 list:∀j,Ls listed j↔(j∈L∧j∉pk)∨j∈ek
 eL:∀i,i∈ek→i∉L
 eA:∀i,i∈ek→∃oi,ops[i]?=some oi∧A1 oi=true∧∀d,d∈P7 oi→d∈L
 pL:∀j,j∈pk→j∈L
 down:∀j o,Ls listed j→ops[j]?=some o→∀d,d∈P7 o→Ls listed d
 pnd:pk.Nodup
 pord:pk.Pairwise fun x y=>∀o,ops[y]?=some o→x∉P7 o
 pself:∀p o,p∈pk→ops[p]?=some o→p∉P7 o
 Ld:∀j o,j∈L→ops[j]?=some o→∀d,d∈P7 o→d∈L
 pfree:∀p,p∈pk→∀op,ops[p]?=some op→∀j oj,ops[j]?=some oj→j∉L→p∈P7 oj∨op.apart ops oj=true
section
variable {L pk ek : List Nat}{listed : Array Bool}{i j : Nat}{oi oj : Oper}
theorem a3c(h:ops[j]?=some oj):j<ops.size:=(Z8.1 h).1
theorem c4B{l:List Nat}{j:Nat}(p:Nat):p∈l.filter (fun p=> !Nat.beq p j)↔p∈l∧p≠j:=by
 rw[a9b];constructor
 ·rintro⟨h1,h2⟩;exact⟨h1,fun e=>by subst e;simp at h2⟩
 ·rintro⟨h1,h2⟩;exact⟨h1,by simp[S9 h2]⟩
theorem Pl.drain(h:Pl ops L pk ek listed)(hj:ops[j]?=some oj)(hp:j∈pk)(hd:∀d,d∈P7 oj→Ls listed d):Pl ops L (pk.filter fun p=> !Nat.beq p j) ek (listed.setIfInBounds j true):=by
 have hlt:j<listed.size:=by rw[h.sz];exact a3c hj
 have hmem:∀p,p∈pk.filter (fun p=> !Nat.beq p j)↔p∈pk∧p≠j:=c4B
 refine⟨by simp[h.sz],h.Llt,fun k=>?_,h.eL,h.eA,fun k hk=>h.pL k ((hmem k).1 hk).1,fun k o hk ho d hdk=>?_,h.pnd.sublist List.filter_sublist,h.pord.sublist List.filter_sublist,
  fun p o hp ho=>h.pself p o ((hmem p).1 hp).1 ho,h.Ld,fun p hp=>h.pfree p ((hmem p).1 hp).1⟩
 ·rw[b2L hlt,h.list,hmem];constructor
  ·rintro(rfl|⟨h1,h2⟩|h1)
   ·exact .inl ⟨h.pL _ hp,by simp⟩
   ·exact .inl ⟨h1,fun h3=>h2 h3.1⟩
   ·exact .inr h1
  ·rintro(⟨h1,h2⟩|h1)
   ·by_cases hk:k=j
    ·exact .inl hk
    ·exact .inr (.inl ⟨h1,fun h3=>h2 ⟨h3,hk⟩⟩)
   ·exact .inr (.inr h1)
 ·rw[b2L hlt]at hk⊢;rcases hk with rfl|hk
  ·rw[hj]at ho;cases ho;exact .inr (hd d hdk)
  ·exact .inr (h.down k o hk ho d hdk)
theorem Pl.early(h:Pl ops L pk ek listed)(hj:ops[j]?=some oj)(hL:j∉L)(ha:A1 oj=true)(hd:∀d,d∈P7 oj→Ls listed d)(hdL:∀d,d∈P7 oj→d∈L):
 Pl ops L pk (j::ek) (listed.setIfInBounds j true):=by
 have hlt:j<listed.size:=by rw[h.sz];exact a3c hj
 refine⟨by simp[h.sz],h.Llt,fun k=>?_,fun k hk=>?_,fun k hk=>?_,h.pL,fun k o hk ho d hdk=>?_,h.pnd,h.pord,h.pself,h.Ld,h.pfree⟩
 ·rw[b2L hlt,h.list];simp only[u9];constructor
  ·rintro(h1|h1|h1)
   ·exact .inr (.inl h1)
   ·exact .inl h1
   ·exact .inr (.inr h1)
  ·rintro(h1|h1|h1)
   ·exact .inr (.inl h1)
   ·exact .inl h1
   ·exact .inr (.inr h1)
 ·rcases u9.1 hk with rfl|hk
  ·exact hL
  ·exact h.eL k hk
 ·rcases u9.1 hk with rfl|hk
  ·exact⟨oj,hj,ha,hdL⟩
  ·exact h.eA k hk
 ·rw[b2L hlt]at hk⊢;rcases hk with rfl|hk
  ·rw[hj]at ho;cases ho;exact .inr (hd d hdk)
  ·exact .inr (h.down k o hk ho d hdk)
theorem c3k(h:c5a ops oi i L=true):∀j oj,ops[j]?=some oj→j∉i::L→i∈P7 oj∨oi.apart ops oj=true:=by
 intro j oj hj hn;simp only[u9,not_or]at hn;have:=V6.1 h j (by simpa using a3c hj)
 simp only[hj,Bool.or_eq_true,E1]at this;rcases this with h1|h1|h1|h1
 ·exact absurd h1 hn.2
 ·exact absurd (z7 h1) hn.1
 ·exact .inl h1
 ·exact .inr h1
theorem Pl.virt(h:Pl ops L pk ek listed)(hi:ops[i]?=some oi)(hL:i∉L)(he:i∉ek)(hd:∀d,d∈P7 oi→d∈L)(hf:c5a ops oi i L=true):Pl ops (i::L) (i::pk) ek listed:=by
 refine⟨h.sz,fun j hj=>?_,fun k=>?_,fun k hk hm=>?_,fun k hk=>?_,fun k hk=>?_,h.down,a4i.2 ⟨fun hm=>hL (h.pL i hm),h.pnd⟩,?_,fun p o hp ho=>?_,fun k o hk ho d hdk=>?_,fun p hp op hop j oj hj hn=>?_⟩
 ·rcases u9.1 hj with rfl|hj
  ·exact a3c hi
  ·exact h.Llt j hj
 ·rw[h.list];simp only[u9,not_or];constructor
  ·rintro(⟨h1,h2⟩|h1)
   ·exact .inl ⟨.inr h1,fun e=>hL (e▸h1),h2⟩
   ·exact .inr h1
  ·rintro(⟨h1|h1,h2,h3⟩|h1)
   ·exact absurd h1 h2
   ·exact .inl ⟨h1,h3⟩
   ·exact .inr h1
 ·rcases u9.1 hm with rfl|hm
  ·exact he hk
  ·exact h.eL k hk hm
 ·obtain⟨o,h1,h2,h3⟩:=h.eA k hk;exact⟨o,h1,h2,fun d hd=>F6 _ (h3 d hd)⟩
 ·rcases u9.1 hk with rfl|hk
  ·exact C7
  ·exact F6 _ (h.pL k hk)
 ·rw[b2P];exact⟨fun y hy o ho hm=>hL (h.Ld y o (h.pL y hy) ho i hm),h.pord⟩
 ·rcases u9.1 hp with rfl|hp
  ·rw[hi]at ho;cases ho;exact fun hm=>hL (hd _ hm)
  ·exact h.pself p o hp ho
 ·rcases u9.1 hk with rfl|hk
  ·rw[hi]at ho;cases ho;exact F6 _ (hd d hdk)
  ·exact F6 _ (h.Ld k o hk ho d hdk)
 ·rcases u9.1 hp with rfl|hp
  ·rw[hi]at hop;cases hop;exact c3k hf j oj hj hn
  ·exact h.pfree p hp op hop j oj hj fun hm=>hn (F6 _ hm)
theorem Pl.inst(h:Pl ops L pk ek listed)(hi:ops[i]?=some oi)(he:i∈ek)(hd:∀d,d∈P7 oi→d∈L):Pl ops (i::L) pk (ek.filter fun p=> !Nat.beq p i) listed:=by
 have hmem:∀p,p∈ek.filter (fun p=> !Nat.beq p i)↔p∈ek∧p≠i:=c4B
 refine⟨h.sz,fun j hj=>?_,fun k=>?_,fun k hk hm=>?_,fun k hk=>?_,fun j hj=>F6 _ (h.pL j hj),h.down,h.pnd,h.pord,h.pself,fun k o hk ho d hdk=>?_,
  fun p hp op hop j oj hj hn=>h.pfree p hp op hop j oj hj fun hm=>hn (F6 _ hm)⟩
 ·rcases u9.1 hj with rfl|hj
  ·exact a3c hi
  ·exact h.Llt j hj
 ·rw[h.list,hmem];simp only[u9];constructor
  ·rintro(⟨h1,h2⟩|h1)
   ·exact .inl ⟨.inr h1,h2⟩
   ·by_cases hk:k=i
    ·exact .inl ⟨.inl hk,fun hm=>h.eL k h1 (h.pL k hm)⟩
    ·exact .inr ⟨h1,hk⟩
  ·rintro(⟨rfl|h1,h2⟩|⟨h1,_⟩)
   ·exact .inr he
   ·exact .inl ⟨h1,h2⟩
   ·exact .inr h1
 ·rw[hmem]at hk;rcases u9.1 hm with rfl|hm
  ·exact hk.2 rfl
  ·exact h.eL k hk.1 hm
 ·obtain⟨o,h1,h2,h3⟩:=h.eA k ((hmem k).1 hk).1;exact⟨o,h1,h2,fun d hd=>F6 _ (h3 d hd)⟩
 ·rcases u9.1 hk with rfl|hk
  ·rw[hi]at ho;cases ho;exact F6 _ (hd d hdk)
  ·exact F6 _ (h.Ld k o hk ho d hdk)
theorem Pl.exec(h:Pl ops L pk ek listed)(hi:ops[i]?=some oi)(hL:i∉L)(he:i∉ek)(hd:∀d,d∈P7 oi→d∈L)(hdl:∀d,d∈P7 oi→Ls listed d):
 Pl ops (i::L) pk ek (listed.setIfInBounds i true):=by
 have hlt:i<listed.size:=by rw[h.sz];exact a3c hi
 refine⟨by simp[h.sz],fun j hj=>?_,fun k=>?_,fun k hk hm=>?_,fun k hk=>?_,fun k hk=>F6 _ (h.pL k hk),fun k o hk ho d hdk=>?_,h.pnd,h.pord,h.pself,fun k o hk ho d hdk=>?_,
  fun p hp op hop j oj hj hn=>h.pfree p hp op hop j oj hj fun hm=>hn (F6 _ hm)⟩
 ·rcases u9.1 hj with rfl|hj
  ·exact a3c hi
  ·exact h.Llt j hj
 ·rw[b2L hlt,h.list];simp only[u9];constructor
  ·rintro(rfl|⟨h1,h2⟩|h1)
   ·exact .inl ⟨.inl rfl,fun hm=>hL (h.pL _ hm)⟩
   ·exact .inl ⟨.inr h1,h2⟩
   ·exact .inr h1
  ·rintro(⟨h1|h1,h2⟩|h1)
   ·exact .inl h1
   ·exact .inr (.inl ⟨h1,h2⟩)
   ·exact .inr (.inr h1)
 ·rcases u9.1 hm with rfl|hm
  ·exact he hk
  ·exact h.eL k hk hm
 ·obtain⟨o,h1,h2,h3⟩:=h.eA k hk;exact⟨o,h1,h2,fun d hd=>F6 _ (h3 d hd)⟩
 ·rw[b2L hlt]at hk⊢;rcases hk with rfl|hk
  ·rw[hi]at ho;cases ho;exact .inr (hdl d hdk)
  ·exact .inr (h.down k o hk ho d hdk)
 ·rcases u9.1 hk with rfl|hk
  ·rw[hi]at ho;cases ho;exact F6 _ (hd d hdk)
  ·exact F6 _ (h.Ld k o hk ho d hdk)
theorem d1y{r:Nat→Nat→Prop}(l:List Nat)(hne:l≠ [])(hp:l.Pairwise fun x y=>r x y)(hs:∀p,p∈l→r p p):∃p,p∈l∧∀q,q∈l→r q p:=by
 induction l with
 |nil=>exact absurd rfl hne
 |cons x l ih=>
  rw[b2P]at hp;by_cases hl:l=[]
  ·subst hl;exact⟨x,by simp,fun q hq=>by simp at hq;subst hq;exact hs q (by simp)⟩
  ·obtain⟨p,h1,h2⟩:=ih hl hp.2 fun p hp=>hs p (F6 _ hp)
   refine⟨p,F6 _ h1,fun q hq=>?_⟩;rcases u9.1 hq with rfl|hq
   ·exact hp.1 p h1
   ·exact h2 q hq
theorem Pl.pend_ready(h:Pl ops L pk ek listed)(hne:pk≠ []):Region.ready .any ops listed≠ []:=by
 obtain⟨p,h1,h2⟩:=d1y (r:=fun x y=>∀o,ops[y]?=some o→x∉P7 o) pk hne h.pord fun p hp o ho=>h.pself p o hp ho
 have hlt:=h.Llt p (h.pL p h1)
 have:p∈Region.ready .any ops listed:=by
  rw[a9y h.sz];refine⟨hlt,fun hl=>?_,ops[p],by simp[hlt],fun d hd=>?_⟩
  ·rcases(h.list p).1 hl with⟨_,h3⟩|h3
   ·exact h3 h1
   ·exact h.eL p h3 (h.pL p h1)
  ·have hdL:=h.Ld p ops[p] (h.pL p h1) (by simp[hlt]) d hd;exact(h.list d).2 (.inl ⟨hdL,fun hp=>h2 d hp ops[p] (by simp[hlt]) hd⟩)
 intro e;rw[e]at this;cases this
theorem Pl.head_ready(h:Pl ops L [] ek listed)(hi:ops[i]?=some oi)(hL:i∉L)(he:i∉ek)(hd:∀d,d∈P7 oi→d∈L):Region.ready .any ops listed≠ []:=by
 have:i∈Region.ready .any ops listed:=by
  rw[a9y h.sz];refine⟨a3c hi,fun hl=>?_,oi,hi,fun d hdd=>(h.list d).2 (.inl ⟨hd d hdd,by simp⟩)⟩;rcases(h.list i).1 hl with⟨h3,_⟩|h3
  ·exact hL h3
  ·exact he h3
 intro e;rw[e]at this;cases this
theorem Pl.ready(h:Pl ops L pk ek listed)(hj:j∈Region.ready .any ops listed):∃oj,ops[j]?=some oj∧(∀d,d∈P7 oj→Ls listed d)∧j∉ek∧(j∈pk∨j∉L):=by
 obtain⟨h1,h2,oj,h3,h4⟩:=(a9y h.sz).1 hj;refine⟨oj,h3,h4,fun he=>h2 ((h.list j).2 (.inr he)),?_⟩;by_cases hL:j∈L
 ·left;by_cases hp:j∈pk
  ·exact hp
  ·exact absurd ((h.list j).2 (.inl ⟨hL,hp⟩)) h2
 ·exact .inr hL
theorem Pl.early_in(h:Pl ops L pk ek listed):∀e,e∈ek→e∈a1O ops L:=by
 intro e he;obtain⟨o,h1,h2,h3⟩:=h.eA e he;simp only[a1O,a9b,a5U,h1,D7,h2,a5J,U2];refine⟨a3c h1,?_,a1U.2 h3⟩;cases hm:O2 e L with
 |false=>rfl
 |true=>exact absurd (E1.1 hm) (h.eL e he)
theorem a8Q(h:j∈a1O ops L)(hj:ops[j]?=some oj):A1 oj=true∧(∀d,d∈P7 oj→d∈L):=by
 simp only[a1O,a9b,a5U,hj,D7]at h;exact⟨h.2.2.1,a1U.1 h.2.2.2⟩
theorem Pl.deps_in(h:Pl ops L pk ek listed)(hd:∀d,d∈P7 oj→Ls listed d):b4n (P7 oj) (a1O ops L++L)=true:=by
 rw[a1U];intro d hdd;rcases(h.list d).1 (hd d hdd)with⟨h1,_⟩|h1
 ·exact a6p _ h1
 ·exact a6P _ (h.early_in d h1)
theorem c5o(h:Pl ops L pk ek listed):∀(n:Nat) (l:List Nat),(∀d,d∈l→Ls listed d)→∀d,d∈d0n ops n l→Ls listed d
 |0,l,hl=>hl
 |n+1,l,hl=>by
  simp only[d0n];refine c5o h n _ fun d hd=>?_
  rcases E3.1 hd with hd|hd
  ·exact hl d hd
  ·obtain⟨j,hj,hdj⟩:=List.mem_flatMap.1 hd;cases ho:ops[j]? with
   |none=>simp[ho]at hdj
   |some o=>simp only[ho]at hdj;exact h.down j o (hl j hj) ho d hdj
theorem Pl.late(h:Pl ops L pk ek listed)(hd:∀d,d∈P7 oj→Ls listed d){S:List Nat}(hl:c2I ops oj L S=true){p:Nat}{op:Oper}(hp:p∈pk)(hop:ops[p]?=some op)(hld:a8T op.op=true):p∈S:=by
 have:=V6.1 hl p (h.pL p hp);simp only[hop,hld,a2R,Bool.false_or,Bool.or_eq_true,E1]at this;rcases this with h1|h1
 ·exact h1
 ·have h2:=c5o h 4 (P7 oj) hd p h1;rcases(h.list p).1 h2 with⟨_,h3⟩|h3
  ·exact absurd hp h3
  ·exact absurd (h.pL p hp) (h.eL p h3)
theorem Pl.only(h:Pl ops L pk ek listed){al:List Nat}(ho:d0R ops al i L=true)(hj:ops[j]?=some oj)(hL:j∉L)(hd:∀d,d∈P7 oj→Ls listed d):j=i∨j∈a1O ops L∨j∈al:=by
 have:=V6.1 ho j (by simpa using a3c hj)
 simp only[hj,Bool.or_eq_true,E1,h.deps_in hd,a2R,M4,or_false]at this;rcases this with h1|(h1|h1)|h1
 ·exact absurd h1 hL
 ·exact .inr (.inr h1)
 ·exact .inl (z7 h1)
 ·exact .inr (.inl h1)
theorem Pl.turn(h:Pl ops L pk ek listed)(ho:d0P ops i L=true)(hj:ops[j]?=some oj)(hL:j∉L)(hd:∀d,d∈P7 oj→Ls listed d)(hn:i∉ek):j=i∨j∈a1O ops L:=by
 have:=V6.1 ho j (by simpa using a3c hj)
 simp only[hj,Bool.or_eq_true,E1]at this;rcases this with h1|h1|h1|h1
 ·exact absurd h1 hL
 ·exact .inl (z7 h1)
 ·exact .inr h1
 ·exfalso
  have:b4n (P7 oj) ((a1O ops L).filter (!Nat.beq · i)++L)=true:=by
   rw[a1U];intro d hdd;rcases(h.list d).1 (hd d hdd)with⟨h3,_⟩|h3
   ·exact a6p _ h3
   ·refine a6P _ (a9b.2 ⟨h.early_in d h3,?_⟩);have:d≠i:=fun e=>hn (e▸h3)
    simp[S9 this]
  rw[this]at h1;cases h1
end
end
end Go.Sx
