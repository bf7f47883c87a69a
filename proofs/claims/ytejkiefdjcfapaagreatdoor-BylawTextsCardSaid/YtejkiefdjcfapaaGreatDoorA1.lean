/- A reflective walk over the code of the model: its definitions and that it is sound. -/
import Derived.WalkKit
import Derived.Orders
import Derived.Laws.StructEq
import Derived.Below
import Derived.ChangeKeysEq
import Derived.MapKept
import Derived.Laws.MakeOwn
import Derived.Laws.Cover3
import Derived.Deep.LoopGhost
set_option linter.unusedVariables false
set_option linter.unusedSimpArgs false
namespace Go.Sx
open Go Go.RowKit
inductive SV where
 |v (x:Value)
 |own (k o:Nat)
 |ownx (k o:Nat)
 |osl (k o n c:Nat)
 |row (k:Nat)
 |agg (l:List SV)
 |tup (l:List SV)
 |fn (f:FuncId) (first caps:List SV)
 |bad
inductive CK where
 |int (k:IntKind)|bool|str
 deriving DecidableEq
def typedC:CK→Value→Prop
 | .int k, .int k' _=>k'=k
 | .bool, .bool _=>True
 | .str, .string _=>True
 |_,_=>False
def typedCs:List CK→List Value→Prop
 | [], []=>True
 |k::ks,x::xs=>typedC k x∧typedCs ks xs
 |_,_=>False
def eqV:Value→Value→Bool
 | .int _ a, .int _ b=>a==b
 | .bool a, .bool b=>a==b
 | .string a, .string b=>a.toList==b.toList
 |_,_=>false
def eqVs:List Value→List Value→Bool
 |x::xs,y::ys=>eqV x y&&eqVs xs ys
 |_,_=>true
structure MTy where
 t:TypeId
 kt:TypeId
 et:TypeId
 ks:List CK
 ag:Bool
 z:Value
def cellsK:Value→List Value
 | .agg a=>a.toList
 |x=> [x]
def plV:Value→Bool
 | .int _ _=>true
 | .bool _=>true
 | .string _=>true
 |_=>false
def keyOK (m:MTy) (k:Value):Prop:=match m.ag,k with
 |true, .agg a=>typedCs m.ks a.toList
 |false, .agg _=>False
 |false,x=>typedCs m.ks [x]
 |_,_=>False
inductive Ent where
 |blk (b:Nat) (cs:List SV) (ty:TypeId)
 |row (val:Value) (n:Nat) (xs:List Value) (sz:Nat) (ty:TypeId)
 |mp (b:Nat) (es:List (Value×Value)) (ty:MTy)
abbrev Hp:=List (Nat×Ent)
def isR:Ent→Bool
 | .blk _ _ _=>false
 |_=>true
def blkOf:Value→Nat
 | .slice (some a) _ _=>a.block
 |_=>0
def findE:Hp→Nat→Option Ent
 | [],_=>none
 |(k',e)::H,k=>match Nat.beq k' k with|true=>some e|false=>findE H k
def bOf (H:Hp) (k:Nat):Nat:=match findE H k with
 |some (.blk b _ _)=>b
 |some (.row v _ _ _ _)=>blkOf v
 |some (.mp b _ _)=>b
 |none=>0
def rowVal (H:Hp) (k:Nat):Value:=match findE H k with
 |some (.row v _ _ _ _)=>v
 |some (.mp b _ _)=> .map (some b)
 |_=>undef
def capOf (v:Value) (c:Nat):Nat:=match v with| .slice _ _ cap=>cap-c|_=>c
mutual
def den (H:Hp):SV→Value
 | .v x=>x
 | .own k o=> .pointer (some ⟨bOf H k,o,none⟩)
 | .ownx k o=> .pointer (some ⟨bOf H k,o,none⟩)
 | .osl k o n c=> .slice (some ⟨bOf H k,o,none⟩) n (capOf (rowVal H k) c)
 | .row k=>rowVal H k
 | .agg l=> .agg (denL H l).toArray
 | .tup l=> .tuple (denL H l).toArray
 | .fn f first caps=> .func (.func f) (denL H first).toArray (denL H caps).toArray
 | .bad=>undef
def denL (H:Hp):List SV→List Value
 | []=> []
 |s::l=>den H s::denL H l
end
mutual
def ment (k:Nat):SV→Bool
 | .v _=>false
 | .own j _=>Nat.beq j k
 | .ownx j _=>Nat.beq j k
 | .osl j _ _ _=>Nat.beq j k
 | .row j=>Nat.beq j k
 | .agg l=>mentL k l
 | .tup l=>mentL k l
 | .fn _ f c=>match mentL k f with|true=>true|false=>mentL k c
 | .bad=>false
def mentL (k:Nat):List SV→Bool
 | []=>false
 |s::l=>match ment k s with|true=>true|false=>mentL k l
end
def hide (k:Nat) (s:SV):SV:=match ment k s with|true=> .bad|false=>s
def freshH (k:Nat):Hp→Bool
 | []=>true
 |(_, .blk _ cs _)::H=>match mentL k cs with|true=>false|false=>freshH k H
 |(_, .row _ _ _ _ _)::H=>freshH k H
 |(_, .mp _ _ _)::H=>freshH k H
def freshT (k:Nat):List (Nat×SV)→Bool
 | []=>true
 |(_,s)::T=>match ment k s with|true=>false|false=>freshT k T
def hideL (k:Nat):List SV→List SV
 | []=> []
 |s::l=>hide k s::hideL k l
inductive TD where
 |int|bool|str|other
 |slice (e esz bytes:Nat)
 |arr (len e esz:Nat)
 |struct (fs:List (Nat×Nat×Nat))
structure TI where
 n:Nat
 agg:Bool
 z:List Value
 eq:Option (List CK)
 d:TD
def getT:List (Nat×TI)→Nat→Option TI
 | [],_=>none
 |(k,i)::r,t=>match Nat.beq k t with|true=>some i|false=>getT r t
def getP {α:Type}:List (Nat×α)→Nat→Option α
 | [],_=>none
 |(k,i)::r,t=>match Nat.beq k t with|true=>some i|false=>getP r t
def plainKT (P:Program) (t:TypeId):Bool:=match P.underlying t with
 |some .bool=>true
 |some (.int _)=>true
 |some .string=>true
 |_=>false
def keyTB (P:Program) (kt:TypeId) (n:Nat):Bool:=match P.underlying kt with
 |some (.struct F)=>F.toList.all fun f=>f.name != "_" &&plainKT P f.type&&Nat.blt f.offset n
 |_=>plainKT P kt
structure MTok (P:Program) (tt:List (Nat×TI)) (m:MTy):Prop where
 und:P.underlying m.t=some (.map m.kt m.et)
 key:(getT tt m.kt).map (fun i=>(i.eq,i.agg))=some (some m.ks,m.ag)
 kb:keyTB P m.kt m.ks.length=true
 z:(P.info? m.et).map (·.zero)=some (some m.z)
 pz:plV m.z=true
def mkKey (ag:Bool) (xs:List Value):Value:=match ag with|true=> .agg xs.toArray|false=>xs.headD undef
def lkpV:List (Value×Value)→List Value→Option Value
 | [],_=>none
 |(k,v)::r,kc=>match eqVs kc (cellsK k)with|true=>some v|false=>lkpV r kc
def updV (kv x:Value):List (Value×Value)→List Value→List (Value×Value)
 | [],_=> [(kv,x)]
 |(k,v)::r,kc=>match eqVs kc (cellsK k)with|true=>(kv,x)::r|false=>(k,v)::updV kv x r kc
abbrev PI:=Nat×List Nat×Bool
inductive PT where
 |nil
 |op (i:Nat) (S:List Nat) (fl:Bool) (rest:PT)
 |fork (a b:PT)
def PT.pre:List PI→PT→PT
 | [],t=>t
 |(i,S,fl)::r,t=> .op i S fl (PT.pre r t)
def PT.of (l:List PI):PT:=PT.pre l .nil
structure Cx where
 P:Program
 tt:List (Nat×TI)
 w0:World
 bor:List Nat
 nt:Nat
 pl:List (Nat×PT)
 dfs:List Deferred
 sv:List Value
structure St where
 T:List (Nat×SV)
 H:Hp
 nk:Nat
 w:World
 lo:Nat
 iv:List (Nat×Nat)
def look:List (Nat×SV)→Nat→Option SV
 | [],_=>none
 |(d,s)::T,k=>match Nat.beq d k with|true=>some s|false=>look T k
abbrev gbase:Nat:=1000000
def lookR (T:List (Nat×SV)) (d:Nat):Option SV:=match Nat.blt d 1000000 with|true=>look T d|false=>none
def ev (st:St):Operand→Option SV
 | .tmp t=>match lookR st.T t with|some .bad=>none|r=>r
 | .const v=>some (.v v)
 | .func f=>some (.fn f [] [])
 | .global g=>some (.v (.pointer (some ⟨g,0,none⟩)))
def evs (st:St):List Operand→Option (List SV)
 | []=>some []
 |x::l=>match ev st x,evs st l with|some s,some r=>some (s::r)|_,_=>none
abbrev VIf (b:Bool) (p q:Prop):Prop:=match b with|true=>p|false=>q
theorem VIf.mk {b:Bool} {p q:Prop} (h1:b=true→p) (h2:b=false→q):VIf b p q:=by cases b;exact h2 rfl;exact h1 rfl
theorem VIf.t {b:Bool} {p q:Prop} (h:b=true) (h1:p):VIf b p q:=by subst h;exact h1
theorem VIf.f {b:Bool} {p q:Prop} (h:b=false) (h1:q):VIf b p q:=by subst h;exact h1
def oneV:Value→Bool
 | .agg _=>false
 | .tuple _=>false
 |_=>true
def oneS (H:Hp):SV→Bool
 | .v x=>oneV x
 | .own _ _=>true
 | .ownx _ _=>true
 | .osl _ _ _ _=>true
 | .row k=>match findE H k with|some (.row _ _ _ _ _)=>true|some (.mp _ _ _)=>true|_=>false
 | .fn _ _ _=>true
 |_=>false
def oneL (H:Hp):List SV→Bool
 | []=>true
 |s::l=>match oneS H s with|true=>oneL H l|false=>false
def takeN:Nat→List SV→Option (List SV)
 |0,_=>some []
 |_+1, []=>none
 |_+1, .bad::_=>none
 |n+1,x::l=>match takeN n l with|some r=>some (x::r)|none=>none
def dropN:Nat→List SV→List SV
 |0,l=>l
 |_+1, []=> []
 |n+1,_::l=>dropN n l
def over {α:Type}:Nat→List α→List α→Option (List α)
 |0, [],l=>some l
 |0,x::xs,_::l=>match over 0 xs l with|some r=>some (x::r)|none=>none
 |0,_::_, []=>none
 |_+1,_, []=>none
 |n+1,xs,y::l=>match over n xs l with|some r=>some (y::r)|none=>none
def mkv (agg:Bool) (l:List SV):Option SV:=
 match agg,l with
 |true,l=>some (.agg l)
 |false, [x]=>some x
 |false,_=>none
def vs:List Value→List SV
 | []=> []
 |x::l=> .v x::vs l
def cellsL:SV→Option (List SV)
 | .agg l=>some l
 | .v (.agg a)=>some (vs a.toList)
 | .v (.tuple _)=>none
 | .tup _=>none
 | .bad=>none
 |s=>some [s]
def aggL:SV→Option (List SV)
 | .agg l=>some l
 | .v (.agg a)=>some (vs a.toList)
 |_=>none
def cellsA:Bool→SV→Option (List SV)
 |true, .agg l=>some l
 |true, .v (.agg a)=>some (vs a.toList)
 |false, .v (.bool b)=>some [.v (.bool b)]
 |_,_=>none
inductive Out where
 |val (s:SV)
 |new (cs:List SV) (ty:TypeId) (sl:Option Nat)
 |call (f:FuncId) (args:List SV)
 |upd (key:Nat) (cs:List SV)
 |updR (key:Nat) (xs:List Value)
 |app (e esz bytes:Nat) (s x:SV)
structure Fx (own:List Nat) (w wc:World):Prop where
 os:wc.os=w.os
 tape:wc.tape=w.tape
 output:wc.output=w.output
 size:w.heap.size≤wc.heap.size
 block:∀i,i<w.heap.size→(∀b,b∈own→b≠i)→wc.heap[i]?=w.heap[i]?
def ownB:Value→List Nat
 | .slice (some a) _ _=> [a.block]
 |_=> []
def bsE:Ent→List Nat
 | .blk b _ _=> [b]
 | .row v _ _ _ _=>ownB v
 | .mp b _ _=> [b]
def bs:Hp→List Nat
 | []=> []
 |(_,e)::H=>bsE e++bs H
def neAll (H:Hp) (i:Nat):Prop:=∀b,b∈bs H→b≠i
def neBor:List Nat→Nat→Prop
 | [],_=>True
 |b::l,i=>b≠i∧neBor l i
def ltAll (H:Hp) (n:Nat):Prop:=∀b,b∈bs H→b<n
def ivOK:List (Nat×Nat)→Nat→Prop
 | [],_=>True
 |(n,m)::l,b=>(b<n∨m≤b)∧ivOK l b
def FRead (X:Cx) (H:Hp) (w:World) (b o n:Nat) (cs:List Value):Prop:=
 cs.length=n∧((b<X.w0.heap.size∧neBor X.bor b∧∀j,j<n→X.w0.cell? ⟨b,o+j,none⟩=cs[j]?)∨
  (neAll H b∧∀j,j<n→w.cell? ⟨b,o+j,none⟩=cs[j]?))
def MRead (X:Cx) (H:Hp) (w:World) (r:Nat) (es:Array MapEntry) (c:Nat):Prop:=
 (r<X.w0.heap.size∧neBor X.bor r∧X.w0.heap[r]?=some (.map es c))∨(neAll H r∧w.heap[r]?=some (.map es c))
def valOf (agg:Bool) (cs:List Value):Option SV:=
 match agg,cs with
 |true,cs=>some (.agg (vs cs))
 |false, [x]=>some (.v x)
 |false,_=>none
def kEq:IntKind→IntKind→Bool
 | .i64, .i64=>true
 | .u8, .u8=>true
 | .i32, .i32=>true
 | .u64, .u64=>true
 | .u32, .u32=>true
 | .i16, .i16=>true
 | .u16, .u16=>true
 | .i8, .i8=>true
 |_,_=>false
def eqC:CK→SV→SV→Option Bool
 | .int k, .v (.int ka a), .v (.int kb b)=>match kEq k ka,kEq k kb with|true,true=>some (a==b)|_,_=>none
 | .bool, .v (.bool a), .v (.bool b)=>some (a==b)
 | .str, .v (.string a), .v (.string b)=>some (a.toList==b.toList)
 |_,_,_=>none
def eqCs:List CK→List SV→List SV→Option Bool
 | [], [], []=>some true
 | [k], [x], [y]=>eqC k x y
 |k::ks,x::l,y::r=>match eqC k x y,eqCs ks l r with|some a,some b=>some (a&&b)|_,_=>none
 |_,_,_=>none
def nthF:List (Nat×Nat×Nat)→Nat→Option (Nat×Nat×Nat)
 | [],_=>none
 |f::_,0=>some f
 |_::l,n+1=>nthF l n
def intOp (op:BinOp) (k:IntKind) (a b:Int) (K:Out→Prop):Prop:=
 match op with
 | .add=>K (.val (.v (.int k (k.wrap (a+b)))))
 | .sub=>K (.val (.v (.int k (k.wrap (a-b)))))
 | .mul=>K (.val (.v (.int k (k.wrap (a*b)))))
 | .quo=>b≠0∧K (.val (.v (.int k (k.wrap (a.tdiv b)))))
 | .rem=>b≠0∧K (.val (.v (.int k (a.tmod b))))
 | .eql=>K (.val (.v (.bool (a==b))))
 | .neq=>K (.val (.v (.bool (a !=b))))
 | .lss=>K (.val (.v (.bool (decide (a<b)))))
 | .leq=>K (.val (.v (.bool (decide (a≤b)))))
 | .gtr=>K (.val (.v (.bool (decide (a>b)))))
 | .geq=>K (.val (.v (.bool (decide (a≥b)))))
 | .and=>K (.val (.v (.int k (k.wrap (BitVec.ofInt k.bits a&&&BitVec.ofInt k.bits b).toNat))))
 | .or=>K (.val (.v (.int k (k.wrap (BitVec.ofInt k.bits a|||BitVec.ofInt k.bits b).toNat))))
 | .xor=>K (.val (.v (.int k (k.wrap (BitVec.ofInt k.bits a^^^BitVec.ofInt k.bits b).toNat))))
 | .andNot=>K (.val (.v (.int k (k.wrap (BitVec.ofInt k.bits a&&& ~~~BitVec.ofInt k.bits b).toNat))))
 |_=>False
def isSh:BinOp→Bool
 | .shl=>true
 | .shr=>true
 |_=>false
def shOp (op:BinOp) (k:IntKind) (a b:Int) (K:Out→Prop):Prop:=
 match op with
 | .shl=>0≤b∧K (.val (.v (.int k (k.wrap (a*2^(min b.toNat k.bits))))))
 | .shr=>0≤b∧K (.val (.v (.int k (a.fdiv (2^(min b.toNat k.bits))))))
 |_=>False
def strOp (op:BinOp) (a b:ByteArray) (K:Out→Prop):Prop:=
 match op with
 | .eql=>K (.val (.v (.bool (a.toList==b.toList))))
 | .neq=>K (.val (.v (.bool (!(a.toList==b.toList)))))
 | .lss=>K (.val (.v (.bool (Op.bytesLess a.toList b.toList))))
 | .add=>((a.size+b.size:Nat):Int)≤9223372036854775807∧K (.val (.v (.string (a++b))))
 |_=>False
def boolOp (op:BinOp) (e:Bool) (K:Out→Prop):Prop:=
 match op with
 | .eql=>K (.val (.v (.bool e)))
 | .neq=>K (.val (.v (.bool (!e))))
 |_=>False
def kval (K:Out→Prop):Option SV→Prop
 |some s=>K (.val s)
 |none=>False
def subA (a:Option Addr) (l m esz:Nat):Option Addr:=if m=l then a else a.map (·.add (l*esz))
def bnd (st:St) (len cap:Nat) (lo hi mx:Option Operand) (K:Nat→Nat→Nat→Prop):Prop:=
 match mx with
 |none=>match hi with
  |none=>match lo with
   |none=>K 0 len cap
   |some l=>match ev st l with
    |some (.v (.int _ z))=>(0≤z∧z≤len)∧K z.toNat len cap
    |_=>False
  |some h=>match ev st h with
   |some (.v (.int _ y))=>(0≤y∧y≤cap)∧match lo with
    |none=>K 0 y.toNat cap
    |some l=>match ev st l with
     |some (.v (.int _ z))=>(0≤z∧z≤y)∧K z.toNat y.toNat cap
     |_=>False
   |_=>False
 |some m=>match ev st m,hi with
  |some (.v (.int _ x)),some h=>(0≤x∧x≤cap)∧match ev st h with
   |some (.v (.int _ y))=>(0≤y∧y≤x)∧match lo with
    |none=>K 0 y.toNat x.toNat
    |some l=>match ev st l with
     |some (.v (.int _ z))=>(0≤z∧z≤y)∧K z.toNat y.toNat x.toNat
     |_=>False
   |_=>False
  |_,_=>False
def evBuiltin (X:Cx) (st:St) (b:Builtin) (args:List Operand) (tys:List TypeId) (K:Out→Prop):Prop:=
 match b,tys with
 | .len,t::_=>match getT X.tt t,evs st args with
  |some ⟨_,_,_,_, .slice _ _ _⟩,some [.v (.slice _ n _)]=>K (.val (.v (.int .i64 n)))
  |some ⟨_,_,_,_, .slice _ _ _⟩,some [.osl _ _ n _]=>K (.val (.v (.int .i64 n)))
  |some ⟨_,_,_,_, .slice _ _ _⟩,some [.row k]=>match findE st.H k with
   |some (.row _ n _ _ _)=>K (.val (.v (.int .i64 n)))
   |_=>False
  |some ⟨_,_,_,_, .str⟩,some [.v (.string s)]=>K (.val (.v (.int .i64 s.size)))
  |_,_=>False
 | .max,_=>match evs st args with
  |some [.v (.int ka a), .v (.int _ b)]=>K (.val (.v (.int ka (if b>a then b else a))))
  |some [.v (.int ka a), .v (.int _ b), .v (.int _ c)]=>K (.val (.v (.int ka (if c>(if b>a then b else a)then c else(if b>a then b else a)))))
  |_=>False
 | .min,_=>match evs st args with
  |some [.v (.int ka a), .v (.int _ b)]=>K (.val (.v (.int ka (if b<a then b else a))))
  |_=>False
 | .append,t::u::_=>match Nat.beq t u,getT X.tt t,evs st args with
  |true,some ⟨_,_,_,_, .slice e esz bytes⟩,some [s,x]=>match getT X.tt e with
   |some i=>match Nat.beq i.n esz with
    |true=>K (.app e esz bytes s x)
    |false=>False
   |none=>False
  |_,_,_=>False
 |_,_=>False
def fieldOf (X:Cx) (fs:List (Nat×Nat×Nat)) (f:Nat) (s:SV) (K:Out→Prop):Prop:=
 match nthF fs f,aggL s with
 |some (fty,off,n),some l=>match getT X.tt fty,takeN n (dropN off l)with
  |some i,some r=>match Nat.beq i.n n with
   |true=>kval K (mkv i.agg r)
   |false=>False
  |_,_=>False
 |_,_=>False
def fillS (fs:List (Nat×Nat×Nat)) (st:St):List (Nat×Operand)→List SV→Option (List SV)
 | [],l=>some l
 |(i,x)::ps,l=>match nthF fs i,ev st x with
  |some (_,off,n),some s=>match cellsL s with
   |some cs=>match Nat.beq cs.length n,oneL st.H cs with
    |true,true=>match over off cs l with
     |some r=>fillS fs st ps r
     |none=>none
    |_,_=>none
   |none=>none
  |_,_=>none
def fillA (esz:Nat) (st:St):List (Nat×Operand)→List SV→Option (List SV)
 | [],l=>some l
 |(i,x)::ps,l=>match ev st x with
  |some s=>match cellsL s with
   |some cs=>match Nat.beq cs.length esz,oneL st.H cs with
    |true,true=>match over (i*esz) cs l with
     |some r=>fillA esz st ps r
     |none=>none
    |_,_=>none
   |none=>none
  |_=>none
def repL:Nat→List SV→List SV
 |0,_=> []
 |n+1,l=>l++repL n l
def loadOf (X:Cx) (st:St) (i:TI) (p:SV) (K:Out→Prop):Prop:=
 match p with
 | .own k o=>match findE st.H k with
  |some (.blk _ cs _)=>match takeN i.n (dropN o cs)with
   |some l=>kval K (mkv i.agg l)
   |none=>False
  |_=>False
 | .ownx k o=>match findE st.H k with
  |some (.blk _ cs _)=>∃l,(takeN i.n (dropN o cs)=some l)∧kval K (mkv i.agg l)
  |some (.row _ n xs sz _)=>∃l:List Value,(l.length=i.n∧o+i.n≤n*sz∧∀j,j<i.n→xs[o+j]?=l[j]?)∧kval K (valOf i.agg l)
  |_=>False
 | .v (.pointer (some ⟨b,o,none⟩))=>∃cs,FRead X st.H st.w b o i.n cs∧kval K (valOf i.agg cs)
 |_=>False
def storeOf (st:St) (i:TI) (p s:SV) (K:Out→Prop):Prop:=
 match cellsL s with
 |some l=>match Nat.beq l.length i.n,oneL st.H l with
  |true,true=>match p with
   | .own k o=>match findE st.H k with
    |some (.blk _ cs _)=>match over o l cs with
     |some cs'=>K (.upd k cs')
     |none=>False
    |_=>False
   | .ownx k o=>match findE st.H k with
    |some (.blk _ cs _)=>∃cs',over o l cs=some cs'∧K (.upd k cs')
    |some (.row _ _ xs _ _)=>∃xs',over o (denL st.H l) xs=some xs'∧K (.updR k xs')
    |_=>False
   |_=>False
  |_,_=>False
 |none=>False
def ptrAdd (s:SV) (off:Nat):Option SV:=
 match s with
 | .own k o=>some (.own k (o+off))
 | .ownx k o=>some (.ownx k (o+off))
 | .v (.pointer (some ⟨b,o,none⟩))=>some (.v (.pointer (some ⟨b,o+off,none⟩)))
 |_=>none
def ptrAddx (s:SV) (off:Nat):Option SV:=
 match s with
 | .own k o=>some (.ownx k (o+off))
 | .ownx k o=>some (.ownx k (o+off))
 | .v (.pointer (some ⟨b,o,none⟩))=>some (.v (.pointer (some ⟨b,o+off,none⟩)))
 |_=>none
def isConst:Operand→Bool
 | .const _=>true
 |_=>false
def ev1 (X:Cx) (st:St) (op:Op) (K:Out→Prop):Prop:=
 match op with
 | .move x=>kval K (ev st x)
 | .assign x=>kval K (ev st x)
 | .pick c a b=>match ev st c with
  |some (.v (.bool t))=>VIf t (kval K (ev st a)) (kval K (ev st b))
  |_=>False
 | .alloc t=>match getT X.tt t with
  |some i=>K (.new (vs i.z) t none)
  |none=>False
 | .box t x=>match getT X.tt t,ev st x with
  |some _,some s=>match cellsL s with
   |some l=>match oneL st.H l with|true=>K (.new l t none)|false=>False
   |none=>False
  |_,_=>False
 | .load t p=>match getT X.tt t,ev st p with
  |some i,some s=>loadOf X st i s K
  |_,_=>False
 | .store t p x=>match getT X.tt t,ev st p,ev st x with
  |some i,some q,some s=>storeOf st i q s K
  |_,_,_=>False
 | .nilCheck p=>match ev st p with
  |some (.own k o)=>K (.val (.own k o))
  |some (.ownx k o)=>K (.val (.ownx k o))
  |some (.v (.pointer (some a)))=>K (.val (.v (.pointer (some a))))
  |some (.fn f l c)=>K (.val (.fn f l c))
  |_=>False
 | .fieldAddr t p f=>match getT X.tt t,ev st p with
  |some ⟨_,_,_,_, .struct fs⟩,some s=>match nthF fs f with
   |some (_,off,_)=>kval K (ptrAdd s off)
   |none=>False
  |_,_=>False
 | .field t x f=>match getT X.tt t,ev st x with
  |some ⟨_,_,_,_, .struct fs⟩,some s=>fieldOf X fs f s K
  |_,_=>False
 | .indexAddr t x ix=>match getT X.tt t,ev st x,ev st ix with
  |some ⟨_,_,_,_, .slice _ esz _⟩,some (.v (.slice a n _)),some (.v (.int _ z))=>
   ∃b o,(a=some ⟨b,o,none⟩∧0≤z∧z<n)∧K (.val (.v (.pointer (some ⟨b,o+z.toNat*esz,none⟩))))
  |some ⟨_,_,_,_, .slice _ esz _⟩,some (.osl k o n _),some (.v (.int _ z))=>
   (0≤z∧z<n)∧K (.val (.ownx k (o+z.toNat*esz)))
  |some ⟨_,_,_,_, .slice _ esz _⟩,some (.row k),some (.v (.int _ z))=>match findE st.H k with
   |some (.row _ n _ _ _)=>(0≤z∧z<n)∧K (.val (.ownx k (z.toNat*esz)))
   |_=>False
  |some ⟨_,_,_,_, .arr len _ esz⟩,some s,some (.v (.int _ z))=>
   (0≤z∧z<len)∧kval K (match isConst ix with|true=>ptrAdd s (z.toNat*esz)|false=>ptrAddx s (z.toNat*esz))
  |_,_,_=>False
 | .index t x ix=>match getT X.tt t,ev st x,ev st ix with
  |some ⟨_,_,_,_, .str⟩,some (.v (.string s)),some (.v (.int _ z))=>
   ∃c,(0≤z∧s.data.toList[z.toNat]?=some c)∧K (.val (.v (.int .u8 c.toNat)))
  |some ⟨_,_,_,_, .arr len ety esz⟩,some s,some (.v (.int _ z))=>match aggL s,getT X.tt ety with
   |some l,some i=>(0≤z∧z<len)∧match Nat.beq i.n esz,takeN i.n (dropN (z.toNat*esz) l)with
    |true,some r=>kval K (mkv i.agg r)
    |_,_=>False
   |_,_=>False
  |_,_,_=>False
 | .binOp op t x y _=>match ev st x,ev st y with
  |some (.v (.int ka a)),some (.v (.int kb b))=>match isSh op,kEq ka kb with
   |true,_=>shOp op ka a b K
   |false,true=>intOp op ka a b K
   |false,false=>False
  |some (.v (.string a)),some (.v (.string b))=>strOp op a b K
  |some s,some r=>match getT X.tt t with
   |some ⟨_,agg,_,some ks,_⟩=>match cellsA agg s,cellsA agg r with
    |some l,some m=>match eqCs ks l m with
     |some e=>boolOp op e K
     |none=>False
    |_,_=>False
   |some ⟨_,_,_,none, .slice _ _ _⟩=>match s,r with
    | .v (.slice a _ _), .v (.slice none 0 0)=>boolOp op a.isNone K
    |_,_=>False
   |_=>False
  |_,_=>False
 | .unOp op _ x=>match op,ev st x with
  | .not,some (.v (.bool b))=>K (.val (.v (.bool (!b))))
  | .neg,some (.v (.int k a))=>K (.val (.v (.int k (k.wrap (0-a)))))
  |_,_=>False
 | .convert src dst x=>match getT X.tt src,getT X.tt dst,ev st x with
  |some _,some ⟨_,_,_,some [.int k], .int⟩,some (.v (.int _ n))=>K (.val (.v (.int k (k.wrap n))))
  |_,_,_=>False
 | .extract x n=>match ev st x with
  |some (.tup l)=>match dropN n l with| .bad::_=>False|s::_=>K (.val s)| []=>False
  |some (.v (.tuple a))=>match dropN n (vs a.toList)with|s::_=>K (.val s)| []=>False
  |_=>False
 | .makeFunc fn first caps=>match fn,evs st first.toList,evs st caps.toList with
  | .func f,some l,some c=>K (.val (.fn f l c))
  |_,_,_=>False
 | .build t ps=>match getT X.tt t with
  |some ⟨_,_,z,_, .struct fs⟩=>match fillS fs st ps.toList (vs z)with
   |some l=>K (.val (.agg l))
   |none=>False
  |some ⟨_,_,z,_, .arr _ _ esz⟩=>match fillA esz st ps.toList (vs z)with
   |some l=>K (.val (.agg l))
   |none=>False
  |_=>False
 | .buildSlice t n ps=>match getT X.tt t with
  |some ⟨_,_,_,_, .slice e esz _⟩=>match getT X.tt e with
   |some i=>match Nat.ble (n*esz) 16777216,Nat.beq i.n esz,fillA esz st ps.toList (repL n (vs i.z))with
    |true,true,some l=>K (.new l e (some n))
    |_,_,_=>False
   |none=>False
  |_=>False
 | .makeSlice t l c=>match getT X.tt t,ev st l,ev st c with
  |some ⟨_,_,_,_, .slice e esz bytes⟩,some (.v (.int _ p)),some (.v (.int _ q))=>match getT X.tt e with
   |some i=>match Nat.beq i.n esz with
    |true=>(p=q∧0≤p∧(bytes:Int)*p≤281474976710656∧p≤9223372036854775807)∧K (.new (repL p.toNat (vs i.z)) e (some p.toNat))
    |false=>False
   |none=>False
  |_,_,_=>False
 | .slice t x lo hi mx=>match getT X.tt t,ev st x with
  |some ⟨_,_,_,_, .slice _ esz _⟩,some (.v (.slice a n c))=>
   bnd st n c lo hi mx fun l h m=>∀a',a'=subA a l m esz→K (.val (.v (.slice a' (h-l) (m-l))))
  |some ⟨_,_,_,_, .slice _ esz _⟩,some (.row k)=>match mx,findE st.H k with
   |none,some (.row _ n _ _ _)=>0<n∧∀c,n≤c→bnd st n c lo hi none fun l h _=>K (.val (.osl k (if c=l then 0 else l*esz) (h-l) l))
   |_,_=>False
  |some ⟨_,_,_,_, .str⟩,some (.v (.string s))=>match mx with
   |none=>bnd st s.size s.size lo hi none fun l h _=>K (.val (.v (.string (s.extract l h))))
   |some _=>False
  |some ⟨_,_,_,_, .arr len _ _⟩,some (.own k 0)=>match lo,hi,mx with
   |none,none,none=>(match findE st.H k with|some (.blk _ _ _)=>K (.val (.osl k 0 len len))|_=>False)
   |_,_,_=>False
  |_,_=>False
 | .lookup t x ix ok=>match ev st x with
  |some (.v (.map (some r)))=>match ok,ev st ix with
   |false,some (.v (.int .i64 i))=>(∃kt et,X.P.underlying t=some (.map kt et)∧X.P.underlying kt=some (.int .i64))∧
    ∃es c j v,MRead X st.H st.w r es c∧Instr.findNow (.int .i64) (.int .i64 i) es.toList 0=some (some (j,v))∧K (.val (.v v))
   |_,_=>False
  |some (.row k)=>match ev st ix,findE st.H k with
   |some s,some (.mp _ es m)=>(MTok X.P X.tt m∧m.t=t)∧∃kc v b,(den st.H s=mkKey m.ag kc∧typedCs m.ks kc∧(lkpV es kc).getD m.z=v∧(lkpV es kc).isSome=b)∧
    K (.val (match ok with|true=> .tup [.v v, .v (.bool b)]|false=> .v v))
   |_,_=>False
  |_=>False
 | .call c=>match c.callee with
  | .value f=>match ev st f,evs st c.args.toList with
   |some (.fn g l caps),some args=>K (.call g (l++(args++caps)))
   |some (.v (.func (.func g) l caps)),some args=>K (.call g (vs l.toList++(args++vs caps.toList)))
   |_,_=>False
  | .builtin b=>evBuiltin X st b c.args.toList c.argTypes.toList K
  |_=>False
 |_=>False
def cellR (H:Hp) (s:SV) (x:Value):Prop:=s= .bad∨x=den H s
def cellsR (H:Hp):List SV→List Value→Prop
 | [], []=>True
 |s::l,x::r=>cellR H s x∧cellsR H l r
 |_,_=>False
def MapAt (w:World) (b:Nat) (es:List (Value×Value)) (m:MTy):Prop:=∃(arr:Array MapEntry) (c:Nat),w.heap[b]?=some (.map arr c)∧arr.toList.map (fun e=>(e.key,e.val))=es∧∀p,p∈es→keyOK m p.1∧plV p.2=true
def entAt (B:Nat) (H:Hp) (w:World):Ent→Prop
 | .blk b cs ty=>∃xs,cellsR H cs xs∧w.heap[b]?=some (.cells xs.toArray ty (0,0))
 | .row v n xs sz ty=>w.ownsRow B ty sz v n xs
 | .mp b es ty=>MapAt w b es ty
structure Cls (X:Cx) (H:Hp) (nk:Nat) (w wc:World):Prop where
 fx:Fx (bs H) w wc
 fx0:Fx X.bor X.w0 wc
 own:∀k e,(k,e)∈H→entAt 0 H wc e
 nd:(bs H).Nodup
 lb:∀b,b∈bs H→b∈X.bor∨X.w0.heap.size≤b
 keys:(H.map (·.1)).Nodup
 lt:∀k e,(k,e)∈H→k<nk
structure CallVC (X:Cx) (seq:Bool) (f:FuncId) (args:List SV) (st:St) (K:St→SV→Prop):Prop where
 ex:∃(ι:Type) (r:ι→SV) (φ:ι→Nat→World→Prop),
  (∀wc,Cls X st.H st.nk st.w wc→Calls X.P f (denL st.H args).toArray wc fun e w'=>
   ∃i,e= .returned (den st.H (r i))∧Below wc.heap.size wc w'∧φ i wc.heap.size w')∧
  ∀i n w1,st.w.heap.size≤n→n≤w1.heap.size→ltAll st.H n→Fx (bs st.H) st.w w1→φ i n w1→
   match st,seq with
   |⟨T,H,nk,_,_,_⟩,true=>K ⟨T,H,nk,w1,w1.heap.size, []⟩ (r i)
   |⟨T,H,nk,_,lo,iv⟩,false=>K ⟨T,H,nk,w1,lo,(n,w1.heap.size)::iv⟩ (r i)
def put (X:Cx) (st:St) (dst:Option Nat) (s:SV) (K:St→Prop):Prop:=
 match dst with
 |none=>K st
 |some d=>match Nat.blt d X.nt,st with
  |true,⟨T,H,nk,w,lo,iv⟩=>K ⟨(d,s)::T,H,nk,w,lo,iv⟩
  |false,_=>False
def setE:Hp→Nat→Ent→(Hp→Prop)→Prop
 | [],_,_,_=>False
 |(k',e')::H,k,e,K=>match Nat.beq k' k with
  |true=>K ((k',e)::H)
  |false=>setE H k e fun H'=>K ((k',e')::H')
def hideE (k:Nat):Ent→Ent
 | .blk b cs ty=> .blk b (hideL k cs) ty
 |e=>e
def hideH (k:Nat):Hp→Hp
 | []=> []
 |(j,e)::H=>(j,hideE k e)::hideH k H
def hideT (k:Nat):List (Nat×SV)→List (Nat×SV)
 | []=> []
 |(d,s)::T=>(d,hide k s)::hideT k T
def hideK (k:Nat):List (Nat×SV)→(List (Nat×SV)→Prop)→Prop
 | [],K=>K []
 |(d,s)::T,K=>match ment k s with
  |true=>hideK k T fun T'=>K ((d, .bad)::T')
  |false=>hideK k T fun T'=>K ((d,s)::T')
def NewsOf (X:Cx) (st:St) (esz:Nat) (x:SV) (m:Nat) (news:List Value):Prop:=
 match x with
 | .osl k o n _=>m=n∧match findE st.H k with
  |some (.blk _ cs _)=>∃l,takeN (n*esz) (dropN o cs)=some l∧oneL st.H l=true∧news=denL st.H l
  |some (.row _ N xs sz _)=>esz=sz∧(n=0∨o+n*esz≤N*esz)∧news=(xs.drop o).take (n*esz)∧∀u,u∈xs→oneV u=true
  |_=>False
 | .row k=>match findE st.H k with
  |some (.row _ n xs sz _)=>m=n∧esz=sz∧news=xs∧∀u,u∈xs→oneV u=true
  |_=>False
 | .v (.slice none 0 0)=>m=0∧news= []
 | .v (.slice (some ⟨b,o,sp⟩) n _)=>(m=0∧n=0∧news= [])∨(sp=none∧m=n∧(∀u,u∈news→oneV u=true)∧FRead X st.H st.w b o (n*esz) news)
 |_=>False
def reW (seq:Bool) (st:St) (w1:World) (K:List (Nat×SV)→Hp→Nat→World→Nat→List (Nat×Nat)→Prop):Prop:=
 match st,seq with
 |⟨T,H,nk,_,_,_⟩,true=>K T H nk w1 w1.heap.size []
 |⟨T,H,nk,_,lo,iv⟩,false=>K T H nk w1 lo iv
structure AppVC (X:Cx) (seq:Bool) (e esz bytes:Nat) (s x:SV) (st:St) (K:St→SV→Prop):Prop where
 ex:∃(k n m:Nat) (v:Value) (xs news:List Value),
  (1≤esz∧NewsOf X st esz x m news∧(n+m)*bytes≤140737488355328∧n+m≤maxLen)∧
  ((s= .v (.slice none 0 0)∧n=0∧∀v' w1,(v'= .slice none 0 0↔m=0)→(∀b,b∈ownB v'→b∈bs st.H∨st.w.heap.size≤b)→Fx (bs st.H) st.w w1→reW seq st w1 fun T H nk w lo iv=>
   freshT nk T=true∧freshH nk H=true∧K ⟨T,(nk, .row v' m news esz e)::H,nk+1,w,lo,iv⟩ (.row nk))∨
   (s= .row k∧findE st.H k=some (.row v n xs esz e)∧∀v' w1,(v'= .slice none 0 0↔v= .slice none 0 0∧m=0)→(∀b,b∈ownB v'→b∈bs st.H∨st.w.heap.size≤b)→Fx (bs st.H) st.w w1→reW seq st w1 fun T H nk w lo iv=>
    setE (hideH k H) k (.row v' (n+m) (xs++news) esz e) fun H'=>hideK k T fun T'=>K ⟨T',H',nk,w,lo,iv⟩ (.row k))∨
   (s= .osl k 0 n 0∧(∃u N ys,findE st.H k=some (.row u N ys esz e)∧0<N∧n≤N∧xs=ys.take (n*esz))∧∀v' w1,v'≠ .slice none 0 0→(∀b,b∈ownB v'→b∈bs st.H∨st.w.heap.size≤b)→Fx (bs st.H) st.w w1→reW seq st w1 fun T H nk w lo iv=>
    setE (hideH k H) k (.row v' (n+m) (xs++news) esz e) fun H'=>hideK k T fun T'=>K ⟨T',H',nk,w,lo,iv⟩ (.row k))∨
   ((∃a,s= .v (.slice (some a) 0 0))∧n=0∧(m=0→K st s)∧(m≠0→∀v' w1,v'≠ .slice none 0 0→(∀b,b∈ownB v'→b∈bs st.H∨st.w.heap.size≤b)→Fx (bs st.H) st.w w1→reW seq st w1 fun T H nk w lo iv=>
    freshT nk T=true∧freshH nk H=true∧K ⟨T,(nk, .row v' m news esz e)::H,nk+1,w,lo,iv⟩ (.row nk))))
def fin (X:Cx) (seq:Bool) (st:St) (dst:Option Nat) (K:St→Prop) (o:Out):Prop:=
 match o with
 | .val s=>put X st dst s K
 | .new cs ty sl=>match st with
  |⟨T,H,nk,w,lo,iv⟩=>match freshT nk T,freshH nk H,mentL nk cs with
   |true,true,false=>(∀b,lo≤b→ivOK iv b→
    put X ⟨T,(nk, .blk b cs ty)::H,nk+1,w,lo,iv⟩ dst (match sl with|none=> .own nk 0|some n=> .osl nk 0 n n) K)∨
    (∃n sz,(sl=some n∧cs.length=n*sz∧n≤maxLen∧oneL H cs=true)∧∀b,lo≤b→ivOK iv b→
    put X ⟨T,(nk, .row (.slice (some ⟨b,0,none⟩) n n) n (denL H cs) sz ty)::H,nk+1,w,lo,iv⟩ dst (.row nk) K)
   |_,_,_=>False
 | .call f args=>CallVC X seq f args st fun st' s=>put X st' dst s K
 | .upd k cs=>match st,findE st.H k with
  |⟨T,H,nk,w,lo,iv⟩,some (.blk b _ ty)=>setE H k (.blk b cs ty) fun H'=>put X ⟨T,H',nk,w,lo,iv⟩ dst (.v undef) K
  |_,_=>False
 | .updR k xs=>match st,findE st.H k with
  |⟨T,H,nk,w,lo,iv⟩,some (.row v n _ sz ty)=>setE H k (.row v n xs sz ty) fun H'=>put X ⟨T,H',nk,w,lo,iv⟩ dst (.v undef) K
  |_,_=>False
 | .app e esz bytes s x=>AppVC X seq e esz bytes s x st fun st' s=>put X st' dst s K
def dstOf:List Oper→Nat→Option Nat
 | [],_=>none
 |o::_,0=>o.dst
 |_::l,n+1=>dstOf l n
def guardVC (ops:List Oper) (g:Option (Nat×Bool)) (st:St) (yes no:St→Prop):Prop:=
 match g with
 |none=>yes st
 |some (j,want)=>match dstOf ops j with
  |some d=>match lookR st.T d with
   |some (.v (.bool b))=>match st with
    |⟨T,H,nk,w,lo,iv⟩=>VIf b
     (match want with|true=>yes ⟨(d, .v (.bool true))::T,H,nk,w,lo,iv⟩|false=>no ⟨(d, .v (.bool true))::T,H,nk,w,lo,iv⟩)
     (match want with|true=>no ⟨(d, .v (.bool false))::T,H,nk,w,lo,iv⟩|false=>yes ⟨(d, .v (.bool false))::T,H,nk,w,lo,iv⟩)
   |some (.v (.tuple _))=>no st
   |_=>False
  |none=>False
def tagOf:SV→Option Nat
 | .own k _=>some k
 | .ownx k _=>some k
 |_=>none
def keyOf:Out→Option Nat
 | .upd k _=>some k
 | .updR k _=>some k
 | .app _ _ _ (.row k) _=>some k
 | .app _ _ _ (.osl k _ _ _) _=>some k
 |_=>none
def subT (H H':Hp) (T:List (Nat×SV)):List (Nat×SV)→Prop
 | []=>True
 |(d,s)::r=>(match look T d with|some .bad=>False|some s'=>den H s'=den H' s|none=>False)∧subT H H' T r
def subB (H H':Hp):List SV→List SV→Prop
 | [], []=>True
 |s::l,s'::l'=>(s'= .bad∨(s≠ .bad∧den H s=den H' s'))∧subB H H' l l'
 |_,_=>False
def subE (H H':Hp):Ent→Ent→Prop
 | .blk b cs ty, .blk b' cs' ty'=>b=b'∧subB H H' cs cs'∧ty=ty'
 | .row v n xs sz ty, .row v' n' xs' sz' ty'=>v=v'∧n=n'∧xs=xs'∧sz=sz'∧ty=ty'
 | .mp b es ty, .mp b' es' ty'=>b=b'∧es=es'∧ty=ty'
 |_,_=>False
def subH (H H':Hp):List (Option Nat)→Hp→Prop
 | [], []=>True
 |some k::ks,(_,e')::r=>(match findE H k with|some e=>subE H H' e e'|none=>False)∧subH H H' ks r
 |none::ks,(_, .row v n xs _ _)::r=>(v= .slice none 0 0∧n=0∧xs= [])∧subH H H' ks r
 |_,_=>False
def Sub (st st':St):Prop:=∃src:List (Option Nat),
 subT st.H st'.H st.T st'.T∧subH st.H st'.H src st'.H∧(src.filterMap id).Nodup∧(st'.H.map (·.1)).Nodup∧(∀k,k∈st'.H.map (·.1)→k<st'.nk)
def At (st:St) (w:World):Prop:=st.w=w∧st.lo=w.heap.size∧st.iv= []
def resOf (X:Cx) (st:St):List ResultVar→Option (List SV)
 | []=>some []
 | .tmp t::r=>match lookR st.T t,resOf X st r with
  |some .bad,_=>none
  |some s,some l=>some (s::l)
  |_,_=>none
 | .cell a t::r=>match getT X.tt t,lookR st.T a,resOf X st r with
  |some i,some (.own k o),some l=>match findE st.H k with
   |some (.blk _ cs _)=>match takeN i.n (dropN o cs)with
    |some c=>match mkv i.agg c with
     |some s=>some (s::l)
     |none=>none
    |none=>none
   |_=>none
  |_,_,_=>none
def zipT:Nat→List SV→List (Nat×SV)
 |_, []=> []
 |n,s::l=>(n,s)::zipT (n+1) l
theorem beqT {a b:Nat} (h:Nat.beq a b=true):a=b:=by simpa using h
theorem beqF {a b:Nat} (h:Nat.beq a b=false):a≠b:=by
 intro e;subst e;simp at h
theorem findE_mem {H:Hp} {k:Nat} {e:Ent} (h:findE H k=some e):(k,e)∈H:=by
 induction H with
 |nil=>simp [findE]at h
 |cons x H ih=>
  obtain⟨k',e'⟩:=x;simp only [findE]at h;split at h
  · rename_i hb;cases h;rw [←beqT hb];exact List.mem_cons_self
  · exact List.mem_cons_of_mem _ (ih h)
theorem findE_cons_ne {H:Hp} {k k':Nat} {e:Ent} (h:k'≠k):findE ((k',e)::H) k=findE H k:=by
 simp only [findE];split
 · rename_i hb;exact absurd (beqT hb) h
 · rfl
theorem bs_mem {H:Hp} {b:Nat}:b∈bs H↔∃k e,(k,e)∈H∧b∈bsE e:=by
 induction H with
 |nil=>simp [bs]
 |cons x H ih=>
  obtain⟨k',e'⟩:=x;simp only [bs,List.mem_append,ih,List.mem_cons];constructor
  · rintro(h|⟨k,e,h,hb⟩)
    · exact⟨k',e', .inl rfl,h⟩
    · exact⟨k,e, .inr h,hb⟩
  · rintro⟨k,e,h|h,hb⟩
    · cases h;exact .inl hb
    · exact .inr ⟨k,e,h,hb⟩
theorem bs_apart {H:Hp} (hn:(bs H).Nodup) (hk:(H.map (·.1)).Nodup) {k k':Nat} {e e':Ent} (h:(k,e)∈H) (h':(k',e')∈H) (hne:k≠k') {b:Nat} (hb:b∈bsE e):b∉bsE e':=by
 induction H with
 |nil=>cases h
 |cons x H ih=>
  obtain⟨k0,e0⟩:=x;simp only [bs,List.nodup_append,List.map_cons,List.nodup_cons]at hn hk;rcases List.mem_cons.1 h with h1|h1
  · rcases List.mem_cons.1 h' with h2|h2
    · cases h1;cases h2;exact absurd rfl hne
    · cases h1;intro hc;exact hn.2.2 b hb b (bs_mem.2 ⟨_,_,h2,hc⟩) rfl
  · rcases List.mem_cons.1 h' with h2|h2
    · cases h2;intro hc;exact hn.2.2 b hc b (bs_mem.2 ⟨_,_,h1,hb⟩) rfl
    · exact ih hn.2.1 hk.2 h1 h2
theorem denL_vs (H:Hp) (l:List Value):denL H (vs l)=l:=by
 induction l with
 |nil=>rfl
 |cons x l ih=>simp [vs,denL,den,ih]
theorem denL_length (H:Hp) (l:List SV):(denL H l).length=l.length:=by
 induction l with
 |nil=>rfl
 |cons x l ih=>simp [denL,ih]
theorem denL_append (H:Hp) (l r:List SV):denL H (l++r)=denL H l++denL H r:=by
 induction l with
 |nil=>rfl
 |cons x l ih=>simp [denL,ih]
theorem denL_map (H:Hp) (l:List SV):denL H l=l.map (den H):=by
 induction l with
 |nil=>rfl
 |cons x l ih=>simp [denL,ih]
theorem denL_get (H:Hp) (l:List SV) (j:Nat):(denL H l)[j]?=(l[j]?).map (den H):=by rw [denL_map];simp
theorem vs_length (l:List Value):(vs l).length=l.length:=by
 induction l with
 |nil=>rfl
 |cons x l ih=>simp [vs,ih]
theorem vs_noBad (l:List Value): .bad∉vs l:=by
 induction l with
 |nil=>simp [vs]
 |cons x l ih=>simp [vs,ih]
theorem cellsL_den {H:Hp} {s:SV} {l:List SV} (h:cellsL s=some l):(den H s).cells.toList=denL H l∨(∃k,s= .row k∧l= [.row k]):=by
 cases s with
 |v x=>
  cases x<;>simp only [cellsL]at h<;>first|(cases h;left;simp [den,denL,Value.cells,denL_vs];done)|cases h
 |row k=>simp only [cellsL]at h;cases h;exact .inr ⟨k,rfl,rfl⟩
 |tup l=>simp [cellsL]at h
 |bad=>simp [cellsL]at h
 |agg l=>simp only [cellsL]at h;cases h;left;simp [den,Value.cells]
 |_=>simp only [cellsL]at h;cases h;left;simp [den,denL,Value.cells]
def RowsOK (H:Hp):Prop:=∀k v n xs sz ty,findE H k=some (.row v n xs sz ty)→∃a m c,v= .slice a m c∧(0<n→m=n∧n≤c∧∃g,a=some ⟨g,0,none⟩)
theorem cellsL_den' {H:Hp} {s:SV} {l:List SV} (h:cellsL s=some l) (ho:oneL H l=true) (hr:RowsOK H):(den H s).cells.toList=denL H l:=by
 rcases cellsL_den (H:=H) h with h|⟨k,rfl,rfl⟩
 · exact h
 · simp only [oneL,oneS]at ho;cases hf:findE H k with
   |none=>simp [hf]at ho
   |some e=>
    cases e with
    |blk b cs ty=>simp [hf]at ho
    |row v n xs sz ty=>
     obtain⟨a,n',c,rfl,_⟩:=hr k v n xs sz ty hf;simp [den,denL,rowVal,hf,Value.cells]
    |mp b es ty=>simp [den,denL,rowVal,hf,Value.cells]
theorem oneV_is (x:Value):oneV x=x.oneCell':=by cases x<;>rfl
theorem oneS_den {H:Hp} (hr:RowsOK H) {s:SV} (h:oneS H s=true):(den H s).oneCell'=true∧s≠ .bad:=by
 cases s with
 |v x=>exact⟨by rw [←oneV_is];exact h,by simp⟩
 |row k=>
  simp only [oneS]at h;cases hf:findE H k with
  |none=>simp [hf]at h
  |some e=>
   cases e with
   |blk b cs ty=>simp [hf]at h
   |row v n xs sz ty=>
    obtain⟨a,n',c,rfl,_⟩:=hr k v n xs sz ty hf;exact⟨by simp [den,rowVal,hf,Value.oneCell'],by simp⟩
   |mp b es ty=>exact⟨by simp [den,rowVal,hf,Value.oneCell'],by simp⟩
 |agg l=>simp [oneS]at h
 |tup l=>simp [oneS]at h
 |bad=>simp [oneS]at h
 |own k o=>exact⟨rfl,by simp⟩
 |ownx k o=>exact⟨rfl,by simp⟩
 |osl k o n c=>exact⟨rfl,by simp⟩
 |fn f l c=>exact⟨rfl,by simp⟩
theorem oneL_mem {H:Hp} {l:List SV} (h:oneL H l=true) {s:SV} (hs:s∈l):oneS H s=true:=by
 induction l with
 |nil=>cases hs
 |cons x l ih=>
  simp only [oneL]at h;split at h
  · rcases List.mem_cons.1 hs with rfl|hs
    · assumption
    · exact ih h hs
  · cases h
theorem oneL_den {H:Hp} (hr:RowsOK H) {l:List SV} (h:oneL H l=true):∀x,x∈denL H l→x.oneCell'=true:=by
 intro x hx;rw [denL_map]at hx;obtain⟨s,hs,rfl⟩:=List.mem_map.1 hx;exact(oneS_den hr (oneL_mem h hs)).1
theorem oneL_noBad {H:Hp} (hr:RowsOK H) {l:List SV} (h:oneL H l=true): .bad∉l:=fun hb=>(oneS_den hr (oneL_mem h hb)).2 rfl
theorem cellsR_length {H:Hp} {l:List SV} {xs:List Value} (h:cellsR H l xs):l.length=xs.length:=by
 induction l generalizing xs with
 |nil=>cases xs with
  |nil=>rfl
  |cons x xs=>simp [cellsR]at h
 |cons s l ih=>cases xs with
  |nil=>simp [cellsR]at h
  |cons x xs=>simp only [cellsR]at h;simp [ih h.2]
theorem cellsR_den {H:Hp} (l:List SV):cellsR H l (denL H l):=by
 induction l with
 |nil=>trivial
 |cons s l ih=>exact⟨.inr rfl,ih⟩
theorem cellsR_mono {H H':Hp} {l:List SV} {xs:List Value} (h:cellsR H l xs) (hd:∀s,s∈l→s≠ .bad→den H' s=den H s):cellsR H' l xs:=by
 induction l generalizing xs with
 |nil=>cases xs<;>simp_all [cellsR]
 |cons t l ih=>cases xs with
  |nil=>simp [cellsR]at h
  |cons x xs=>
   simp only [cellsR]at h⊢;refine⟨?_,ih h.2 fun s hs=>hd s (List.mem_cons_of_mem _ hs)⟩;rcases h.1 with h1|h1
   · exact .inl h1
   · by_cases hb:t= .bad
     · exact .inl hb
     · exact .inr (by rw [hd t List.mem_cons_self hb];exact h1)
theorem cellsR_append {H:Hp} {l l':List SV} {xs xs':List Value} (h:cellsR H l xs) (h':cellsR H l' xs'):cellsR H (l++l') (xs++xs'):=by
 induction l generalizing xs with
 |nil=>cases xs with
  |nil=>exact h'
  |cons x xs=>simp [cellsR]at h
 |cons t l ih=>cases xs with
  |nil=>simp [cellsR]at h
  |cons x xs=>simp only [cellsR]at h;exact⟨h.1,ih h.2⟩
theorem cellsR_take {H:Hp} {l:List SV} {xs:List Value} (h:cellsR H l xs) (n:Nat):cellsR H (l.take n) (xs.take n):=by
 induction l generalizing xs n with
 |nil=>cases xs with
  |nil=>simp [cellsR]
  |cons x xs=>simp [cellsR]at h
 |cons t l ih=>cases xs with
  |nil=>simp [cellsR]at h
  |cons x xs=>
   simp only [cellsR]at h;cases n with
   |zero=>trivial
   |succ n=>exact⟨h.1,ih h.2 n⟩
theorem cellsR_drop {H:Hp} {l:List SV} {xs:List Value} (h:cellsR H l xs) (n:Nat):cellsR H (l.drop n) (xs.drop n):=by
 induction l generalizing xs n with
 |nil=>cases xs with
  |nil=>simp [cellsR]
  |cons x xs=>simp [cellsR]at h
 |cons t l ih=>cases xs with
  |nil=>simp [cellsR]at h
  |cons x xs=>
   simp only [cellsR]at h;cases n with
   |zero=>exact h
   |succ n=>exact ih h.2 n
theorem dropN_eq (n:Nat) (l:List SV):dropN n l=l.drop n:=by
 induction n generalizing l with
 |zero=>cases l<;>rfl
 |succ n ih=>cases l with
  |nil=>rfl
  |cons x l=>simp [dropN,ih]
theorem takeN_eq {n:Nat} {l r:List SV} (h:takeN n l=some r):r.length=n∧r=l.take n∧ .bad∉r:=by
 induction n generalizing l r with
 |zero=>simp [takeN]at h;subst h;simp
 |succ n ih=>cases l with
  |nil=>simp [takeN]at h
  |cons x l=>
   cases x with
   |bad=>simp [takeN]at h
   |_=>
    simp only [takeN]at h;split at h
    · rename_i r' hr;cases h;obtain⟨h1,h2,h3⟩:=ih hr;subst h2;exact⟨by simp [h1],by simp,by simpa using h3⟩
    · cases h
theorem cells_at {H:Hp} {cs l:List SV} {xs:List Value} {o n:Nat} (h:cellsR H cs xs) (ht:takeN n (dropN o cs)=some l):(xs.drop o).take n=denL H l∧l.length=n∧ .bad∉l:=by
 rw [dropN_eq]at ht;obtain⟨h1,h2,h3⟩:=takeN_eq ht;refine⟨?_,h1,h3⟩;have hc:=cellsR_take (cellsR_drop h o) n;rw [←h2]at hc;clear ht h2;generalize (xs.drop o).take n=ys at hc⊢;clear h h1
 induction l generalizing ys with
 |nil=>cases ys with
  |nil=>rfl
  |cons y ys=>simp [cellsR]at hc
 |cons t l ih=>cases ys with
  |nil=>simp [cellsR]at hc
  |cons y ys=>
   simp only [cellsR]at hc;simp only [List.mem_cons,not_or]at h3;rcases hc.1 with hc1|hc1
   · exact absurd hc1.symm h3.1
   · simp [denL,hc1,ih h3.2 _ hc.2]
theorem over_eq {α:Type} {o:Nat} {xs l r:List α} (h:over o xs l=some r):r=l.take o++xs++l.drop (o+xs.length)∧o+xs.length≤l.length:=by
 induction o generalizing l r with
 |zero=>
  induction xs generalizing l r with
  |nil=>simp [over]at h;subst h;simp
  |cons x xs ih=>cases l with
   |nil=>simp [over]at h
   |cons y l=>
    simp only [over]at h;split at h
    · rename_i r' hr;cases h;obtain⟨h1,h2⟩:=ih hr;simp only [List.take_zero,List.nil_append,Nat.zero_add]at h1 h2⊢;refine⟨?_,by simp at h2⊢;omega⟩;rw [h1];simp
    · cases h
 |succ o ih=>cases l with
  |nil=>simp [over]at h
  |cons y l=>
   simp only [over]at h;split at h
   · rename_i r' hr;cases h;obtain⟨h1,h2⟩:=ih hr;refine⟨?_,by simp at h2⊢;omega⟩;rw [h1];simp [Nat.add_right_comm o 1]
   · cases h
theorem mkv_den {H:Hp} {agg:Bool} {l:List SV} {s:SV} (h:mkv agg l=some s) (hb: .bad∉l):
 s≠ .bad∧((agg=true∧den H s= .agg (denL H l).toArray)∨(agg=false∧denL H l= [den H s])):=by
 cases agg with
 |true=>simp only [mkv]at h;cases h;exact⟨by simp, .inl ⟨rfl,by simp [den]⟩⟩
 |false=>
  match l,h with
  | [x],h=>simp only [mkv]at h;cases h;exact⟨fun e=>hb (by simp [e]), .inr ⟨rfl,rfl⟩⟩
  | [],h=>simp [mkv]at h
  |_::_::_,h=>simp [mkv]at h
theorem valOf_den {H:Hp} {agg:Bool} {l:List Value} {s:SV} (h:valOf agg l=some s):
 s≠ .bad∧((agg=true∧den H s= .agg l.toArray)∨(agg=false∧l= [den H s])):=by
 cases agg with
 |true=>simp only [valOf]at h;cases h;exact⟨by simp, .inl ⟨rfl,by simp [den,denL_vs]⟩⟩
 |false=>
  match l,h with
  | [x],h=>simp only [valOf]at h;cases h;exact⟨by simp, .inr ⟨rfl,rfl⟩⟩
  | [],h=>simp [valOf]at h
  |_::_::_,h=>simp [valOf]at h
mutual
theorem den_congr {H H':Hp} (k:Nat) (hb:∀j,j≠k→bOf H' j=bOf H j∧rowVal H' j=rowVal H j):∀(s:SV),ment k s=false→den H' s=den H s
 | .v _,_=>rfl
 | .own j o,h=>by simp only [ment]at h;simp [den,(hb j (beqF h)).1]
 | .ownx j o,h=>by simp only [ment]at h;simp [den,(hb j (beqF h)).1]
 | .osl j o n c,h=>by simp only [ment]at h;simp [den,(hb j (beqF h)).1,(hb j (beqF h)).2]
 | .row j,h=>by simp only [ment]at h;simp [den,(hb j (beqF h)).2]
 | .agg l,h=>by simp only [ment]at h;simp [den,denL_congr k hb l h]
 | .tup l,h=>by simp only [ment]at h;simp [den,denL_congr k hb l h]
 | .fn f l c,h=>by
  simp only [ment]at h;split at h
  · cases h
  · rename_i hf;simp [den,denL_congr k hb l hf,denL_congr k hb c h]
 | .bad,_=>rfl
theorem denL_congr {H H':Hp} (k:Nat) (hb:∀j,j≠k→bOf H' j=bOf H j∧rowVal H' j=rowVal H j):∀(l:List SV),mentL k l=false→denL H' l=denL H l
 | [],_=>rfl
 |s::l,h=>by
  simp only [mentL]at h;split at h
  · cases h
  · rename_i hf;simp [denL,den_congr k hb s hf,denL_congr k hb l h]
end
mutual
theorem den_same {H H':Hp} (hb:∀j,bOf H' j=bOf H j∧rowVal H' j=rowVal H j):∀(s:SV),den H' s=den H s
 | .v _=>rfl
 | .own j o=>by simp [den,(hb j).1]
 | .ownx j o=>by simp [den,(hb j).1]
 | .osl j o n c=>by simp [den,(hb j).1,(hb j).2]
 | .row j=>by simp [den,(hb j).2]
 | .agg l=>by simp [den,denL_same hb l]
 | .tup l=>by simp [den,denL_same hb l]
 | .fn f l c=>by simp [den,denL_same hb l,denL_same hb c]
 | .bad=>rfl
theorem denL_same {H H':Hp} (hb:∀j,bOf H' j=bOf H j∧rowVal H' j=rowVal H j):∀(l:List SV),denL H' l=denL H l
 | []=>rfl
 |s::l=>by simp [denL,den_same hb s,denL_same hb l]
end
theorem Fx.refl (own:List Nat) (w:World):Fx own w w:=⟨rfl,rfl,rfl,Nat.le_refl _,fun _ _ _=>rfl⟩
theorem Fx.trans {o1 o2 o3:List Nat} {a b c:World} (h:Fx o1 a b) (k:Fx o2 b c) (h1:∀i,i∈o1→i∈o3) (h2:∀i,i∈o2→i∈o3∨a.heap.size≤i):Fx o3 a c:=
 ⟨k.os.trans h.os,k.tape.trans h.tape,k.output.trans h.output,Nat.le_trans h.size k.size,fun i hi hn=>by
  rw [k.block i (Nat.lt_of_lt_of_le hi h.size),h.block i hi fun b hb=>hn b (h1 b hb)];intro b hb;rcases h2 b hb with h|h
  · exact hn b h
  · omega⟩
theorem Fx.of_below {own:List Nat} {a b c:World} (h:Fx own a b) (k:Below b.heap.size b c):Fx own a c:=
 ⟨k.os.trans h.os,k.tape.trans h.tape,k.output.trans h.output,Nat.le_trans h.size k.size,fun i hi hn=>by
  rw [k.block i (Nat.lt_of_lt_of_le hi h.size),h.block i hi hn]⟩
theorem Fx.below {a b:World} (h:Fx [] a b):Below a.heap.size a b:=⟨h.os,h.tape,h.output,h.size,fun i hi=>h.block i hi (by simp)⟩
theorem Fx.drew {own:List Nat} {a b:World} (h:Fx own a b):Fx own a { b with drawn:=b.drawn+1}:=⟨h.os,h.tape,h.output,h.size,h.block⟩
def isAggD:TypeDesc→Bool
 | .struct _=>true
 | .array _ _=>true
 |_=>false
def szB (P:Program) (t n:Nat):Bool:=match P.info? t with
 |some i=>Nat.beq i.size n
 |none=>false
def fldB (P:Program):List Field→List (Nat×Nat×Nat)→Bool
 | [], []=>true
 |f::F,(t,o,n)::r=>Nat.beq f.type t&&(Nat.beq f.offset o&&(szB P t n&&(!(Nat.beq n 0)&&fldB P F r)))
 |_,_=>false
def tdB (P:Program):TD→TypeDesc→Bool
 | .int, .int _=>true
 | .bool, .bool=>true
 | .str, .string=>true
 | .other,_=>true
 | .slice e esz bytes, .slice e'=>Nat.beq e e'&&(match P.info? e with|some i=>Nat.beq i.size esz&&Nat.beq i.bytes bytes|none=>false)
 | .arr len e esz, .array len' e'=>Nat.beq len len'&&(Nat.beq e e'&&szB P e esz)
 | .struct fs, .struct F=>fldB P F.toList fs
 |_,_=>false
def flatFs (P:Program) (go:TypeId→Option (List CK)):Nat→List Field→Option (List CK)
 |_, []=>some []
 |off,f::fs=>
  if f.name≠ "_" ∧f.offset=off then
   match go f.type with
   |some ks=>if szB P f.type ks.length then
    match flatFs P go (off+ks.length) fs with
    |some r=>some (ks++r)
    |none=>none
    else none
   |none=>none
  else none
def flatK (P:Program):Nat→TypeId→Option (List CK)
 |0,_=>none
 |d+1,t=>match P.underlying t with
  |some (.int k)=>some [.int k]
  |some .bool=>some [.bool]
  |some .string=>some [.str]
  |some (.struct F)=>if P.stoodInHeld t then none else flatFs P (flatK P d) 0 F.toList
  |some (.array n e)=>(match flatK P d e with
   |some ks=>if szB P e ks.length then some (List.replicate n ks).flatten else none
   |none=>none)
  |_=>none
def chkD (P:Program) (t:Nat) (i:TI):Bool:=match P.underlying t with
 |some d=>(i.agg==isAggD d)&&(tdB P i.d d&&(match i.eq with
  |none=>true
  |some ks=>(flatK P 100 t==some ks)&& !(P.eqGuardType P.depth t)))
 |none=>false
structure TIok (P:Program) (t:Nat) (i:TI):Prop where
 info:∃inf z,P.info? t=some inf∧inf.size=i.n∧inf.zero=some z∧z.cells.toList=i.z
 zn:i.z.length=i.n
 zo:∀x,x∈i.z→x.oneCell'=true
 chk:chkD P t i=true
theorem TIok.of {P:Program} {t:Nat} {i:TI} (z:Value) (h1:(P.info? t).map (fun f=>(f.size,f.zero))=some (i.n,some z)) (h2:z.cells.toList=i.z)
 (h3:(Nat.beq i.z.length i.n&&i.z.all Value.oneCell')=true) (h4:chkD P t i=true):TIok P t i:=by
 simp only [Bool.and_eq_true]at h3;refine⟨?_,beqT h3.1,fun x hx=>List.all_eq_true.1 h3.2 x hx,h4⟩;cases hi:P.info? t with
 |none=>simp [hi]at h1
 |some inf=>simp [hi]at h1;exact⟨inf,z,rfl,h1.1,h1.2,h2⟩
def TTok (P:Program) (tt:List (Nat×TI)):Prop:=∀t i,getT tt t=some i→TIok P t i
theorem TTok.nil (P:Program):TTok P []:=fun t i h=>by simp [getT]at h
theorem TTok.cons {P:Program} {k:Nat} {i:TI} {tt:List (Nat×TI)} (h:TIok P k i) (ht:TTok P tt):TTok P ((k,i)::tt):=by
 intro t j hj;simp only [getT]at hj;split at hj
 · rename_i hb;cases hj;rw [←beqT hb];exact h
 · exact ht t j hj
section
variable {P : Program} {t : Nat} {i : TI}
theorem TIok.und (h:TIok P t i):∃d,P.underlying t=some d∧i.agg=isAggD d∧tdB P i.d d=true:=by
 have hc:=h.chk;unfold chkD at hc;cases hu:P.underlying t with
 |none=>simp [hu]at hc
 |some d=>simp only [hu,Bool.and_eq_true,beq_iff_eq]at hc;exact⟨d,rfl,hc.1,hc.2.1⟩
theorem TIok.run_size (h:TIok P t i) (w:World):(sizeOf t).run P w= .ok i.n w:=by
 obtain⟨inf,z,hi,hs,_⟩:=h.info;simp [sizeOf,typeInfo,hi,hs]
theorem TIok.run_zero (h:TIok P t i):∃z,z.cells.toList=i.z∧∀w,(zeroValue t).run P w= .ok z w:=by
 obtain⟨inf,z,hi,_,hz,hc⟩:=h.info;exact⟨z,hc,fun w=>by simp [zeroValue,typeInfo,hi,hz]⟩
theorem run_und {d:TypeDesc} (h:P.underlying t=some d) (w:World):(underlying t).run P w= .ok d w:=by simp [underlying,h]
theorem TIok.run_isAgg (h:TIok P t i) (w:World):(isAgg t).run P w= .ok i.agg w:=by
 obtain⟨d,hu,ha,_⟩:=h.und;rw [ha];simp only [isAgg,Sem.run_bind,run_und hu,Result.andThen_ok];cases d<;>rfl
theorem szB_info {n:Nat} (h:szB P t n=true):∃inf,P.info? t=some inf∧inf.size=n:=by
 unfold szB at h;cases hi:P.info? t with
 |none=>simp [hi]at h
 |some inf=>simp only [hi]at h;exact⟨inf,rfl,beqT h⟩
theorem szB_run {n:Nat} (h:szB P t n=true) (w:World):(sizeOf t).run P w= .ok n w:=by
 obtain⟨inf,hi,hs⟩:=szB_info h;simp [sizeOf,typeInfo,hi,hs]
theorem fldB_get {F:List Field} {fs:List (Nat×Nat×Nat)} (h:fldB P F fs=true) {j ty off n:Nat} (hj:nthF fs j=some (ty,off,n)):
 ∃f,F[j]?=some f∧f.type=ty∧f.offset=off∧szB P ty n=true∧n≠0:=by
 induction F generalizing fs j with
 |nil=>cases fs with
  |nil=>simp [nthF]at hj
  |cons x fs=>simp [fldB]at h
 |cons f F ih=>cases fs with
  |nil=>simp [fldB]at h
  |cons x fs=>
   obtain⟨t',o',n'⟩:=x;simp only [fldB,Bool.and_eq_true,Bool.not_eq_true']at h;obtain⟨h1,h2,h3,h4,h5⟩:=h;cases j with
   |zero=>
    simp only [nthF,Option.some.injEq,Prod.mk.injEq]at hj;obtain⟨rfl,rfl,rfl⟩:=hj;exact⟨f,rfl,beqT h1,beqT h2,h3,fun e=>by subst e;simp at h4⟩
   |succ j=>simp only [nthF]at hj;simpa using ih h5 hj
theorem TIok.struct {fs:List (Nat×Nat×Nat)} (h:TIok P t i) (hd:i.d= .struct fs):∃F,P.underlying t=some (.struct F)∧fldB P F.toList fs=true:=by
 obtain⟨d,hu,_,htd⟩:=h.und;rw [hd]at htd;cases d<;>simp only [tdB]at htd<;>first|exact⟨_,hu,htd⟩|cases htd
theorem TIok.kind {n:Nat} {agg:Bool} {z:List Value} {k:IntKind} (h:TIok P t ⟨n,agg,z,some [.int k], .int⟩):P.underlying t=some (.int k):=by
 have hc:=h.chk;obtain⟨d,hu,_,htd⟩:=h.und;simp only at htd;cases d<;>simp only [tdB]at htd<;>try cases htd
 rename_i k';simp only [chkD,hu,Bool.and_eq_true,beq_iff_eq]at hc;have:=hc.2.2.1;rw [show(100:Nat)=99+1 from rfl,flatK,hu]at this;simp only [Option.some.injEq,List.cons.injEq,CK.int.injEq,and_true]at this;rw [hu,this]
theorem TIok.slice {e esz bytes:Nat} (h:TIok P t i) (hd:i.d= .slice e esz bytes):P.underlying t=some (.slice e)∧∃inf,P.info? e=some inf∧inf.size=esz∧inf.bytes=bytes:=by
 obtain⟨d,hu,_,htd⟩:=h.und;rw [hd]at htd;cases d<;>simp only [tdB]at htd<;>try cases htd
 simp only [Bool.and_eq_true]at htd;obtain⟨h1,h2⟩:=htd;obtain rfl:=beqT h1;refine⟨hu, ?_⟩;cases hi:P.info? e with
 |none=>simp [hi]at h2
 |some inf=>simp only [hi,Bool.and_eq_true]at h2;exact⟨inf,rfl,beqT h2.1,beqT h2.2⟩
theorem TIok.arr {len e esz:Nat} (h:TIok P t i) (hd:i.d= .arr len e esz):P.underlying t=some (.array len e)∧szB P e esz=true:=by
 obtain⟨d,hu,_,htd⟩:=h.und;rw [hd]at htd;cases d<;>simp only [tdB]at htd<;>try cases htd
 simp only [Bool.and_eq_true]at htd;obtain⟨h1,h2,h3⟩:=htd;obtain rfl:=beqT h1;obtain rfl:=beqT h2;exact⟨hu,h3⟩
theorem TIok.strg (h:TIok P t i) (hd:i.d= .str):P.underlying t=some .string:=by
 obtain⟨d,hu,_,htd⟩:=h.und;rw [hd]at htd;cases d<;>simp only [tdB]at htd<;>first|exact hu|cases htd
theorem kEq_eq {a b:IntKind} (h:kEq a b=true):a=b:=by cases a<;>cases b<;>first|rfl|(simp [kEq]at h)
theorem eqC_spec {H:Hp} {k:CK} {x y:SV} {e:Bool} (h:eqC k x y=some e):typedC k (den H x)∧typedC k (den H y)∧e=eqV (den H x) (den H y):=by
 unfold eqC at h;split at h
 · split at h
   · rename_i h1 h2;cases h;exact⟨(kEq_eq h1).symm,(kEq_eq h2).symm,rfl⟩
   · cases h
 · cases h;exact⟨trivial,trivial,rfl⟩
 · cases h;exact⟨trivial,trivial,rfl⟩
 · cases h
theorem eqCs_spec {H:Hp} {ks:List CK} {l m:List SV} {e:Bool} (h:eqCs ks l m=some e):typedCs ks (denL H l)∧typedCs ks (denL H m)∧e=eqVs (denL H l) (denL H m):=by
 induction ks generalizing l m e with
 |nil=>cases l<;>cases m<;>simp [eqCs]at h;subst h;exact⟨trivial,trivial,rfl⟩
 |cons k ks ih=>
  match l,m,h with
  | [], [],h=>cases ks<;>simp [eqCs]at h
  | [],_::_,h=>cases ks<;>simp [eqCs]at h
  |_::_, [],h=>cases ks<;>simp [eqCs]at h
  |x::l,y::m,h=>
   cases ks with
   |nil=>
    cases l with
    |nil=>cases m with
     |nil=>
      simp only [eqCs]at h;obtain⟨h1,h2,h3⟩:=eqC_spec (H:=H) h;exact⟨⟨h1,trivial⟩,⟨h2,trivial⟩,by simp [denL,eqVs,h3]⟩
     |cons z m=>simp [eqCs]at h
    |cons z l=>simp [eqCs]at h
   |cons k2 ks=>
    simp only [eqCs]at h;split at h
    · rename_i a b ha hb;cases h;obtain⟨h1,h2,h3⟩:=eqC_spec (H:=H) ha;obtain⟨g1,g2,g3⟩:=ih hb;exact⟨⟨h1,g1⟩,⟨h2,g2⟩,by rw [h3,g3];rfl⟩
    · cases h
theorem typedCs_length {ks:List CK} {xs:List Value} (h:typedCs ks xs):xs.length=ks.length:=by
 induction ks generalizing xs with
 |nil=>cases xs<;>simp_all [typedCs]
 |cons k ks ih=>cases xs with
  |nil=>simp [typedCs]at h
  |cons x xs=>simp only [typedCs]at h;simp [ih h.2]
theorem typedCs_split {k1 k2:List CK} {xs:List Value} (h:typedCs (k1++k2) xs):∃a b,xs=a++b∧typedCs k1 a∧typedCs k2 b:=by
 induction k1 generalizing xs with
 |nil=>exact⟨[],xs,rfl,trivial,h⟩
 |cons k ks ih=>cases xs with
  |nil=>simp [typedCs]at h
  |cons x xs=>
   simp only [List.cons_append,typedCs]at h;obtain⟨a,b,rfl,h1,h2⟩:=ih h.2;exact⟨x::a,b,rfl,⟨h.1,h1⟩,h2⟩
theorem eqVs_append {a b c d:List Value} (h:a.length=c.length):eqVs (a++b) (c++d)=(eqVs a c&&eqVs b d):=by
 induction a generalizing c with
 |nil=>cases c with
  |nil=>simp [eqVs]
  |cons x c=>simp at h
 |cons x a ih=>cases c with
  |nil=>simp at h
  |cons y c=>simp only [List.cons_append,eqVs];rw [ih (by simpa using h)];simp [Bool.and_assoc]
def isStruct (P:Program) (t:Nat):Bool:=match P.underlying t with|some d=>isAggD d|none=>false
def mkV (P:Program) (t:Nat) (xs:List Value):Value:=match isStruct P t with
 |true=> .agg xs.toArray
 |false=>xs.headD undef
theorem flatK_part {d:Nat} {ks:List CK} (hk:flatK P d t=some ks) (hsz:szB P t ks.length=true) {pre xs post:List Value} (hx:typedCs ks xs) (w:World):
 (part t (pre++(xs++post)).toArray pre.length).run P w= .ok (mkV P t xs) w:=by
 have hl:=typedCs_length hx;cases d with
 |zero=>simp [flatK]at hk
 |succ d=>
  unfold flatK at hk;cases hu:P.underlying t with
  |none=>simp [hu]at hk
  |some td=>
   have hag:(isAgg t).run P w= .ok (isAggD td) w:=by
    simp only [isAgg,Sem.run_bind,run_und hu,Result.andThen_ok];cases td<;>rfl
   simp only [part,Sem.run_bind,hag,Result.andThen_ok,mkV,isStruct,hu];cases hg:isAggD td with
   |true=>
    simp only [if_true,Sem.run_bind,szB_run hsz,Result.andThen_ok,Sem.run_pure];congr 2;apply Array.ext';simp [←hl]
   |false=>
    simp only [hu]at hk;have h1:ks.length=1:=by cases td<;>simp_all [isAggD]<;>(subst hk;rfl)
    match xs,hl with
    | [x],_=>simp
    | [],hl=>simp [h1]at hl
    |_::_::_,hl=>simp [h1]at hl
theorem flatK_eq (d:Nat):∀(D t:Nat) (ks:List CK),flatK P d t=some ks→d≤D→∀(xs ys:List Value) (w:World),typedCs ks xs→typedCs ks ys→
 (Op.equalIn D t (mkV P t xs) (mkV P t ys)).run P w= .ok (eqVs xs ys) w:=by
 induction d with
 |zero=>intro D t ks hk;simp [flatK]at hk
 |succ d ih=>
  intro D t ks hk hD xs ys w hx hy;obtain⟨D,rfl⟩:∃D',D=D'+1:=⟨D-1,by omega⟩;unfold flatK at hk;cases hu:P.underlying t with
  |none=>simp [hu]at hk
  |some td=>
   simp only [hu]at hk;cases td with
   |int k=>
    simp only [Option.some.injEq]at hk;subst hk
    match xs,ys,hx,hy with
    | [.int k1 a], [.int k2 b],hx,hy=>
     simp only [typedCs,typedC]at hx hy;obtain⟨rfl,_⟩:=hx;obtain⟨rfl,_⟩:=hy;simp [mkV,isStruct,hu,isAggD,Op.equalIn,run_und hu,eqVs,eqV]
   |bool=>
    simp only [Option.some.injEq]at hk;subst hk
    match xs,ys,hx,hy with
    | [.bool a], [.bool b],hx,hy=>simp [mkV,isStruct,hu,isAggD,Op.equalIn,run_und hu,eqVs,eqV]
   |string=>
    simp only [Option.some.injEq]at hk;subst hk
    match xs,ys,hx,hy with
    | [.string a], [.string b],hx,hy=>simp [mkV,isStruct,hu,isAggD,Op.equalIn,run_und hu,eqVs,eqV,beq_toListBytes]
   |struct F=>
    simp only at hk;split at hk
    · cases hk
    · rename_i hst;have hF:P.fieldsOf t=F:=by simp [Program.fieldsOf,hu]
      have e1:mkV P t xs= .agg xs.toArray:=by simp [mkV,isStruct,hu,isAggD]
      have e2:mkV P t ys= .agg ys.toArray:=by simp [mkV,isStruct,hu,isAggD]
      rw [e1,e2,run_equalIn_struct w D t _ _ (by rw [hF];exact hu) (by simpa using hst),hF]
      have key:∀(fs:List Field) (off:Nat) (ks:List CK),flatFs P (flatK P d) off fs=some ks→∀(p q xs ys:List Value) (w:World),p.length=off→q.length=off→typedCs ks xs→typedCs ks ys→
       (Op.eqFields D (p++xs).toArray (q++ys).toArray fs).run P w= .ok (eqVs xs ys) w:=by
       intro fs
       induction fs with
       |nil=>
        intro off ks hk p q xs ys w _ _ hx hy;simp only [flatFs,Option.some.injEq]at hk;subst hk;cases xs with
        |nil=>simp [Op.eqFields,eqVs]
        |cons x xs=>simp [typedCs]at hx
       |cons f fs ihf=>
        intro off ks hk p q xs ys w hp hq hx hy;simp only [flatFs]at hk;split at hk
        · rename_i hn;split at hk
          · rename_i k1 hk1;split at hk
            · rename_i hsz;split at hk
              · rename_i r hr;simp only [Option.some.injEq]at hk;subst hk;obtain⟨a,b,rfl,ha,hb⟩:=typedCs_split hx;obtain⟨a',b',rfl,ha',hb'⟩:=typedCs_split hy;have hla:=typedCs_length ha;have hla':=typedCs_length ha';have hp1:=flatK_part (pre:=p) (post:=b) hk1 hsz ha w;have hp2:=flatK_part (pre:=q) (post:=b') hk1 hsz ha' w;rw [hp]at hp1;rw [hq]at hp2;have he:=ih D f.type k1 hk1 (by omega) a a' w ha ha';have hrest:=ihf _ _ hr (p++a) (q++a') b b' w (by simp [hp,hla]) (by simp [hq,hla']) hb hb';simp only [List.append_assoc]at hrest;simp only [Op.eqFields,hn.1,ne_eq,not_false_eq_true,if_true,hn.2,Sem.run_bind,hp1,hp2,Result.andThen_ok,he,eqVs_append (hla.trans hla'.symm)];cases eqVs a a'<;>simp [hrest]
              · cases hk
            · cases hk
          · cases hk
        · cases hk
      exact key F.toList 0 ks hk [] [] xs ys w rfl rfl hx hy
   |array n e=>
    simp only at hk;split at hk
    · rename_i k1 hk1;split at hk
      · rename_i hsz;simp only [Option.some.injEq]at hk;subst hk;obtain⟨inf,hi1,hi2⟩:=szB_info hsz;have hcell:P.cellsOf e=k1.length:=by simp [Program.cellsOf,hi1,hi2]
        have e1:mkV P t xs= .agg xs.toArray:=by simp [mkV,isStruct,hu,isAggD]
        have e2:mkV P t ys= .agg ys.toArray:=by simp [mkV,isStruct,hu,isAggD]
        rw [e1,e2,run_equalIn_array w D _ _ hu hi1,hcell,List.range_eq_range']
        have key:∀(m j:Nat) (p q xs ys:List Value) (w:World),p.length=j*k1.length→q.length=j*k1.length→typedCs (List.replicate m k1).flatten xs→typedCs (List.replicate m k1).flatten ys→
         (Op.eqItems D e k1.length (p++xs).toArray (q++ys).toArray (List.range' j m)).run P w= .ok (eqVs xs ys) w:=by
         intro m
         induction m with
         |zero=>
          intro j p q xs ys w _ _ hx hy;cases xs with
          |nil=>cases ys with
           |nil=>simp [Op.eqItems,eqVs]
           |cons y ys=>simp [typedCs]at hy
          |cons x xs=>simp [typedCs]at hx
         |succ m ihm=>
          intro j p q xs ys w hp hq hx hy;rw [List.replicate_succ,List.flatten_cons]at hx hy;obtain⟨a,b,rfl,ha,hb⟩:=typedCs_split hx;obtain⟨a',b',rfl,ha',hb'⟩:=typedCs_split hy;have hla:=typedCs_length ha;have hla':=typedCs_length ha';have hp1:=flatK_part (pre:=p) (post:=b) hk1 hsz ha w;have hp2:=flatK_part (pre:=q) (post:=b') hk1 hsz ha' w;rw [hp]at hp1;rw [hq]at hp2;have he:=ih D e k1 hk1 (by omega) a a' w ha ha';have hrest:=ihm (j+1) (p++a) (q++a') b b' w (by rw [List.length_append,hp,hla,Nat.add_mul,Nat.one_mul]) (by rw [List.length_append,hq,hla',Nat.add_mul,Nat.one_mul]) hb hb';simp only [List.append_assoc]at hrest;simp only [List.range'_succ,Op.eqItems,Sem.run_bind,hp1,hp2,Result.andThen_ok,he,eqVs_append (hla.trans hla'.symm)];cases eqVs a a'<;>simp [hrest]
        exact key n 0 [] [] xs ys w (by simp) (by simp) hx hy
      · cases hk
    · cases hk
   |_=>simp at hk
end
theorem cellsA_den {H:Hp} {s:SV} {l:List SV} {b:Bool} (h:cellsA b s=some l):(b=true∧den H s= .agg (denL H l).toArray)∨(b=false∧∃x,den H s= .bool x∧denL H l= [.bool x]):=by
 unfold cellsA at h;split at h
 · cases h;exact .inl ⟨rfl,by simp [den]⟩
 · cases h;exact .inl ⟨rfl,by simp [den,denL_vs]⟩
 · cases h;exact .inr ⟨rfl,_,rfl,rfl⟩
 · cases h
theorem TIok.run_eq {P:Program} {t:Nat} {i:TI} {ks:List CK} (h:TIok P t i) (hk:i.eq=some ks) {H:Hp} {s r:SV} {l m:List SV} {e:Bool}
 (hs:cellsA i.agg s=some l) (hr:cellsA i.agg r=some m) (he:eqCs ks l m=some e) (x y:Operand) (w:World):
 (do eqGuard .eql t x y (den H s) (den H r);binOp .eql t (den H s) (den H r)).run P w= .ok (.bool e) w∧
 (do eqGuard .neq t x y (den H s) (den H r);binOp .neq t (den H s) (den H r)).run P w= .ok (.bool (!e)) w:=by
 obtain⟨d,hu,ha,_⟩:=h.und;have hc:=h.chk;simp only [chkD,hu,hk,Bool.and_eq_true,Bool.not_eq_true']at hc;obtain⟨_,_,hfl,hg⟩:=hc;have hfl':flatK P 100 t=some ks:=by simpa using hfl
 obtain⟨h1,h2,h3⟩:=eqCs_spec (H:=H) he;have hq:=flatK_eq (P:=P) 100 10000 t ks hfl' (by decide) _ _ w h1 h2;rw [←h3]at hq;rcases cellsA_den (H:=H) hs with⟨ga,gs⟩|⟨ga,b1,gs,gl⟩
 · rcases cellsA_den (H:=H) hr with⟨_,gr⟩|⟨gb,_⟩
   · have hst:isStruct P t=true:=by simp [isStruct,hu,←ha,ga]
     simp only [mkV,hst]at hq;rw [gs,gr];constructor
     · simp [run_eqGuard_agg w .eql t x y _ _ hg,run_eql_struct,hq]
     · simp [run_eqGuard_agg w .neq t x y _ _ hg,run_neq_struct,hq]
   · rw [ga]at gb;cases gb
 · rcases cellsA_den (H:=H) hr with⟨gb,_⟩|⟨_,b2,gr,gm⟩
   · rw [ga]at gb;cases gb
   · have hst:isStruct P t=false:=by simp [isStruct,hu,←ha,ga]
     simp only [mkV,hst,gl,gm,List.headD]at hq;rw [gs,gr];constructor
     · simp [eqGuard,binOp,Op.equal,Op.maxDepth,hq]
     · simp [eqGuard,binOp,Op.equal,Op.maxDepth,hq]
theorem sameBits_eqV {k:CK} {x y:Value} (n:Nat) (hx:typedC k x) (hy:typedC k y) (h:eqV x y=true):Instr.sameBits (n+1) y x=true:=by
 cases k with
 |int k=>
  cases x<;>simp only [typedC]at hx;cases y<;>simp only [typedC]at hy;simp only [eqV,beq_iff_eq]at h;subst hx hy h;simp [Instr.sameBits]
 |bool=>
  cases x<;>simp only [typedC]at hx;cases y<;>simp only [typedC]at hy;simp only [eqV,beq_iff_eq]at h;subst h;simp [Instr.sameBits]
 |str=>
  cases x<;>simp only [typedC]at hx;cases y<;>simp only [typedC]at hy;rename_i a b;simp only [eqV]at h;have h2:(b==a)=true:=by rw [beq_toListBytes];simp only [beq_iff_eq]at h⊢;exact h.symm
  simpa only [Instr.sameBits]using h2
theorem sameBits_eqVs:∀ {ks:List CK} {xs ys:List Value} (n:Nat),typedCs ks xs→typedCs ks ys→eqVs xs ys=true→(ys.zip xs).all (fun(x,y)=>Instr.sameBits (n+1) x y)=true∧ys.length=xs.length
 | [], [], [],_,_,_,_=>⟨rfl,rfl⟩
 |k::ks,x::xs,y::ys,n,hx,hy,h=>by
  simp only [typedCs]at hx hy;simp only [eqVs,Bool.and_eq_true]at h;obtain⟨h1,h2⟩:=sameBits_eqVs n hx.2 hy.2 h.2;exact⟨by simp only [List.zip_cons_cons,List.all_cons,sameBits_eqV n hx.1 hy.1 h.1,Bool.true_and];exact h1,by simp [h2]⟩
 | [],_::_,_,_,hx,_,_=>by simp [typedCs]at hx
 |_::_, [],_,_,hx,_,_=>by simp [typedCs]at hx
 |_::_,_::_, [],_,_,hy,_=>by simp [typedCs]at hy
 | [], [],_::_,_,_,hy,_=>by simp [typedCs]at hy
theorem sameNow_eq {k:CK} {d:TypeDesc} {x y:Value} (hd:match k,d with| .int _, .int _=>True| .bool, .bool=>True| .str, .string=>True|_,_=>False) (hx:typedCs [k] [x]) (hy:typedCs [k] [y]):Instr.sameNow d x y=some (eqV x y):=by
 have hx:=hx.1;have hy:=hy.1;cases k with
 |int k=>
  cases d<;>first|exact hd.elim|skip
  cases x<;>simp only [typedC]at hx;cases y<;>simp only [typedC]at hy;subst hx hy;simp [Instr.sameNow,eqV]
 |bool=>
  cases d<;>first|exact hd.elim|skip
  cases x<;>simp only [typedC]at hx;cases y<;>simp only [typedC]at hy;rfl
 |str=>
  cases d<;>first|exact hd.elim|skip
  cases x<;>simp only [typedC]at hx;cases y<;>simp only [typedC]at hy;simp only [Instr.sameNow,eqV,beq_toListBytes]
def findIx:List MapEntry→List Value→Nat→Option (Nat×Value)
 | [],_,_=>none
 |e::r,kc,i=>match eqVs kc (cellsK e.key)with|true=>some (i,e.val)|false=>findIx r kc (i+1)
theorem eqVs_one (x y:Value):eqVs [x] [y]=eqV x y:=by simp [eqVs]
theorem run_findKey_flat {P:Program} {kt:TypeId} {ks:List CK} (hfl:flatK P 100 kt=some ks) {kc:List Value} (hk:typedCs ks kc) (w:World) (es:List MapEntry)
 (he:∀e,e∈es→typedCs ks (cellsK e.key)∧e.key=mkV P kt (cellsK e.key)):(Instr.findKey kt (mkV P kt kc) es).run P w= .ok (findIx es kc 0) w:=by
 have hfl':=hfl;unfold flatK at hfl;cases hu:P.underlying kt with
 |none=>simp [hu]at hfl
 |some d=>
  have plain:isAggD d=false→(∀x y:Value,typedCs ks [x]→typedCs ks [y]→Instr.sameNow d x y=some (eqV x y))→ks.length=1→(Instr.findKey kt (mkV P kt kc) es).run P w= .ok (findIx es kc 0) w:=by
   intro hag hs hl;have hst:isStruct P kt=false:=by simp [isStruct,hu,hag]
   obtain⟨x,rfl⟩:∃x,kc= [x]:=by
    have:=typedCs_length hk;rw [hl]at this
    match kc,this with
    | [x],_=>exact⟨x,rfl⟩
   have key:∀(es:List MapEntry) (i:Nat),(∀e,e∈es→typedCs ks (cellsK e.key)∧e.key=mkV P kt (cellsK e.key))→Instr.findNow d x es i=some (findIx es [x] i):=by
    intro es
    induction es with
    |nil=>intro i _;rfl
    |cons e es ih=>
     intro i he;obtain⟨h1,h2⟩:=he e List.mem_cons_self
     obtain⟨y,hy⟩:∃y,cellsK e.key= [y]:=by
      have:=typedCs_length h1;rw [hl]at this
      match cellsK e.key,this with
      | [y],_=>exact⟨y,rfl⟩
     rw [hy]at h1 h2;simp only [mkV,hst,List.headD_cons]at h2;have h3:=hs x y hk h1;simp only [Instr.findNow,findIx];rw [hy,eqVs_one,h2,h3];cases eqV x y with
     |true=>rfl
     |false=>exact ih (i+1) fun e hm=>he e (List.mem_cons_of_mem _ hm)
   have:=MapKept.run_findKey (w:=w) hu (key es 0 he);simpa [mkV,hst]using this
  rw [hu]at hfl;cases d<;>simp only [reduceCtorEq]at hfl
  case int k=>
   cases hfl;exact plain rfl (fun x y hx hy=>sameNow_eq trivial hx hy) rfl
  case bool=>
   cases hfl;exact plain rfl (fun x y hx hy=>sameNow_eq trivial hx hy) rfl
  case string=>
   cases hfl;exact plain rfl (fun x y hx hy=>sameNow_eq trivial hx hy) rfl
  case struct F=>
   have hst:isStruct P kt=true:=by simp [isStruct,hu,isAggD]
   have ask:∀(es:List MapEntry) (i:Nat),(∀e,e∈es→typedCs ks (cellsK e.key)∧e.key=mkV P kt (cellsK e.key))→(Instr.findAsking kt (mkV P kt kc) es i).run P w= .ok (findIx es kc i) w:=by
    intro es
    induction es with
    |nil=>intro i _;rfl
    |cons e es ih=>
     intro i he;obtain⟨h1,h2⟩:=he e List.mem_cons_self;have hq:=flatK_eq (P:=P) 100 10000 kt ks hfl' (by decide) _ _ w hk h1;rw [←h2]at hq;simp only [Instr.findAsking,Sem.run_bind,findIx];rw [show(Op.equal kt (mkV P kt kc) e.key).run P w=_ from hq];simp only [Result.andThen_ok];cases eqVs kc (cellsK e.key)with
     |true=>rfl
     |false=>exact ih (i+1) fun e hm=>he e (List.mem_cons_of_mem _ hm)
   simp only [Instr.findKey,Sem.run_bind,run_und hu,Result.andThen_ok];cases es with
   |nil=>rfl
   |cons e es=>
    have:Instr.findNow (.struct F) (mkV P kt kc) (e::es) 0=none:=by
     obtain⟨_,h2⟩:=he e List.mem_cons_self;rw [Instr.findNow];simp [Instr.sameNow]
    rw [this];exact ask (e::es) 0 he
  case array an ae=>
   have hst:isStruct P kt=true:=by simp [isStruct,hu,isAggD]
   have ask:∀(es:List MapEntry) (i:Nat),(∀e,e∈es→typedCs ks (cellsK e.key)∧e.key=mkV P kt (cellsK e.key))→(Instr.findAsking kt (mkV P kt kc) es i).run P w= .ok (findIx es kc i) w:=by
    intro es
    induction es with
    |nil=>intro i _;rfl
    |cons e es ih=>
     intro i he;obtain⟨h1,h2⟩:=he e List.mem_cons_self;have hq:=flatK_eq (P:=P) 100 10000 kt ks hfl' (by decide) _ _ w hk h1;rw [←h2]at hq;simp only [Instr.findAsking,Sem.run_bind,findIx];rw [show(Op.equal kt (mkV P kt kc) e.key).run P w=_ from hq];simp only [Result.andThen_ok];cases eqVs kc (cellsK e.key)with
     |true=>rfl
     |false=>exact ih (i+1) fun e hm=>he e (List.mem_cons_of_mem _ hm)
   simp only [Instr.findKey,Sem.run_bind,run_und hu,Result.andThen_ok];cases es with
   |nil=>rfl
   |cons e es=>
    have:Instr.findNow (.array an ae) (mkV P kt kc) (e::es) 0=none:=by
     obtain⟨_,h2⟩:=he e List.mem_cons_self;rw [Instr.findNow];simp [Instr.sameNow]
    rw [this];exact ask (e::es) 0 he
theorem plainKT_key {P:Program} {t:TypeId} (h:plainKT P t=true):P.plainKey t=true:=by
 unfold plainKT at h;unfold Program.plainKey;split at h<;>simp_all
theorem run_checkKey_pl {P:Program} {t:TypeId} (h:plainKT P t=true) (v:Value) (w:World) (e:Bool) (n:Nat):(Instr.checkKey e (n+1) t v).run P w= .ok () w:=by
 unfold plainKT at h;split at h<;>first|cases h|skip
 all_goals
  rename_i hu;rw [Instr.checkKey];simp only [Sem.run_bind,run_und hu,Result.andThen_ok];rfl
theorem run_checkKey_flat {P:Program} {kt:TypeId} {kc:List Value} (hb:keyTB P kt kc.length=true) (w:World) (e:Bool) (n:Nat):(Instr.checkKey e (n+2) kt (mkV P kt kc)).run P w= .ok () w:=by
 unfold keyTB at hb;split at hb
 · rename_i F hu;have hst:isStruct P kt=true:=by simp [isStruct,hu,isAggD]
   rw [Instr.checkKey];simp only [Sem.run_bind,run_und hu,Result.andThen_ok,mkV,hst];rw [←Array.forIn_toList];generalize F.toList=L at hb
   induction L with
   |nil=>rfl
   |cons f L ih=>
    simp only [List.all_cons,Bool.and_eq_true,bne_iff_ne,ne_eq,Nat.blt_eq]at hb;obtain⟨⟨⟨h1,h2⟩,h3⟩,h4⟩:=hb;have hp:=run_part_plain (P:=P) w (plainKT_key h2) (xs:=kc.toArray) (off:=f.offset) (v:=kc[f.offset]) (by simp);have hc:=run_checkKey_pl h2 kc[f.offset] w e n;simp only [List.forIn_cons,Sem.run_bind,h1,ne_eq,not_false_eq_true,if_true,Result.andThen_ok,hp,hc,Sem.run_pure];exact ih h4
 · exact run_checkKey_pl hb _ w e (n+1)
theorem MTok.flat {P:Program} {tt:List (Nat×TI)} {m:MTy} (hT:TTok P tt) (h:MTok P tt m):flatK P 100 m.kt=some m.ks∧(∀xs,mkV P m.kt xs=mkKey m.ag xs)∧(m.ag=false→m.ks.length=1):=by
 have hk:=h.key;cases hi:getT tt m.kt with
 |none=>simp [hi]at hk
 |some i=>
  simp only [hi,Option.map_some,Option.some.injEq,Prod.mk.injEq]at hk;obtain⟨he,ha⟩:=hk;have hti:=hT _ _ hi;obtain⟨d,hu,hag,_⟩:=hti.und;have hc:=hti.chk;unfold chkD at hc;rw [hu]at hc;simp only [he,Bool.and_eq_true,beq_iff_eq]at hc;have hst:isStruct P m.kt=m.ag:=by simp [isStruct,hu,←ha,hag]
  refine⟨hc.2.2.1,fun xs=> ?_,fun h0=> ?_⟩
  · unfold mkV mkKey;rw [hst]
    all_goals (cases m.ag<;>rfl)
  · have hfl:=hc.2.2.1;have hd:isAggD d=false:=by rw [←hag,ha,h0]
    unfold flatK at hfl;rw [hu]at hfl;cases d<;>simp only [reduceCtorEq]at hfl<;>first|(rw [←Option.some.inj hfl];rfl)|cases hd
theorem keyOK_of {m:MTy} {k:Value} (h:keyOK m k):typedCs m.ks (cellsK k)∧k=mkKey m.ag (cellsK k):=by
 unfold keyOK at h;cases hag:m.ag with
 |true=>
  rw [hag]at h;cases k<;>simp only at h<;>first|exact h.elim|exact⟨h,by simp [mkKey,cellsK]⟩
 |false=>
  rw [hag]at h;cases k<;>simp only at h<;>first|exact h.elim|exact⟨h,by simp [mkKey,cellsK]⟩
theorem findIx_lkp:∀(es:List MapEntry) (kc:List Value) (i:Nat),(findIx es kc i).map (·.2)=lkpV (es.map fun e=>(e.key,e.val)) kc
 | [],_,_=>rfl
 |e::es,kc,i=>by
  simp only [findIx,List.map_cons,lkpV];cases eqVs kc (cellsK e.key)with
  |true=>rfl
  |false=>exact findIx_lkp es kc (i+1)
theorem findIx_none {kv x:Value}:∀(es:List MapEntry) (kc:List Value) (i:Nat),findIx es kc i=none→updV kv x (es.map fun e=>(e.key,e.val)) kc=es.map (fun e=>(e.key,e.val))++ [(kv,x)]
 | [],_,_,_=>rfl
 |e::es,kc,i,h=>by
  simp only [findIx]at h;simp only [List.map_cons,updV];cases he:eqVs kc (cellsK e.key)with
  |true=>rw [he]at h;cases h
  |false=>rw [he]at h;simp only;rw [findIx_none es kc (i+1) h];rfl
theorem findIx_some {kv x v:Value} {j:Nat}:∀(es:List MapEntry) (kc:List Value) (i:Nat),findIx es kc i=some (j,v)→
 i≤j∧∃e,es[j-i]?=some e∧eqVs kc (cellsK e.key)=true∧updV kv x (es.map fun e=>(e.key,e.val)) kc=(es.map fun e=>(e.key,e.val)).set (j-i) (kv,x)
 | [],_,_,h=>by cases h
 |e::es,kc,i,h=>by
  simp only [findIx]at h;simp only [List.map_cons,updV];cases he:eqVs kc (cellsK e.key)with
  |true=>rw [he]at h;cases h;exact⟨Nat.le_refl _,e,by simp,he,by simp⟩
  |false=>
   rw [he]at h;obtain⟨h1,e',h2,h3,h4⟩:=findIx_some (kv:=kv) (x:=x) es kc (i+1) h;have hj:j-i=(j-(i+1))+1:=by omega
   exact⟨by omega,e',by rw [hj];simpa using h2,h3,by rw [hj];simp only [h4];simp⟩
section
variable {P : Program} {tt : List (Nat × TI)} {m : MTy} {w : World} {b : Nat} {es : List (Value × Value)} {kc : List Value}
theorem MapAt.keys {arr:Array MapEntry} (hes:arr.toList.map (fun e=>(e.key,e.val))=es) (hk:∀p,p∈es→keyOK m p.1∧plV p.2=true) (hT:TTok P tt) (hm:MTok P tt m):
 ∀e,e∈arr.toList→typedCs m.ks (cellsK e.key)∧e.key=mkV P m.kt (cellsK e.key):=by
 intro e he;have:=(hk (e.key,e.val) (by rw [←hes];exact List.mem_map.2 ⟨e,he,rfl⟩)).1;rw [(hm.flat hT).2.1];exact keyOK_of this
theorem run_zeroM (hm:MTok P tt m) (w:World):(zeroValue m.et).run P w= .ok m.z w:=by
 have hz:=hm.z;cases hi:P.info? m.et with
 |none=>simp [hi]at hz
 |some inf=>simp [hi]at hz;simp [zeroValue,typeInfo,hi,hz]
theorem run_lookupM (hT:TTok P tt) (hm:MTok P tt m) (h:MapAt w b es m) (hk:typedCs m.ks kc) (ok:Bool):
 (Instr.lookup m.t (.map (some b)) (mkKey m.ag kc) ok).run P w= .ok (if ok then .tuple #[(lkpV es kc).getD m.z, .bool (lkpV es kc).isSome]else(lkpV es kc).getD m.z) w:=by
 obtain⟨arr,c,hb,hes,hks⟩:=h;obtain⟨hfl,hmk,_⟩:=hm.flat hT;have h1:=MapKept.run_getObj_map (P:=P) hb;have hlen:kc.length=m.ks.length:=typedCs_length hk;have h2:=run_checkKey_flat (P:=P) (kt:=m.kt) (kc:=kc) (by rw [hlen];exact hm.kb) w arr.isEmpty 9998;have h3:=run_findKey_flat hfl hk w arr.toList (MapAt.keys hes hks hT hm);rw [hmk]at h2 h3;have h4:=findIx_lkp arr.toList kc 0;rw [hes]at h4;unfold Instr.lookup;simp only [Sem.run_bind,run_und hm.und,Result.andThen_ok,h1,h2,h3,Sem.run_pure];cases hf:findIx arr.toList kc 0 with
 |none=>
  rw [hf]at h4;simp only [Option.map_none]at h4;rw [←h4];simp only [Sem.run_bind,run_zeroM hm,Result.andThen_ok,Sem.run_pure];cases ok<;>rfl
 |some p=>
  rw [hf]at h4;simp only [Option.map_some]at h4;rw [←h4];simp only [Sem.run_pure,Result.andThen_ok];cases ok<;>rfl
theorem run_keyStaysM {k1:Value} (h1:typedCs m.ks (cellsK k1)) (e1:k1=mkKey m.ag (cellsK k1)) (h2:typedCs m.ks kc) (hlen:m.ag=false→m.ks.length=1) (he:eqVs kc (cellsK k1)=true) (w:World):(Instr.keyThatStays k1 (mkKey m.ag kc)).run P w= .ok (mkKey m.ag kc) w:=by
 have hs:Instr.sameBits 10000 k1 (mkKey m.ag kc)=true:=by
  rw [e1];have g1':=(sameBits_eqVs 9999 h2 h1 he).1;obtain⟨g1,g2⟩:=sameBits_eqVs 9998 h2 h1 he;cases hag:m.ag with
  |true=>
   simp only [mkKey];rw [Instr.sameBits];simp only [List.size_toArray,Bool.and_eq_true,beq_iff_eq];exact⟨g2,g1⟩
  |false=>
   simp only [mkKey];have l1:=typedCs_length h1;have l2:=typedCs_length h2;rw [hlen hag]at l1 l2
   match hx:cellsK k1,kc,l1,l2 with
   | [a], [b],_,_=>
    rw [hx]at g1';simpa using g1'
 simp [Instr.keyThatStays,hs]
theorem keyOK_mk (hT:TTok P tt) (hm:MTok P tt m) (hk:typedCs m.ks kc):keyOK m (mkKey m.ag kc)∧cellsK (mkKey m.ag kc)=kc:=by
 cases hag:m.ag with
 |true=>simp only [mkKey,keyOK,hag,cellsK];exact⟨by simpa using hk,by simp⟩
 |false=>
  have hl:=(hm.flat hT).2.2 hag;have hlen:=typedCs_length hk;rw [hl]at hlen
  match kc,hlen with
  | [x],_=>
   simp only [mkKey,List.headD_cons]
   have hx:∀a,x≠ .agg a:=fun a e=>by
    subst e
    match hks:m.ks,hl with
    | [k],_=>rw [hks]at hk;simp only [typedCs]at hk;cases k<;>simp [typedC]at hk
   cases x<;>first|exact absurd rfl (hx _)|exact⟨by simpa [keyOK,hag]using hk,rfl⟩
theorem run_mapUpdateM (hT:TTok P tt) (hm:MTok P tt m) (h:MapAt w b es m) (hk:typedCs m.ks kc) {x:Value} (hx:plV x=true):
 ∃w',(Instr.mapUpdate m.t (.map (some b)) (mkKey m.ag kc) x).run P w= .ok () w'∧MapAt w' b (updV (mkKey m.ag kc) x es kc) m∧Fx [b] w w'∧w'.heap.size=w.heap.size:=by
 obtain⟨arr,c,hb,hes,hks⟩:=h;obtain⟨hfl,hmk,hl1⟩:=hm.flat hT;have h1:=MapKept.run_getObj_map (P:=P) hb;have hlen:kc.length=m.ks.length:=typedCs_length hk;have h2:=run_checkKey_flat (P:=P) (kt:=m.kt) (kc:=kc) (by rw [hlen];exact hm.kb) w false 9998;have hkeys:=MapAt.keys hes hks hT hm;have h3:=run_findKey_flat hfl hk w arr.toList hkeys;rw [hmk]at h2 h3;obtain⟨hok,_⟩:=keyOK_mk hT hm hk;unfold Instr.mapUpdate;simp only [Sem.run_bind,run_und hm.und,Result.andThen_ok,h1,h2,h3]
 have fin:∀o:Obj,Fx [b] w { w with heap:=w.heap.setIfInBounds b o}∧({ w with heap:=w.heap.setIfInBounds b o}:World).heap.size=w.heap.size:=fun o=>
  ⟨⟨rfl,rfl,rfl,by simp,fun i hi hn=>(MapKept.heap_set (o':=o) hb).2 i fun e=>hn b (by simp) e.symm⟩,by simp⟩
 cases hf:findIx arr.toList kc 0 with
 |none=>
  have h4:=findIx_none (kv:=mkKey m.ag kc) (x:=x) arr.toList kc 0 hf;rw [hes]at h4;refine⟨_,MapKept.run_setObj_map _ hb,⟨_,_,(MapKept.heap_set hb).1, ?_,fun p hp=> ?_⟩,(fin _).1,(fin _).2⟩
  · rw [h4];simp [hes]
  · rw [h4]at hp;rcases List.mem_append.1 hp with hp|hp
    · exact hks p hp
    · simp only [List.mem_singleton]at hp;subst hp;exact⟨hok,hx⟩
 |some q=>
  obtain⟨j,v0⟩:=q;have h4:=findIx_some (kv:=mkKey m.ag kc) (x:=x) arr.toList kc 0 hf;rw [hes]at h4;obtain⟨_,e,g1,g2,g3⟩:=h4;simp only [Nat.sub_zero]at g1 g3;have g1':arr[j]?=some e:=by simpa using g1
  have hj:j<arr.size:=(Array.getElem?_eq_some_iff.1 g1').1;have hem:e∈arr.toList:=List.mem_of_getElem? g1;have hst:=run_keyStaysM (P:=P) (k1:=e.key) (hkeys e hem).1 (by have:=(hkeys e hem).2;rw [hmk]at this;exact this) hk hl1 g2 w;simp only [Sem.run_bind,g1',Option.map_some,Option.getD_some,hst,Result.andThen_ok];refine⟨_,MapKept.run_setObj_map _ hb,⟨_,_,(MapKept.heap_set hb).1, ?_,fun p hp=> ?_⟩,(fin _).1,(fin _).2⟩
  · rw [g3,←hes];apply List.ext_getElem?;intro i;simp only [List.getElem?_map,Array.getElem?_toList,Array.getElem?_modify,List.getElem?_set,List.length_map,Array.length_toList];by_cases hij:j=i
    · subst hij;simp [g1',hj]
    · simp [hij]
  · rw [g3]at hp;rcases List.mem_or_eq_of_mem_set hp with hp|hp
    · exact hks p hp
    · subst hp;exact⟨hok,hx⟩
end
def RdOK (st:St) (op:Op) (R:List Nat) (wc:World):Prop:=
 R= []∨(∃t p s b,op= .load t p∧ev st p=some s∧R= [b]∧b<wc.heap.size∧
  ((∃k e,tagOf s=some k∧findE st.H k=some e∧b∈bsE e)∨(tagOf s=none∧(∃off,s= .v (.pointer (some ⟨b,off,none⟩)))∧b∉bs st.H)))∨
 ∃t x ix ok,op= .lookup t x ix ok∧∀k,ev st x=some (.row k)→∃e b,findE st.H k=some e∧b∈bsE e∧R= [b]∧b<wc.heap.size
def OutOK (X:Cx) (st:St) (a:Act) (o:Oper):Out→Prop
 | .val s=>s≠ .bad∧∀wc,Cls X st.H st.nk st.w wc→∃R,RdOK st o.op R wc∧∀wc',(∀b,b∈R→wc'.heap[b]?=wc.heap[b]?)→(execOp a.eval o).run X.P wc'= .ok (.value (den st.H s)) wc'
 | .new cs ty sl=>∀wc,Cls X st.H st.nk st.w wc→(execOp a.eval o).run X.P wc=
  .ok (.value (match sl with|none=> .pointer (some ⟨wc.heap.size,0,none⟩)|some n=> .slice (some ⟨wc.heap.size,0,none⟩) n n)) (wc.alloc (.cells (denL st.H cs).toArray ty))
 | .call f args=>∀wc,(∃fn c,X.P.funcs[f]?=some fn∧fn.body=some c)→(execOp a.eval o).run X.P wc= .ok (.enter f (denL st.H args).toArray) wc
 | .upd k cs'=>∃b cs ty,findE st.H k=some (.blk b cs ty)∧∀wc,Cls X st.H st.nk st.w wc→∀xs,cellsR st.H cs xs→wc.heap[b]?=some (.cells xs.toArray ty (0,0))→
  ∃xs':List Value,cellsR st.H cs' xs'∧(execOp a.eval o).run X.P wc= .ok .skip (wc.setRow b xs'.toArray)
 | .updR k xs'=>∃v n xs sz ty,findE st.H k=some (.row v n xs sz ty)∧∀wc,Cls X st.H st.nk st.w wc→
  ∃wc',(execOp a.eval o).run X.P wc= .ok .skip wc'∧wc'.ownsRow 0 ty sz v n xs'∧wc.grownBy wc' v.ownBlock∧wc'.heap.size=wc.heap.size
 | .app e esz bytes s x=>s≠ .bad∧x≠ .bad∧∃t i,getT X.tt t=some i∧i.d= .slice e esz bytes∧(∃i2,getT X.tt e=some i2∧i2.n=esz)∧
  ∀wc,(execOp a.eval o).run X.P wc=((Builtin.append_ #[t,t] o.type #[den st.H s,den st.H x]).run X.P wc).andThen fun v w=> .ok (.value v) w
theorem rowsOK_of {X:Cx} {H:Hp} {nk:Nat} {w wc:World} (h:Cls X H nk w wc):RowsOK H:=by
 intro k v n xs sz ty hf;have:=h.own k _ (findE_mem hf);simp only [entAt]at this;rcases this.2 with⟨rfl,h0⟩|⟨g,cap,cur,rfl,_,_,hnc,_⟩
 · exact⟨none,0,0,rfl,fun h=>by omega⟩
 · exact⟨_,_,_,rfl,fun _=>⟨rfl,hnc,g,rfl⟩⟩
theorem kval_some {K:Out→Prop} {x:Option SV} (h:kval K x):∃s,x=some s∧K (.val s):=by
 cases x with
 |none=>exact h.elim
 |some s=>exact⟨s,rfl,h⟩
section
variable {X : Cx} {st : St} {a : Act} {o : Oper}
theorem lookR_some {T:List (Nat×SV)} {d:Nat} {s:SV} (h:lookR T d=some s):d<gbase∧look T d=some s:=by
 unfold lookR at h;split at h
 · rename_i hb;exact⟨by simpa [Nat.blt_eq]using hb,h⟩
 · cases h
theorem ev_spec (hT:∀d s,d<gbase→look st.T d=some s→s= .bad∨a.tmps[d]?=some (den st.H s)) {x:Operand} {s:SV} (h:ev st x=some s):s≠ .bad∧a.eval x=den st.H s:=by
 cases x with
 |tmp t=>
  simp only [ev]at h;split at h
  · cases h
  · rename_i hb;have hne:s≠ .bad:=fun e=>hb (by rw [h,e])
    refine⟨hne, ?_⟩;obtain⟨hlt,h⟩:=lookR_some h;rcases hT t s hlt h with e|e
    · exact absurd e hne
    · simp [Act.eval,e]
 |const v=>simp only [ev]at h;cases h;exact⟨by simp,rfl⟩
 |func f=>simp only [ev]at h;cases h;exact⟨by simp,by simp [Act.eval,den,denL]⟩
 |global g=>simp only [ev]at h;cases h;exact⟨by simp,rfl⟩
theorem evs_spec (hev:∀x s,ev st x=some s→s≠ .bad∧a.eval x=den st.H s) {l:List Operand} {r:List SV} (h:evs st l=some r):l.map a.eval=denL st.H r∧ .bad∉r:=by
 induction l generalizing r with
 |nil=>simp only [evs]at h;cases h;simp [denL]
 |cons x l ih=>
  simp only [evs]at h;split at h
  · rename_i s r' hs hr;cases h;obtain⟨h1,h2⟩:=hev x s hs;obtain⟨g1,g2⟩:=ih hr;exact⟨by simp [denL,h2,g1],by simp [g2];exact fun e=>h1 e.symm⟩
  · cases h
theorem add_off (b o j:Nat):(⟨b,o,none⟩:Addr).add j=⟨b,o+j,none⟩:=by unfold Addr.add;split<;>simp_all
theorem run_loadVar {P:Program} {t:Nat} {i:TI} (h:TIok P t i) {w:World} {b o:Nat} {cs:List Value} (hl:cs.length=i.n) (hc:∀j,j<i.n→w.cell? ⟨b,o+j,none⟩=cs[j]?)
 (h1:i.agg=false→cs.length=1):(loadVar t ⟨b,o,none⟩).run P w= .ok (if i.agg then .agg cs.toArray else cs.headD undef) w:=by
 simp only [loadVar,Sem.run_bind,h.run_isAgg,Result.andThen_ok];cases hg:i.agg with
 |true=>
  have:=run_loadCells_list (P:=P) w ⟨b,o,none⟩ cs (fun j v hv=>by
   rw [add_off,hc j (by rw [←hl];exact(List.getElem?_eq_some_iff.1 hv).1)];exact hv)
  rw [hl]at this;simp [h.run_size,this]
 |false=>
  match cs,h1 hg with
  | [x],_=>
   have:=hc 0 (by rw [←hl];simp);simp at this;simp [this]
theorem FRead.cells {own:Hp} {nk:Nat} {w wc:World} (hc:Cls X own nk w wc) {b o n:Nat} {cs:List Value} (h:FRead X own w b o n cs):
 cs.length=n∧∀j,j<n→wc.cell? ⟨b,o+j,none⟩=cs[j]?:=by
 refine⟨h.1,fun j hj=> ?_⟩;rcases h.2 with⟨h1,h2,h3⟩|⟨h1,h2⟩
 · rw [World.cell?_of_block (a:=⟨b,o+j,none⟩) (w:=X.w0) (hc.fx0.block b h1 ?_)]
   · exact h3 j hj
   · clear h1 h3 h hc;generalize X.bor=l at h2⊢
     induction l with
     |nil=>simp
     |cons x l ih=>
      simp only [neBor]at h2;intro y hy;rcases List.mem_cons.1 hy with rfl|hy
      · exact h2.1
      · exact ih h2.2 y hy
 · have hlt:b<w.heap.size:=by
    have h3:=h2 j hj;rw [List.getElem?_eq_getElem (by rw [h.1];exact hj)]at h3;exact World.block_lt_of_cell? w _ h3
   rw [World.cell?_of_block (a:=⟨b,o+j,none⟩) (w:=w) (hc.fx.block b hlt h1)];exact h2 j hj
theorem MRead.heap {own:Hp} {nk:Nat} {w wc:World} (hc:Cls X own nk w wc) {r c:Nat} {es:Array MapEntry} (h:MRead X own w r es c):wc.heap[r]?=some (.map es c):=by
 rcases h with⟨h1,h2,h3⟩|⟨h1,h2⟩
 · rw [hc.fx0.block r h1 ?_]
   · exact h3
   · clear h1 h3 hc;generalize X.bor=l at h2⊢
     induction l with
     |nil=>simp
     |cons x l ih=>
      simp only [neBor]at h2;intro y hy;rcases List.mem_cons.1 hy with rfl|hy
      · exact h2.1
      · exact ih h2.2 y hy
 · rw [hc.fx.block r (Array.getElem?_eq_some_iff.1 h2).1 h1];exact h2
theorem Cls.blk {H:Hp} {nk:Nat} {w wc:World} (hc:Cls X H nk w wc) {k b ty:Nat} {cs:List SV} (hf:findE H k=some (.blk b cs ty)):
 ∃xs,cellsR H cs xs∧wc.heap[b]?=some (.cells xs.toArray ty (0,0)):=hc.own k _ (findE_mem hf)
theorem Cls.row {H:Hp} {nk:Nat} {w wc:World} (hc:Cls X H nk w wc) {k n sz ty:Nat} {v:Value} {xs:List Value} (hf:findE H k=some (.row v n xs sz ty)):
 wc.ownsRow 0 ty sz v n xs:=hc.own k _ (findE_mem hf)
theorem cell_arr {w:World} {b ty:Nat} {xs:Array Value} {fr:Nat×Nat} (h:w.heap[b]?=some (.cells xs ty fr)) (j:Nat):w.cell? ⟨b,j,none⟩=xs[j]?:=by simp [World.cell?,h]
theorem bOf_blk {H:Hp} {k b ty:Nat} {cs:List SV} (h:findE H k=some (.blk b cs ty)):bOf H k=b:=by simp [bOf,h]
theorem bOf_row {H:Hp} {k n sz ty:Nat} {v:Value} {xs:List Value} (h:findE H k=some (.row v n xs sz ty)):bOf H k=blkOf v:=by simp [bOf,h]
theorem mk_val {H:Hp} {agg:Bool} {l:List SV} {s:SV} (h:mkv agg l=some s) (hb: .bad∉l):(if agg=true then Value.agg (denL H l).toArray else(denL H l).headD undef)=den H s:=by
 rcases(mkv_den (H:=H) h hb).2 with⟨rfl,e⟩|⟨rfl,e⟩
 · simp [e]
 · simp [e]
theorem mk_one {agg:Bool} {l:List SV} {s:SV} (h:mkv agg l=some s) (ha:agg=false):l.length=1:=by
 subst ha
 match l,h with
 | [x],_=>rfl
 | [],h=>simp [mkv]at h
 |_::_::_,h=>simp [mkv]at h
theorem valOf_val {H:Hp} {agg:Bool} {l:List Value} {s:SV} (h:valOf agg l=some s):(if agg=true then Value.agg l.toArray else l.headD undef)=den H s:=by
 rcases(valOf_den (H:=H) h).2 with⟨rfl,e⟩|⟨rfl,e⟩
 · simp [e]
 · simp [e]
theorem valOf_one {agg:Bool} {l:List Value} {s:SV} (h:valOf agg l=some s) (ha:agg=false):l.length=1:=by
 subst ha
 match l,h with
 | [x],_=>rfl
 | [],h=>simp [valOf]at h
 |_::_::_,h=>simp [valOf]at h
theorem take_get {α:Type} {xs l:List α} {o n:Nat} (h:(xs.drop o).take n=l) {j:Nat} (hj:j<n):xs[o+j]?=l[j]?:=by
 rw [←h];simp [hj]
theorem cell_lt {w:World} {b o:Nat} {v:Value} (h:w.cell? ⟨b,o,none⟩=some v):b<w.heap.size:=by
 unfold World.cell? at h;split at h
 · rename_i hh;exact(Array.getElem?_eq_some_iff.1 hh).1
 · cases h
theorem neBor_not {l:List Nat} {b:Nat} (h:neBor l b):b∉l:=by
 induction l with
 |nil=>simp
 |cons x l ih=>
  simp only [neBor]at h;simp only [List.mem_cons,not_or];exact⟨fun e=>h.1 e.symm,ih h.2⟩
theorem FRead.notOwn {H:Hp} {nk:Nat} {w wc:World} (hc:Cls X H nk w wc) {b o n:Nat} {cs:List Value} (h:FRead X H w b o n cs):b∉bs H:=by
 intro hb;rcases h.2 with⟨h1,h2,_⟩|⟨h1,_⟩
 · rcases hc.lb b hb with h|h
   · exact neBor_not h2 h
   · omega
 · exact h1 b hb rfl
theorem loadOf_ok (hT:TTok X.P X.tt) {t:Nat} {i:TI} (hi:getT X.tt t=some i) {p:Operand} {s:SV} (hs:a.eval p=den st.H s) (hep:ev st p=some s) (hop:o.op= .load t p) {K:Out→Prop} (h:loadOf X st i s K):
 ∃out,K out∧OutOK X st a o out:=by
 have hti:=hT t i hi
 have main:∀(b off:Nat) (cs:World→List Value) (r:SV),r≠ .bad→den st.H s= .pointer (some ⟨b,off,none⟩)→
  (∀wc,Cls X st.H st.nk st.w wc→(∃k e,tagOf s=some k∧findE st.H k=some e∧(i.n≠0→b∈bsE e))∨(tagOf s=none∧(∃off,s= .v (.pointer (some ⟨b,off,none⟩)))∧b∉bs st.H))→
  (∀wc,Cls X st.H st.nk st.w wc→(cs wc).length=i.n∧(i.agg=false→(cs wc).length=1)∧(∀j,j<i.n→wc.cell? ⟨b,off+j,none⟩=(cs wc)[j]?)∧
  (if i.agg=true then Value.agg (cs wc).toArray else(cs wc).headD undef)=den st.H r)→OutOK X st a o (.val r):=by
  intro b off cs r hr hd htag hall;refine⟨hr,fun wc hc=> ?_⟩;obtain⟨h1,h2,h3,h4⟩:=hall wc hc
  have key:∀wc',(∀j,j<i.n→wc'.cell? ⟨b,off+j,none⟩=(cs wc)[j]?)→(execOp a.eval o).run X.P wc'= .ok (.value (den st.H r)) wc':=by
   intro wc' h3';simp only [execOp,hop,hs,hd,Instr.loadAt,Instr.sureAddr,Sem.run_bind,Sem.run_pure,Result.andThen_ok,run_loadVar hti h1 h3' h2];rw [h4]
  by_cases hn:i.n=0
  · exact⟨[], .inl rfl,fun wc' _=>key wc' fun j hj=>by omega⟩
  · refine⟨[b], .inr (.inl ⟨t,p,s,b,hop,hep,rfl, ?_, ?_⟩),fun wc' hag=>key wc' fun j hj=> ?_⟩
    · have h0:=h3 0 (by omega);have hlt:0<(cs wc).length:=by omega
      rw [List.getElem?_eq_getElem hlt]at h0;exact cell_lt h0
    · rcases htag wc hc with⟨k,e,g1,g2,g3⟩|g
      · exact .inl ⟨k,e,g1,g2,g3 hn⟩
      · exact .inr g
    · rw [←h3 j hj];simp only [World.cell?,hag b (by simp)]
 unfold loadOf at h;split at h
 · rename_i k off;split at h
   · rename_i b cs ty hf;split at h
     · rename_i l hl;obtain⟨r,hr,hK⟩:=kval_some h;have hb:=(takeN_eq hl).2.2;refine⟨_,hK,main b off (fun _=>denL st.H l) r (mkv_den (H:=st.H) hr hb).1 (by simp [den,bOf_blk hf]) (fun _ _=> .inl ⟨k,_,rfl,hf,fun _=>by simp [bsE]⟩) fun wc hc=> ?_⟩;obtain⟨xs,hx,hh⟩:=hc.blk hf;obtain⟨h1,h2,h3⟩:=cells_at hx hl;refine⟨by rw [denL_length,h2],fun ha=>by rw [denL_length];exact mk_one hr ha,fun j hj=> ?_,mk_val hr hb⟩;rw [cell_arr hh];simp only [List.getElem?_toArray];exact take_get h1 hj
     · exact h.elim
   · exact h.elim
 · rename_i k off;split at h
   · rename_i b cs ty hf;obtain⟨l,hl,h⟩:=h;obtain⟨r,hr,hK⟩:=kval_some h;have hb:=(takeN_eq hl).2.2;refine⟨_,hK,main b off (fun _=>denL st.H l) r (mkv_den (H:=st.H) hr hb).1 (by simp [den,bOf_blk hf]) (fun _ _=> .inl ⟨k,_,rfl,hf,fun _=>by simp [bsE]⟩) fun wc hc=> ?_⟩;obtain⟨xs,hx,hh⟩:=hc.blk hf;obtain⟨h1,h2,h3⟩:=cells_at hx hl;refine⟨by rw [denL_length,h2],fun ha=>by rw [denL_length];exact mk_one hr ha,fun j hj=> ?_,mk_val hr hb⟩;rw [cell_arr hh];simp only [List.getElem?_toArray];exact take_get h1 hj
   · rename_i v n xs sz ty hf;obtain⟨l,⟨hl,hlen,hc0⟩,h⟩:=h;obtain⟨r,hr,hK⟩:=kval_some h;refine⟨_,hK,main (blkOf v) off (fun _=>l) r (valOf_den (H:=st.H) hr).1 (by simp [den,bOf_row hf]) (fun wc hc=> .inl ⟨k,_,rfl,hf,fun hn=> ?_⟩) fun wc hc=> ?_⟩
     · rcases(hc.row hf).2 with⟨rfl,rfl⟩|⟨g,cap,cur,rfl,_⟩
       · omega
       · simp [bsE,ownB,blkOf]
     refine⟨hl,fun ha=>valOf_one hr ha,fun j hj=> ?_,valOf_val hr⟩;have hown:=hc.row hf;rcases hown.2 with⟨rfl,rfl⟩|⟨g,cap,cur,rfl,hb,hg,_,_,_,htake⟩
     · omega
     · simp only [blkOf];rw [cell_arr hg,←hc0 j hj,←htake,List.getElem?_take,if_pos (by omega)];simp
   · exact h.elim
 · rename_i b off;obtain⟨cs,hcs,h⟩:=h;obtain⟨r,hr,hK⟩:=kval_some h;refine⟨_,hK,main b off (fun _=>cs) r (valOf_den (H:=st.H) hr).1 rfl (fun wc hc=> .inr ⟨rfl,⟨_,rfl⟩,hcs.notOwn hc⟩) fun wc hc=> ?_⟩;obtain⟨h1,h2⟩:=hcs.cells hc;exact⟨h1,fun ha=>valOf_one hr ha,h2,valOf_val hr⟩
 · exact h.elim
theorem denL_set_cells {H:Hp} {cs cs' l:List SV} {xs:List Value} {off:Nat} (hx:cellsR H cs xs) (ho:over off l cs=some cs'):
 cellsR H cs' (xs.take off++denL H l++xs.drop (off+l.length))∧off+l.length≤xs.length:=by
 obtain⟨h1,h2⟩:=over_eq ho;rw [h1];refine⟨cellsR_append (cellsR_append (cellsR_take hx _) (cellsR_den l)) (cellsR_drop hx _), ?_⟩;rw [←cellsR_length hx];exact h2
theorem storeOf_ok (hT:TTok X.P X.tt) (hrow:RowsOK st.H) {t:Nat} {i:TI} (hi:getT X.tt t=some i) {p x:Operand} {s r:SV} (hs:a.eval p=den st.H s) (hr:a.eval x=den st.H r) (hop:o.op= .store t p x) {K:Out→Prop} (h:storeOf st i s r K):
 ∃out,K out∧OutOK X st a o out:=by
 have hti:=hT t i hi;unfold storeOf at h;split at h
 · rename_i l hl;split at h
   · rename_i hlen hone;have hlen':=beqT hlen;have hcl:=cellsL_den' hl hone hrow;have h1c:=oneL_den hrow hone;have sz:(den st.H r).cells.size=i.n:=by rw [←Array.length_toList,hcl,denL_length,hlen']
     have stRun:∀(b off:Nat) (ty:Nat) (cur:Array Value) (wc:World),den st.H s= .pointer (some ⟨b,off,none⟩)→wc.heap[b]?=some (.cells cur ty (0,0))→off+l.length≤cur.size→
      (execOp a.eval o).run X.P wc= .ok .skip (wc.setRow b (cur.toList.take off++denL st.H l++cur.toList.drop (off+l.length)).toArray):=by
      intro b off ty cur wc hd hh hle;have:=run_storeCells_at X.P b off ty (denL st.H l) 0 cur wc hh (by rw [denL_length];omega) (fun v hv=>h1c v hv);simp only [Nat.add_zero,denL_length]at this;simp [execOp,hop,hs,hd,hr,Instr.storeAt,Instr.sureAddr,storeVar,hti.run_size,sz,hcl,this]
     split at h
     · rename_i k off;split at h
       · rename_i b cs ty hf;split at h
         · rename_i cs' ho;refine⟨_,h,b,cs,ty,hf,fun wc hc xs hx hh=> ?_⟩;obtain⟨g1,g2⟩:=denL_set_cells hx ho;refine⟨_,g1, ?_⟩;rw [stRun b off ty xs.toArray wc (by simp [den,bOf_blk hf]) hh (by simpa using g2)]
         · exact h.elim
       · exact h.elim
     · rename_i k off;split at h
       · rename_i b cs ty hf;obtain⟨cs',ho,h⟩:=h;refine⟨_,h,b,cs,ty,hf,fun wc hc xs hx hh=> ?_⟩;obtain⟨g1,g2⟩:=denL_set_cells hx ho;refine⟨_,g1, ?_⟩;rw [stRun b off ty xs.toArray wc (by simp [den,bOf_blk hf]) hh (by simpa using g2)]
       · rename_i v n xs sz' ty hf;obtain⟨xs',ho,h⟩:=h;obtain⟨e1,e2⟩:=over_eq ho;rw [denL_length]at e1 e2;refine⟨_,h,v,n,xs,sz',ty,hf,fun wc hc=> ?_⟩;have hown:=hc.row hf;rcases hown.2 with⟨rfl,rfl⟩|⟨g,cap,cur,rfl,hb,hg,hnc,hcm,hcs,htake⟩
         · have hx:xs= []:=List.eq_nil_of_length_eq_zero (by simpa using hown.1)
           subst hx;simp only [List.length_nil]at e2;obtain rfl:off=0:=by omega
           have hl00:l= []:=List.eq_nil_of_length_eq_zero (by omega);subst hl00;have hn0:i.n=0:=by rw [←hlen'];rfl
           refine⟨wc, ?_, ?_,⟨rfl,rfl,rfl,Nat.le_refl _,fun _ _ _=>rfl⟩,rfl⟩
           · have hc0:(den st.H r).cells.toList= []:=by simpa [denL]using hcl
             simp [execOp,hop,hs,hr,den,Instr.storeAt,Instr.sureAddr,storeVar,hti.run_size,sz,hc0,storeCells]
           · have:xs'= []:=by rw [e1];simp [denL]
             rw [this];exact hown
         · have hxl:xs.length=n*sz':=hown.1
           have hle:off+l.length≤cur.size:=by
            have:n*sz'≤cap*sz':=Nat.mul_le_mul_right _ hnc;rw [hcs];omega
           refine⟨_,stRun g off ty cur wc (by simp [den,bOf_row hf,blkOf]) hg hle, ?_,⟨rfl,rfl,rfl,by simp,fun k _ hk=>setRow_other _ _ _ _ (fun e=>hk (by simp [Value.ownBlock,e]))⟩,by simp⟩;have hcl2:cur.toList.length=cur.size:=by simp
           refine⟨by rw [e1];simp [denL_length];omega, .inr ⟨g,cap,_,rfl,hb,setRow_heap _ _ _ _ _ _ hg,hnc,hcm, ?_, ?_⟩⟩
           · simp [denL_length];omega
           · rw [e1,←htake];have hns:off+l.length≤n*sz':=by omega
             apply List.ext_getElem?;intro j;simp only [List.getElem?_take,List.getElem?_append,List.length_append,List.length_take,denL_length,List.getElem?_drop,Array.length_toList];have:min off cur.size=off:=by omega
             have h2:min off (min (n*sz') cur.size)=off:=by omega
             simp only [this,h2];by_cases hj:j<n*sz'
             · simp only [hj,if_true];by_cases hj1:j<off
               · have:j<off+l.length:=by omega
                 simp [hj1,this]
               · by_cases hj2:j<off+l.length
                 · simp [hj1,hj2]
                 · have e3:off+l.length+(j-(off+l.length))=j:=by omega
                   simp [hj2,e3,hj]
             · have e4:¬j<off:=by omega
               have e5:¬j<off+l.length:=by omega
               have e6:¬off+l.length+(j-(off+l.length))<n*sz':=by omega
               simp [hj,e5,e6]
       · exact h.elim
     · exact h.elim
   · exact h.elim
 · exact h.elim
end
section
variable {X : Cx} {st : St} {a : Act} {o : Oper} {K : Out → Prop}
theorem val_ok {s:SV} (hb:s≠ .bad) (hr:∀wc0,Cls X st.H st.nk st.w wc0→∀wc,(execOp a.eval o).run X.P wc= .ok (.value (den st.H s)) wc):OutOK X st a o (.val s):=
 ⟨hb,fun wc0 hc=>⟨[], .inl rfl,fun wc _=>hr wc0 hc wc⟩⟩
theorem intOp_ok {op:BinOp} {k:IntKind} {p q:Int} {t u:TypeId} {x y:Operand} (hop:o.op= .binOp op t x y u) (hx:a.eval x= .int k p) (hy:a.eval y= .int k q)
 (h:intOp op k p q K):∃out,K out∧OutOK X st a o out:=by
 have bits:∀op',op'= .and∨op'= .or∨op'= .xor∨op'= .andNot→∀v,(∀wc,(Op.intBits op' k p q).run X.P wc= .ok v wc)→o.op= .binOp op' t x y u→∀wc,(execOp a.eval o).run X.P wc= .ok (.value v) wc:=by
  intro op' ho v hv hop' wc;have e:(eqGuard op' t x y (.int k p) (.int k q)).run X.P wc= .ok () wc:=by rcases ho with rfl|rfl|rfl|rfl<;>simp [eqGuard]
  have e2:binOp op' t (.int k p) (.int k q)=Op.intBits op' k p q:=by rcases ho with rfl|rfl|rfl|rfl<;>simp [binOp]
  simp only [execOp,hop',hx,hy,Sem.run_bind,e,e2,hv,Result.andThen_ok];rfl
 have bit1:∀op',op'= .and∨op'= .or∨op'= .xor∨op'= .andNot→∀n,(∀wc,(Op.intBits op' k p q).run X.P wc= .ok (.int k n) wc)→o.op= .binOp op' t x y u→K (.val (.v (.int k n)))→∃out,K out∧OutOK X st a o out:=
  fun op' ho n hv hop' hk=>⟨_,hk,val_ok (by simp) fun _ _ wc=>bits op' ho _ hv hop' wc⟩
 cases op
 case and=>exact bit1 .and (by simp) _ (fun _=>rfl) hop h
 case or=>exact bit1 .or (by simp) _ (fun _=>rfl) hop h
 case xor=>exact bit1 .xor (by simp) _ (fun _=>rfl) hop h
 case andNot=>exact bit1 .andNot (by simp) _ (fun _=>rfl) hop h
 all_goals simp only [intOp]at h
 all_goals first
  |exact h.elim
  |exact⟨_,h,val_ok (by simp) fun _ _ wc=>by simp [execOp,hop,hx,hy,eqGuard,binOp,Op.intArith,Op.intCmp,den]⟩
  |exact⟨_,h.2,val_ok (by simp) fun _ _ wc=>by simp [execOp,hop,hx,hy,eqGuard,binOp,Op.intDiv,h.1,den]⟩
theorem shOp_ok {op:BinOp} {k k':IntKind} {p q:Int} {t u:TypeId} {x y:Operand} (hop:o.op= .binOp op t x y u) (hx:a.eval x= .int k p) (hy:a.eval y= .int k' q)
 (h:shOp op k p q K):∃out,K out∧OutOK X st a o out:=by
 cases op<;>simp only [shOp]at h
 all_goals exact⟨_,h.2,val_ok (by simp) fun _ _ wc=>by simp [execOp,hop,hx,hy,eqGuard,binOp,Op.shift,den,Int.not_lt.2 h.1]⟩
theorem strOp_ok {op : BinOp} {p q : ByteArray} {t u : TypeId} {x y : Operand} (hop : o.op = .binOp op t x y u) (hx : a.eval x = .string p) (hy : a.eval y = .string q)
    (h : strOp op p q K) : ∃ out, K out ∧ OutOK X st a o out := by
  cases op <;> simp only [strOp] at h <;> first
    | exact h.elim
    | exact ⟨_, h, val_ok (by simp) fun _ _ wc => by simp [execOp, hop, hx, hy, eqGuard, binOp, Op.stringOp, den]⟩
    | (refine ⟨_, h.2, val_ok (by simp) fun _ _ wc => ?_⟩
       have h1 : ¬ (((p.size + q.size : Nat) : Int) > IntKind.i64.max) := by
         have := h.1;simp [IntKind.max, IntKind.signed, IntKind.bits]; omega
       simp only [execOp, hop, hx, hy, eqGuard, binOp, Op.stringOp, den, h1, if_false];simp)
theorem ptrAdd_den {s r:SV} {off:Nat} (h:ptrAdd s off=some r):r≠ .bad∧∃b p,den st.H s= .pointer (some ⟨b,p,none⟩)∧den st.H r= .pointer (some ⟨b,p+off,none⟩):=by
 unfold ptrAdd at h;split at h<;>first|cases h|skip
 · exact⟨by simp,_,_,rfl,rfl⟩
 · exact⟨by simp,_,_,rfl,rfl⟩
 · exact⟨by simp,_,_,rfl,rfl⟩
theorem ptrAddx_den {s r:SV} {off:Nat} (h:ptrAddx s off=some r):r≠ .bad∧∃b p,den st.H s= .pointer (some ⟨b,p,none⟩)∧den st.H r= .pointer (some ⟨b,p+off,none⟩):=by
 unfold ptrAddx at h;split at h<;>first|cases h|skip
 · exact⟨by simp,_,_,rfl,rfl⟩
 · exact⟨by simp,_,_,rfl,rfl⟩
 · exact⟨by simp,_,_,rfl,rfl⟩
theorem run_fieldPlace {P:Program} {ty n:Nat} (hs:szB P ty n=true) (hn:n≠0) {f:Field} (hf:f.type=ty) (ad:Addr) (w:World):(fieldPlace ad f).run P w= .ok (ad.add f.offset) w:=by
 subst hf;simp [fieldPlace,szB_run hs,hn]
theorem fieldAddr_ok (hT:TTok X.P X.tt) {t f:Nat} {i:TI} {fs:List (Nat×Nat×Nat)} (hi:getT X.tt t=some i) (hd:i.d= .struct fs) {p:Operand} {s:SV} (hs:a.eval p=den st.H s)
 (hop:o.op= .fieldAddr t p f) {ty off n:Nat} (hf:nthF fs f=some (ty,off,n)) (h:kval K (ptrAdd s off)):∃out,K out∧OutOK X st a o out:=by
 obtain⟨r,hr,hK⟩:=kval_some h;obtain⟨hb,b,q,e1,e2⟩:=ptrAdd_den (st:=st) hr;obtain⟨F,hu,htd⟩:=(hT t i hi).struct hd;obtain⟨fd,g1,g2,g3,g4,g5⟩:=fldB_get htd hf;refine⟨_,hK,val_ok hb fun _ _ wc=> ?_⟩;have hF:F[f]?=some fd:=by simpa using g1
 simp [execOp,hop,hs,e1,e2,Instr.fieldAt,run_und hu,hF,Instr.sureAddr,run_fieldPlace g4 g5 g2,add_off,g3]
theorem part_run {P:Program} {t:Nat} {i:TI} (hti:TIok P t i) {cs:List Value} {off:Nat} {l:List Value} (hl:(cs.drop off).take i.n=l) (hn:l.length=i.n) (h1:i.agg=false→l.length=1) (w:World):
 (part t cs.toArray off).run P w= .ok (if i.agg=true then .agg l.toArray else l.headD undef) w:=by
 simp only [part,Sem.run_bind,hti.run_isAgg,Result.andThen_ok];cases hg:i.agg with
 |true=>
  simp only [if_true,Sem.run_bind,hti.run_size,Result.andThen_ok,Sem.run_pure];congr 2;apply Array.ext';simp [←hl]
 |false=>
  have h2:=h1 hg
  match l,h2 with
  | [x],_=>
   have:cs[off]?=some x:=by
    have h3:=take_get hl (j:=0) (by rw [←hn];simp);simpa using h3
   simp [this]
theorem aggL_den {H:Hp} {s:SV} {l:List SV} (h:aggL s=some l):den H s= .agg (denL H l).toArray:=by
 unfold aggL at h;split at h<;>first|cases h|skip
 · simp [den]
 · simp [den,denL_vs]
theorem denL_take_drop (H:Hp) (l:List SV) (o n:Nat):((denL H l).drop o).take n=denL H ((l.drop o).take n):=by rw [denL_map,denL_map];simp [List.map_take,List.map_drop]
theorem part_agg (hT:TTok X.P X.tt) {ty off:Nat} {i:TI} (hi:getT X.tt ty=some i) {l r:List SV} {v:SV} (hr:takeN i.n (dropN off l)=some r) (hv:mkv i.agg r=some v) (w:World):
 (part ty (denL st.H l).toArray off).run X.P w= .ok (den st.H v) w∧v≠ .bad:=by
 rw [dropN_eq]at hr;obtain⟨e1,e2,e3⟩:=takeN_eq hr;refine⟨?_,(mkv_den (H:=st.H) hv e3).1⟩;rw [part_run (hT ty i hi) (l:=denL st.H r) (by rw [e2,denL_take_drop]) (by rw [denL_length,e1]) (fun ha=>by rw [denL_length];exact mk_one hv ha) w,mk_val hv e3]
theorem fieldOf_ok (hT:TTok X.P X.tt) {t f:Nat} {i:TI} {fs:List (Nat×Nat×Nat)} (hi:getT X.tt t=some i) (hd:i.d= .struct fs) {p:Operand} {s:SV} (hs:a.eval p=den st.H s)
 (hop:o.op= .field t p f) (h:fieldOf X fs f s K):∃out,K out∧OutOK X st a o out:=by
 unfold fieldOf at h;split at h
 · rename_i ty off n l hf hl;split at h
   · rename_i i2 r hi2 hr;split at h
     · rename_i hn;obtain⟨v,hv,hK⟩:=kval_some h;obtain⟨F,hu,htd⟩:=(hT t i hi).struct hd;obtain⟨fd,g1,g2,g3,g4,g5⟩:=fldB_get htd hf;have hF:F[f]?=some fd:=by simpa using g1
       rw [←beqT hn]at hr;refine⟨_,hK,val_ok (part_agg (st:=st) hT hi2 hr hv X.w0).2 fun _ hc wc=> ?_⟩;simp [execOp,hop,hs,aggL_den (H:=st.H) hl,Instr.field,run_und hu,hF,asAgg,g2,g3,(part_agg (st:=st) hT hi2 hr hv wc).1]
     · exact h.elim
   · exact h.elim
 · exact h.elim
theorem run_asIntOf (k:IntKind) (n:Int) (P:Program) (w:World):(asIntOf (.int k n)).run P w= .ok (k,n) w:=rfl
theorem slice_run {t e esz bytes:Nat} {i:TI} (h:TIok X.P t i) (hd:i.d= .slice e esz bytes) (w:World):(sizeOf e).run X.P w= .ok esz w:=by
 obtain⟨_,inf,hi,hs,_⟩:=h.slice hd;simp [sizeOf,typeInfo,hi,hs]
theorem indexAt_slice {t e esz bytes:Nat} {i:TI} (h:TIok X.P t i) (hd:i.d= .slice e esz bytes) {k:IntKind} {z:Int} {b p n c:Nat} (h0:0≤z) (h1:z<n) (w:World):
 (Instr.indexAt t (.slice (some ⟨b,p,none⟩) n c) (.int k z)).run X.P w= .ok (.pointer (some ⟨b,p+z.toNat*esz,none⟩)) w:=by
 have hu:=(h.slice hd).1;simp only [Instr.indexAt,Sem.run_bind,run_asIntOf,Result.andThen_ok,run_und hu,Sem.run_pure];simp [h0,h1,slice_run h hd,add_off]
theorem indexAt_arr {t len e esz:Nat} {i:TI} (h:TIok X.P t i) (hd:i.d= .arr len e esz) {k:IntKind} {z:Int} {b p:Nat} (h0:0≤z) (h1:z<len) (w:World):
 (Instr.indexAt t (.pointer (some ⟨b,p,none⟩)) (.int k z)).run X.P w= .ok (.pointer (some ⟨b,p+z.toNat*esz,none⟩)) w:=by
 obtain⟨hu,hs⟩:=h.arr hd;simp only [Instr.indexAt,Sem.run_bind,run_asIntOf,Result.andThen_ok,run_und hu,Sem.run_pure,Instr.sureAddr];simp [h0,h1,szB_run hs,add_off]
theorem fill_one {place:Nat→Option (Nat×Nat)} {cells:Array Value} {j off n:Nat} {v:Value} {rest:List (Nat×Value)} (hp:place j=some (off,n)) (hn:v.cells.size=n) (hle:off+n≤cells.size):
 Instr.fill place cells ((j,v)::rest)=Instr.fill place (cells.toList.take off++v.cells.toList++cells.toList.drop (off+n)).toArray rest:=by
 have key:∀(l:List Value) (q:Nat) (cs:Array Value),off+q+l.length≤cs.size→
  ((l.zipIdx q).foldl (fun cs (c,j)=>cs.setIfInBounds (off+j) c) cs)=(cs.toList.take (off+q)++l++cs.toList.drop (off+q+l.length)).toArray:=by
  intro l
  induction l with
  |nil=>intro q cs _;simp
  |cons x l ih=>
   intro q cs hle;simp only [List.zipIdx_cons,List.foldl_cons];simp only [List.length_cons]at hle;rw [ih (q+1) _ (by simp;omega)];apply Array.ext';simp only [Array.toList_setIfInBounds,List.length_cons];have h1:off+q<cs.toList.length:=by simp;omega
   rw [List.take_set,←Nat.add_assoc,List.drop_set_of_lt (by omega)];rw [List.take_succ_eq_append_getElem (by simpa using h1)]
   rw [List.set_append_right _ _ (by simp;omega)];simp only [List.length_take,Nat.min_eq_left (Nat.le_of_lt h1),Nat.sub_self,List.set_cons_zero,List.append_assoc,List.singleton_append];have:off+q+1+l.length=off+q+(l.length+1):=by omega
   rw [this]
 simp only [Instr.fill,hp,hn];rw [if_neg (by simp;omega)];congr 1;rw [←Array.foldl_toList,Array.toList_zipIdx];have:=key v.cells.toList 0 cells (by simp [hn];omega);simp only [Nat.add_zero,Array.length_toList,hn]at this;exact this
theorem fillS_ok (hev:∀x s,ev st x=some s→s≠ .bad∧a.eval x=den st.H s) (hrow:RowsOK st.H) {fs:List (Nat×Nat×Nat)} {places:Array (Nat×Nat)} (hpl:∀j ty off n,nthF fs j=some (ty,off,n)→places[j]?=some (off,n)):
 ∀(ps:List (Nat×Operand)) (l r:List SV),fillS fs st ps l=some r→ .bad∉l→
  Instr.fill (places[·]?) (denL st.H l).toArray (ps.map fun p=>(p.1,a.eval p.2))=some (denL st.H r).toArray∧ .bad∉r
 | [],l,r,h,hb=>by simp only [fillS]at h;cases h;exact⟨rfl,hb⟩
 |(i,x)::ps,l,r,h,hb=>by
  simp only [fillS]at h;split at h
  · rename_i ty off n s hf hs;split at h
    · rename_i cs hcs;split at h
      · rename_i hlen hone;split at h
        · rename_i r1 ho;obtain⟨_,he⟩:=hev x s hs;have hc:=cellsL_den' hcs hone hrow;obtain⟨e1,e2⟩:=over_eq ho;have hn:=beqT hlen
          have hb1: .bad∉r1:=by
           rw [e1];intro hm;rcases List.mem_append.1 hm with hm|hm
           · rcases List.mem_append.1 hm with hm|hm
             · exact hb (List.mem_of_mem_take hm)
             · exact oneL_noBad hrow hone hm
           · exact hb (List.mem_of_mem_drop hm)
          obtain⟨ih,hb2⟩:=fillS_ok hev hrow hpl ps r1 r h hb1;refine⟨?_,hb2⟩;have hsz:(a.eval x).cells.size=n:=by rw [he,←Array.length_toList,hc,denL_length,hn]
          rw [List.map_cons,fill_one (hpl i ty off n hf) hsz (by simp [denL_length];omega),←ih];congr 2;rw [e1,denL_append,denL_append,he,hc,denL_map,denL_map,denL_map];simp [List.map_take,List.map_drop,hn,denL_map]
        · cases h
      · cases h
    · cases h
  · cases h
theorem fillA_ok (hev:∀x s,ev st x=some s→s≠ .bad∧a.eval x=den st.H s) (hrow:RowsOK st.H) {esz:Nat}:
 ∀(ps:List (Nat×Operand)) (l r:List SV),fillA esz st ps l=some r→ .bad∉l→
  Instr.fill (fun i=>some (i*esz,esz)) (denL st.H l).toArray (ps.map fun p=>(p.1,a.eval p.2))=some (denL st.H r).toArray∧ .bad∉r
 | [],l,r,h,hb=>by simp only [fillA]at h;cases h;exact⟨rfl,hb⟩
 |(i,x)::ps,l,r,h,hb=>by
  simp only [fillA]at h;split at h
  · rename_i s hs;split at h
    · rename_i cs hcs;split at h
      · rename_i hlen hone;split at h
        · rename_i r1 ho;obtain⟨_,he⟩:=hev x s hs;have hc:=cellsL_den' hcs hone hrow;obtain⟨e1,e2⟩:=over_eq ho;have hn:=beqT hlen
          have hb1: .bad∉r1:=by
           rw [e1];intro hm;rcases List.mem_append.1 hm with hm|hm
           · rcases List.mem_append.1 hm with hm|hm
             · exact hb (List.mem_of_mem_take hm)
             · exact oneL_noBad hrow hone hm
           · exact hb (List.mem_of_mem_drop hm)
          obtain⟨ih,hb2⟩:=fillA_ok hev hrow ps r1 r h hb1;refine⟨?_,hb2⟩;have hsz:(a.eval x).cells.size=esz:=by rw [he,←Array.length_toList,hc,denL_length,hn]
          rw [List.map_cons,fill_one (place:=fun i=>some (i*esz,esz)) rfl hsz (by simp [denL_length];omega),←ih];congr 2;rw [e1,denL_append,denL_append,he,hc,denL_map,denL_map,denL_map];simp [List.map_take,List.map_drop,hn,denL_map]
        · cases h
      · cases h
    · cases h
  · cases h
end
section
variable {X : Cx} {st : St} {a : Act} {o : Oper} {K : Out → Prop}
theorem run_bound {z:Int} {k:IntKind} {y:Nat} {code:BoundsCode} {P:Program} (h0:0≤z) (h1:z≤y) (w:World):(Instr.sliceBound (.int k z) y code).run P w= .ok z.toNat w:=by
 simp only [Instr.sliceBound,Sem.run_bind,run_asIntOf,Result.andThen_ok];simp [h0,h1]
theorem bnd_cap {st:St} {len cap:Nat} {lo hi:Option Operand} {K:Nat→Nat→Nat→Prop} (h:bnd st len cap lo hi none K):bnd st len cap lo hi none fun l h m=>m=cap∧K l h m:=by
 unfold bnd at h⊢;simp only at h⊢;split at h
 · split at h
   · exact⟨trivial,h⟩
   · split at h
     · exact⟨h.1,trivial,h.2⟩
     · exact h.elim
 · split at h
   · refine⟨h.1, ?_⟩;have h:=h.2;split at h
     · exact⟨trivial,h⟩
     · split at h
       · exact⟨h.1,trivial,h.2⟩
       · exact h.elim
   · exact h.elim
theorem bnd_ok (hev:∀x s,ev st x=some s→s≠ .bad∧a.eval x=den st.H s) {isSlice:Bool} {len cap:Nat} {lo hi mx:Option Operand} {Kb:Nat→Nat→Nat→Prop} (h:bnd st len cap lo hi mx Kb):
 ∃l hh m,Kb l hh m∧∀w,(Instr.sliceBounds isSlice len cap (lo.map a.eval) (hi.map a.eval) (mx.map a.eval)).run X.P w= .ok (l,hh,m) w:=by
 unfold bnd at h;split at h
 · split at h
   · split at h
     · exact⟨_,_,_,h,fun w=>by simp [Instr.sliceBounds]⟩
     · rename_i l;split at h
       · rename_i k z hl;have hl':=(hev _ _ hl).2;exact⟨_,_,_,h.2,fun w=>by simp [Instr.sliceBounds,hl',den,run_bound h.1.1 h.1.2]⟩
       · exact h.elim
   · rename_i hh;split at h
     · rename_i k y hy;have hy':=(hev _ _ hy).2;obtain⟨h1,h⟩:=h;split at h
       · exact⟨_,_,_,h,fun w=>by simp [Instr.sliceBounds,hy',den,run_bound h1.1 h1.2]⟩
       · rename_i l;split at h
         · rename_i k2 z hl;have hl':=(hev _ _ hl).2;refine⟨_,_,_,h.2,fun w=> ?_⟩;have:=h.1.2;simp [Instr.sliceBounds,hy',hl',den,run_bound h1.1 h1.2,run_bound (y:=y.toNat) h.1.1 (by omega)]
         · exact h.elim
     · exact h.elim
 · rename_i m;split at h
   · rename_i k x hh hm;have hm':=(hev _ _ hm).2;obtain⟨h1,h⟩:=h;split at h
     · rename_i k2 y hy;have hy':=(hev _ _ hy).2;obtain⟨h2,h⟩:=h;split at h
       · refine⟨_,_,_,h,fun w=> ?_⟩;simp [Instr.sliceBounds,hm',hy',den,run_bound h1.1 h1.2,run_bound (y:=x.toNat) h2.1 (by omega)]
       · rename_i l;split at h
         · rename_i k3 z hl;have hl':=(hev _ _ hl).2;refine⟨_,_,_,h.2,fun w=> ?_⟩;have:=h.1.2;simp [Instr.sliceBounds,hm',hy',hl',den,run_bound h1.1 h1.2,run_bound (y:=x.toNat) h2.1 (by omega),run_bound (y:=y.toNat) h.1.1 (by omega)]
         · exact h.elim
     · exact h.elim
   · exact h.elim
theorem lenOf_row (hrowN:∀k v n xs sz ty,findE st.H k=some (.row v n xs sz ty)→∃ad c,v= .slice ad n c) {k n sz ty:Nat} {v:Value} {xs:List Value} (h:findE st.H k=some (.row v n xs sz ty)):∃ad c,den st.H (.row k)= .slice ad n c:=by
 obtain⟨ad,c,rfl⟩:=hrowN k v n xs sz ty h;exact⟨ad,c,by simp [den,rowVal,h]⟩
theorem rowN_of {H:Hp} {nk:Nat} {w wc:World} (h:Cls X H nk w wc):∀k v n xs sz ty,findE H k=some (.row v n xs sz ty)→∃ad c,v= .slice ad n c:=by
 intro k v n xs sz ty hf;have:=h.row hf;rcases this.2 with⟨rfl,rfl⟩|⟨g,cap,cur,rfl,_⟩
 · exact⟨none,0,rfl⟩
 · exact⟨_,_,rfl⟩
theorem run_builtin {b:Builtin} {args:Array Operand} {tys:Array TypeId} {vals:Array Value} (hop:o.op= .call { callee:= .builtin b,args:=args,argTypes:=tys}) (hg:args.map a.eval=vals) (wc:World):
 ∃cs,(execOp a.eval o).run X.P wc=(builtin b tys o.type cs vals).run X.P wc:=by
 refine⟨args.map fun| .const _=>true|_=>false, ?_⟩;simp only [execOp,hop,resolve,Sem.run_bind,Sem.run_pure,Result.andThen_ok,invoke,hg];rfl
theorem run_len {P:Program} {t:TypeId} {tys:List TypeId} {ty:TypeId} {d:TypeDesc} {ad:Option Addr} {n c e:Nat} (hu:P.underlying t=some d) (hd:d= .slice e) (w:World):
 (Builtin.len_ (t::tys).toArray ty #[.slice ad n c]).run P w= .ok (.int .i64 n) w:=by
 subst hd;simp [Builtin.len_,run_und hu,goInt]
theorem run_lenS {P:Program} {t:TypeId} {tys:List TypeId} {ty:TypeId} {s:ByteArray} (hu:P.underlying t=some .string) (w:World):
 (Builtin.len_ (t::tys).toArray ty #[.string s]).run P w= .ok (.int .i64 s.size) w:=by
 simp [Builtin.len_,run_und hu,goInt]
theorem evBuiltin_ok (hT:TTok X.P X.tt) (hev:∀x s,ev st x=some s→s≠ .bad∧a.eval x=den st.H s) {b:Builtin} {args:Array Operand} {tys:Array TypeId}
 (hop:o.op= .call { callee:= .builtin b,args:=args,argTypes:=tys}) (h:evBuiltin X st b args.toList tys.toList K):∃out,K out∧OutOK X st a o out:=by
 have hargs:∀r,evs st args.toList=some r→args.map a.eval=(denL st.H r).toArray∧ .bad∉r:=by
  intro r hr;obtain⟨h1,h2⟩:=evs_spec hev hr;exact⟨by apply Array.ext';simpa using h1,h2⟩
 unfold evBuiltin at h;split at h
 · --len
   rename_i t tys' htys;have htys':tys=(t::tys').toArray:=by apply Array.ext';simpa using htys
   split at h
   · rename_i ad n' c hi hr;have hg:=(hargs _ hr).1;refine⟨_,h,val_ok (by simp) fun _ _ wc=> ?_⟩;obtain⟨cs,e⟩:=run_builtin (X:=X) hop hg wc;rw [e];simp [builtin,denL,den,htys',run_len ((hT t _ hi).slice rfl).1 rfl]
   · rename_i k q n' c hi hr;have hg:=(hargs _ hr).1;refine⟨_,h,val_ok (by simp) fun _ _ wc=> ?_⟩;obtain⟨cs,e⟩:=run_builtin (X:=X) hop hg wc;rw [e];simp [builtin,denL,den,htys',run_len ((hT t _ hi).slice rfl).1 rfl]
   · rename_i k hi hr;split at h
     · rename_i v n' xs sz ty hf;have hg:=(hargs _ hr).1;refine⟨_,h,val_ok (by simp) fun _ hc wc=> ?_⟩;obtain⟨ad,c,hd⟩:=lenOf_row (rowN_of hc) hf;simp only [denL,hd]at hg;obtain⟨cs,e⟩:=run_builtin (X:=X) hop hg wc;rw [e];simp [builtin,den,htys',run_len ((hT t _ hi).slice rfl).1 rfl]
     · exact h.elim
   · rename_i s hi hr;have hg:=(hargs _ hr).1;refine⟨_,h,val_ok (by simp) fun _ _ wc=> ?_⟩;obtain⟨cs,e⟩:=run_builtin (X:=X) hop hg wc;rw [e];simp [builtin,denL,den,htys',run_lenS ((hT t _ hi).strg rfl)]
   · exact h.elim
 · --max
   split at h
   · rename_i ka p kb q hr;have hg:=(hargs _ hr).1;refine⟨_,h,val_ok (by simp) fun _ _ wc=> ?_⟩;obtain⟨cs,e⟩:=run_builtin (X:=X) hop hg wc;rw [e];simp [builtin,denL,den,Builtin.max_,Builtin.max2]
   · rename_i hr;have hg:=(hargs _ hr).1;refine⟨_,h,val_ok (by simp) fun _ _ wc=> ?_⟩;obtain⟨cs,e⟩:=run_builtin (X:=X) hop hg wc;rw [e];simp [builtin,denL,den,Builtin.max_,Builtin.max2]
   · exact h.elim
 · --min
   split at h
   · rename_i ka p kb q hr;have hg:=(hargs _ hr).1;refine⟨_,h,val_ok (by simp) fun _ _ wc=> ?_⟩;obtain⟨cs,e⟩:=run_builtin (X:=X) hop hg wc;rw [e];simp [builtin,denL,den,Builtin.min_,Builtin.min2]
   · exact h.elim
 · --append
   rename_i t u tys' htys;have htys':tys=(t::u::tys').toArray:=by apply Array.ext';simpa using htys
   split at h
   · rename_i e esz bytes s x htu hi hr;obtain⟨hg,hb⟩:=hargs _ hr;obtain rfl:=beqT htu;split at h
     · rename_i i2 hi2;split at h
       · rename_i hn2;refine⟨_,h,fun e=>hb (by simp [e]),fun e=>hb (by simp [e]),t,_,hi,rfl,⟨i2,hi2,beqT hn2⟩,fun wc=> ?_⟩
         have e0:∀ty (args:Array Value),Builtin.append_ (t::t::tys').toArray ty args=Builtin.append_ #[t,t] ty args:=by
          intro ty args;simp [Builtin.append_]
         obtain⟨cs,e1⟩:=run_builtin (X:=X) hop hg wc;rw [e1];simp only [builtin,denL,htys',e0,Sem.run_bind];rfl
       · exact h.elim
     · exact h.elim
   · exact h.elim
 · exact h.elim
theorem repL_length (n:Nat) (l:List SV):(repL n l).length=n*l.length:=by
 induction n with
 |zero=>simp [repL]
 |succ n ih=>simp [repL,ih,Nat.succ_mul,Nat.add_comm]
theorem repL_noBad {n:Nat} {l:List SV} (h: .bad∉l): .bad∉repL n l:=by
 induction n with
 |zero=>simp [repL]
 |succ n ih=>simp [repL,h,ih]
theorem repL_vs (n:Nat) (z:List Value) (d:Value):((List.range (n*z.length)).map fun i=>z.getD (i % z.length) d)=denL ([]:Hp) (repL n (vs z)):=by
 induction n with
 |zero=>simp [repL,denL]
 |succ n ih=>
  rw [repL,denL_append,denL_vs,←ih,Nat.succ_mul,Nat.add_comm,List.range_add,List.map_append];congr 1
  · apply List.ext_getElem?;intro j;by_cases hj:j<z.length
    · simp [hj,Nat.mod_eq_of_lt hj]
    · simp [hj]
  · simp only [List.map_map];apply List.map_congr_left;intro i _;simp
theorem denL_repL (H:Hp) (n:Nat) (z:List Value):denL H (repL n (vs z))=denL ([]:Hp) (repL n (vs z)):=by
 induction n with
 |zero=>rfl
 |succ n ih=>simp only [repL,denL_append,denL_vs,ih]
theorem run_lookupI {P:Program} {w:World} {t kt et:TypeId} {r c j:Nat} {i:Int} {es:Array MapEntry} {v:Value} (hu:P.underlying t=some (.map kt et)) (hk:P.underlying kt=some (.int .i64))
 (hb:w.heap[r]?=some (.map es c)) (hf:Instr.findNow (.int .i64) (.int .i64 i) es.toList 0=some (some (j,v))):(Instr.lookup t (.map (some r)) (.int .i64 i) false).run P w= .ok v w:=by
 have h1:=MapKept.run_getObj_map (P:=P) hb;have h2:=MapKept.run_checkKey (w:=w) (k:= .int .i64 i) hk (by simp [MapKept.IsKey]) es.isEmpty 9999;have h3:=MapKept.run_findKey (w:=w) hk hf;unfold Instr.lookup;simp [Sem.run_bind,run_underlying hu,Result.andThen_ok,h1,h2,h3,Sem.run_pure]
theorem ev1_ok (hT : TTok X.P X.tt) (hng : ∀ (g : Nat) (fn : Func), X.P.funcs[g]? = some fn → (fn.name == "runtime.NumGoroutine") = false) (hev : ∀ x s, ev st x = some s → s ≠ .bad ∧ a.eval x = den st.H s) (hrow : RowsOK st.H) (h : ev1 X st o.op K) : ∃ out, K out ∧ OutOK X st a o out := by
  cases hop : o.op with
  | move x =>
    rw [hop] at h; simp only [ev1] at h;obtain ⟨s, hs, hK⟩ := kval_some h;obtain ⟨h1, h2⟩ := hev x s hs;exact ⟨_, hK, val_ok h1 fun _ _ wc => by simp [execOp, hop, h2]⟩
  | assign x =>
    rw [hop] at h; simp only [ev1] at h;obtain ⟨s, hs, hK⟩ := kval_some h;obtain ⟨h1, h2⟩ := hev x s hs;exact ⟨_, hK, val_ok h1 fun _ _ wc => by simp [execOp, hop, h2]⟩
  | pick c x y =>
    rw [hop] at h; simp only [ev1] at h;split at h
    · rename_i t hc;have hc' := (hev c _ hc).2;cases t
      · simp only [VIf] at h;obtain ⟨s, hs, hK⟩ := kval_some h;obtain ⟨h1, h2⟩ := hev y s hs;exact ⟨_, hK, val_ok h1 fun _ _ wc => by simp [execOp, hop, hc', den, asBool, h2]⟩
      · simp only [VIf] at h;obtain ⟨s, hs, hK⟩ := kval_some h;obtain ⟨h1, h2⟩ := hev x s hs;exact ⟨_, hK, val_ok h1 fun _ _ wc => by simp [execOp, hop, hc', den, asBool, h2]⟩
    · exact h.elim
  | alloc t =>
    rw [hop] at h; simp only [ev1] at h;split at h
    · rename_i i hi;refine ⟨_, h, fun wc _ => ?_⟩;obtain ⟨z, hz, hr⟩ := (hT t i hi).run_zero;have : z.cells = (denL st.H (vs i.z)).toArray := by apply Array.ext'; simp [hz, denL_vs]
      simp [execOp, hop, Instr.alloc, hr, newVar, newRow, this]
    · exact h.elim
  | box t x =>
    rw [hop] at h; simp only [ev1] at h;split at h
    · rename_i i s hi hs;split at h
      · rename_i l hl;split at h
        · rename_i hone;refine ⟨_, h, fun wc _ => ?_⟩;have hc := cellsL_den' hl hone hrow;have hx := (hev x s hs).2;have : (den st.H s).cells = (denL st.H l).toArray := by apply Array.ext'; simp [hc]
          simp [execOp, hop, Instr.box, newVar, newRow, hx, this]
        · exact h.elim
      · exact h.elim
    · exact h.elim
  | load t p =>
    rw [hop] at h; simp only [ev1] at h;split at h
    · rename_i i s hi hs;exact loadOf_ok hT hi (hev p s hs).2 hs hop h
    · exact h.elim
  | store t p x =>
    rw [hop] at h; simp only [ev1] at h;split at h
    · rename_i i q s hi hq hs;exact storeOf_ok hT hrow hi (hev p q hq).2 (hev x s hs).2 hop h
    · exact h.elim
  | nilCheck p =>
    rw [hop] at h; simp only [ev1] at h;split at h
    · rename_i k q hp; have := (hev p _ hp).2; exact ⟨_, h, val_ok (by simp) fun _ _ wc => by simp [execOp, hop, this, den]⟩
    · rename_i k q hp; have := (hev p _ hp).2; exact ⟨_, h, val_ok (by simp) fun _ _ wc => by simp [execOp, hop, this, den]⟩
    · rename_i q hp; have := (hev p _ hp).2; exact ⟨_, h, val_ok (by simp) fun _ _ wc => by simp [execOp, hop, this, den]⟩
    · rename_i f l c hp; have := (hev p _ hp).2; exact ⟨_, h, val_ok (by simp) fun _ _ wc => by simp [execOp, hop, this, den]⟩
    · exact h.elim
  | fieldAddr t p f =>
    rw [hop] at h; simp only [ev1] at h;split at h
    · rename_i n agg z eq fs s hi hs;split at h
      · rename_i ty off m hf;exact fieldAddr_ok hT hi rfl (hev p s hs).2 hop hf h
      · exact h.elim
    · exact h.elim
  | field t x f =>
    rw [hop] at h; simp only [ev1] at h;split at h
    · rename_i n agg z eq fs s hi hs;exact fieldOf_ok hT hi rfl (hev x s hs).2 hop h
    · exact h.elim
  | indexAddr t x ix =>
    rw [hop] at h; simp only [ev1] at h;split at h
    · rename_i n agg zz eq e esz bytes ad n' c k z hi hx hix;obtain ⟨b, p, ⟨rfl, h1, h2⟩, hK⟩ := h;refine ⟨_, hK, val_ok (by simp) fun _ _ wc => ?_⟩;simp [execOp, hop, (hev x _ hx).2, (hev ix _ hix).2, den, indexAt_slice (hT t _ hi) rfl h1 h2]
    · rename_i n agg zz eq e esz bytes k q n' c k2 z hi hx hix;refine ⟨_, h.2, val_ok (by simp) fun _ _ wc => ?_⟩;simp [execOp, hop, (hev x _ hx).2, (hev ix _ hix).2, den, indexAt_slice (hT t _ hi) rfl h.1.1 h.1.2]
    · rename_i n agg zz eq e esz bytes k k2 z hi hx hix;split at h
      · rename_i v n' xs sz ty hf;refine ⟨_, h.2, val_ok (by simp) fun _ hc wc => ?_⟩;have hown := hc.row hf;rcases hown.2 with ⟨rfl, rfl⟩ | ⟨g, cap, cur, rfl, hb, hg, _⟩
        · have := h.1; omega
        · simp [execOp, hop, (hev x _ hx).2, (hev ix _ hix).2, den, rowVal, hf, bOf_row hf, blkOf, indexAt_slice (hT t _ hi) rfl h.1.1 h.1.2]
      · exact h.elim
    · rename_i n agg zz eq len e esz s k z hi hx hix;obtain ⟨⟨h1, h2⟩, h⟩ := h;obtain ⟨r, hr, hK⟩ := kval_some h
      have : r ≠ .bad ∧ ∃ b p, den st.H s = .pointer (some ⟨b, p, none⟩) ∧ den st.H r = .pointer (some ⟨b, p + z.toNat * esz, none⟩) := by
        split at hr
        · exact ptrAdd_den hr
        · exact ptrAddx_den hr
      obtain ⟨hb, b, p, e1, e2⟩ := this;refine ⟨_, hK, val_ok hb fun _ _ wc => ?_⟩;simp [execOp, hop, (hev x _ hx).2, (hev ix _ hix).2, den, e1, e2, indexAt_arr (hT t _ hi) rfl h1 h2]
    · exact h.elim
  | index t x ix =>
    rw [hop] at h; simp only [ev1] at h;split at h
    · rename_i n agg zz eq s k z hi hx hix;obtain ⟨c, ⟨h1, h2⟩, hK⟩ := h;refine ⟨_, hK, val_ok (by simp) fun _ _ wc => ?_⟩
      have hs : s[z.toNat]? = some c := by
        obtain ⟨hlt, he⟩ := List.getElem?_eq_some_iff.1 h2;have hlt' : z.toNat < s.size := by simpa using hlt
        rw [getElem?_pos s z.toNat hlt'];have e1 : s[z.toNat] = s.data[z.toNat] := rfl;rw [e1];simpa using he
      simp [execOp, hop, (hev x _ hx).2, (hev ix _ hix).2, den, Instr.index, run_und ((hT t _ hi).strg rfl), run_asIntOf, h1, hs]
    · rename_i n agg zz eq len ety esz s k z hi hx hix;split at h
      · rename_i l i2 hl hi2;obtain ⟨⟨h1, h2⟩, h⟩ := h;split at h
        · rename_i r hn hr;obtain ⟨v, hv, hK⟩ := kval_some h;obtain ⟨hu, hsz⟩ := (hT t _ hi).arr rfl;refine ⟨_, hK, val_ok (part_agg (st := st) hT hi2 hr hv X.w0).2 fun _ hc wc => ?_⟩;have hx' := (hev x _ hx).2;rw [aggL_den (H := st.H) hl] at hx';simp only [execOp, hop, hx', (hev ix _ hix).2, den, Instr.index, Sem.run_bind, run_und hu, run_asIntOf, Result.andThen_ok];simp [h1, h2, szB_run hsz, (part_agg (st := st) hT hi2 hr hv wc).1]
        · exact h.elim
      · exact h.elim
    · exact h.elim
  | binOp op t x y u =>
    rw [hop] at h; simp only [ev1] at h;split at h
    · rename_i ka p kb q hx hy;split at h
      · exact shOp_ok hop (hev x _ hx).2 (hev y _ hy).2 h
      · rename_i _ hk;obtain rfl := kEq_eq hk;exact intOp_ok hop (hev x _ hx).2 (hev y _ hy).2 h
      · exact h.elim
    · rename_i p q hx hy;exact strOp_ok hop (hev x _ hx).2 (hev y _ hy).2 h
    · rename_i s r _ _ hx hy;split at h
      · rename_i n agg z ks d hi;split at h
        · rename_i l m hl hm;split at h
          · rename_i e he
            cases op <;> simp only [boolOp] at h <;> first
              | exact h.elim
              | (refine ⟨_, h, val_ok (by simp) fun _ _ wc => ?_⟩
                 have h1 := (hT t _ hi).run_eq rfl (H := st.H) hl hm he x y wc
                 first
                   | (have e : (execOp a.eval o).run X.P wc = ((do eqGuard .eql t x y (den st.H s) (den st.H r); binOp .eql t (den st.H s) (den st.H r)).run X.P wc).andThen fun a w' => .ok (.value a) w' := by
                        simp only [execOp, hop, (hev x _ hx).2, (hev y _ hy).2];rw [Sem.run_bind]; rfl
                      rw [e, h1.1]; rfl)
                   | (have e : (execOp a.eval o).run X.P wc = ((do eqGuard .neq t x y (den st.H s) (den st.H r); binOp .neq t (den st.H s) (den st.H r)).run X.P wc).andThen fun a w' => .ok (.value a) w' := by
                        simp only [execOp, hop, (hev x _ hx).2, (hev y _ hy).2];rw [Sem.run_bind]; rfl
                      rw [e, h1.2]; rfl))
          · exact h.elim
        · exact h.elim
      · rename_i n agg z e esz bytes hi;split at h
        · rename_i ad n1 c1;obtain ⟨hu, _⟩ := (hT t _ hi).slice rfl;have hx' := (hev x _ hx).2;have hy' := (hev y _ hy).2;simp only [den] at hx' hy'
          cases op <;> simp only [boolOp] at h <;> first
            | exact h.elim
            | (refine ⟨_, h, val_ok (by simp) fun _ _ wc => ?_⟩
               simp only [execOp, hop, hx', hy', Sem.run_bind, den];simp [eqGuard, binOp, run_equal_slice_nil wc t e _ _ _ hu])
        · exact h.elim
      · exact h.elim
    · exact h.elim
  | makeSlice t l c =>
    rw [hop] at h; simp only [ev1] at h;split at h
    · rename_i m agg z eq e esz bytes k1 p k2 q hi hl hc;split at h
      · rename_i i2 hi2;split at h
        · rename_i hn;obtain ⟨⟨rfl, h0, hb, hm⟩, h⟩ := h;have hn' := beqT hn;have hz2 := hT e i2 hi2;obtain ⟨hu, inf, hinf, hsz, hby⟩ := (hT t _ hi).slice rfl;obtain ⟨inf', zv, hinf', hsz', hzz, hzc⟩ := hz2.info;obtain rfl : inf = inf' := by rw [hinf] at hinf'; exact Option.some.inj hinf'
          have hzl : zv.cells.size = esz := by rw [← Array.length_toList, hzc, hz2.zn, hn']
          refine ⟨_, h, fun wc _ => ?_⟩
          have hbase : madeCells zv.cells (p.toNat * inf.size) = (denL st.H (repL p.toNat (vs i2.z))).toArray := by
            rw [denL_repL, ← repL_vs p.toNat i2.z default];apply Array.ext';rw [hz2.zn, hn', ← hzc, hsz];simp only [madeCells, Array.toList_map, Array.toList_range, hzl];apply List.map_congr_left;intro j hj;simp [Array.getElem!_eq_getD, Array.getD_eq_getD_getElem?]
          have hrun := run_make (P := X.P) wc t e inf zv hu hinf hzz k1 k2 p p h0 (Int.le_refl _) (by rw [hby]; exact hb) hm;rw [hbase] at hrun;simp only [execOp, hop, (hev l _ hl).2, (hev c _ hc).2, den, Sem.run_bind, hrun, Result.andThen_ok, Sem.run_pure]
        · exact h.elim
      · exact h.elim
    · exact h.elim
  | unOp op t x =>
    rw [hop] at h; simp only [ev1] at h;split at h
    · rename_i b hx;exact ⟨_, h, val_ok (by simp) fun _ _ wc => by simp [execOp, hop, (hev x _ hx).2, den, Op.unary]⟩
    · rename_i k p hx;exact ⟨_, h, val_ok (by simp) fun _ _ wc => by simp [execOp, hop, (hev x _ hx).2, den, Op.unary, Op.intArith]⟩
    · exact h.elim
  | convert src dst x =>
    rw [hop] at h; simp only [ev1] at h;split at h
    · rename_i i1 n1 b1 z1 k k' n h1 h2 hx;refine ⟨_, h, val_ok (by simp) fun _ _ wc => ?_⟩;obtain ⟨d, hd, _⟩ := (hT src _ h1).und;have hk := (hT dst _ h2).kind;have hrun := run_convert_int (P := X.P) (w := wc) src dst k' n (by rw [hd]; rfl) (by rw [Program.intKind, hk]);have hik : X.P.intKind dst = k := by rw [Program.intKind, hk]
      rw [hik] at hrun;simp only [execOp, hop, (hev x _ hx).2, den, Sem.run_bind, hrun];rfl
    · exact h.elim
  | extract x n =>
    rw [hop] at h; simp only [ev1] at h
    have key : ∀ (l : List SV) (s : SV) (r : List SV), dropN n l = s :: r → l[n]? = some s := by
      intro l s r hd;rw [dropN_eq] at hd;have := congrArg (fun l => l[0]?) hd;simpa using this
    split at h
    · rename_i l hx;split at h
      · exact h.elim
      · rename_i s r hb hd;have hg := key l s r hd;refine ⟨_, h, val_ok (fun e => hb e) fun _ _ wc => ?_⟩;have : (denL st.H l)[n]? = some (den st.H s) := by rw [denL_get, hg]; rfl
        simp [execOp, hop, (hev x _ hx).2, den, Instr.extract, this]
      · exact h.elim
    · rename_i arr hx;split at h
      · rename_i s r hd;have hg := key _ s r hd;have hne : s ≠ .bad := fun e => vs_noBad arr.toList (by rw [← e]; exact List.mem_of_getElem? hg)
        refine ⟨_, h, val_ok hne fun _ _ wc => ?_⟩
        have : arr[n]? = some (den st.H s) := by
          have h1 : (denL st.H (vs arr.toList))[n]? = some (den st.H s) := by rw [denL_get, hg]; rfl
          rw [denL_vs] at h1;simpa using h1
        simp [execOp, hop, (hev x _ hx).2, den, Instr.extract, this]
      · exact h.elim
    · exact h.elim
  | makeFunc fn first caps =>
    rw [hop] at h; simp only [ev1] at h;split at h
    · rename_i f l c hl hc;obtain ⟨h1, _⟩ := evs_spec hev hl;obtain ⟨h2, _⟩ := evs_spec hev hc;have e1 : first.map a.eval = (denL st.H l).toArray := by apply Array.ext'; simpa using h1
      have e2 : caps.map a.eval = (denL st.H c).toArray := by apply Array.ext'; simpa using h2
      exact ⟨_, h, val_ok (by simp) fun _ _ wc => by simp [execOp, hop, Instr.makeFunc, e1, e2, den]⟩
    · exact h.elim
  | build t ps =>
    rw [hop] at h; simp only [ev1] at h;split at h
    · rename_i n agg z eq fs hi;split at h
      · rename_i l hl;obtain ⟨F, hu, htd⟩ := (hT t _ hi).struct rfl;obtain ⟨zv, hz, hzr⟩ := (hT t _ hi).run_zero
        have hmap : ∀ w, (F.mapM fun f => do pure (f.offset, ← sizeOf f.type) : Sem (Array (Nat × Nat))).run X.P w = .ok (F.map fun f => (f.offset, ((X.P.info? f.type).map (·.size)).getD 0)) w := by
          intro w
          have : ∀ (L : List Field) (fs : List (Nat × Nat × Nat)), fldB X.P L fs = true → (L.mapM fun f => do pure (f.offset, ← sizeOf f.type) : Sem (List (Nat × Nat))).run X.P w = .ok (L.map fun f => (f.offset, ((X.P.info? f.type).map (·.size)).getD 0)) w := by
            intro L
            induction L with
            | nil => intro fs _; simp
            | cons f L ih =>
              intro fs hfs;cases fs with
              | nil => simp [fldB] at hfs
              | cons x fs =>
                obtain ⟨t', o', n'⟩ := x;simp only [fldB, Bool.and_eq_true] at hfs;obtain ⟨g1, g2, g3, g4, g5⟩ := hfs;obtain ⟨inf, hi1, hi2⟩ := szB_info g3;rw [← beqT g1] at hi1;have hsz : ∀ w, (sizeOf f.type).run X.P w = .ok inf.size w := fun w => by simp [sizeOf, typeInfo, hi1]
                rw [List.mapM_cons];simp only [Sem.run_bind, hsz, Result.andThen_ok, Sem.run_pure];rw [ih fs g5];simp [hi1]
          rw [← Array.toArray_toList (xs := F)];rw [List.mapM_toArray];rw [Sem.run_map, this F.toList fs htd];simp only [Result.andThen_ok];congr 1;apply Array.ext';simp
        have hpl : ∀ j ty off n, nthF fs j = some (ty, off, n) → (F.map fun f => (f.offset, ((X.P.info? f.type).map (·.size)).getD 0))[j]? = some (off, n) := by
          intro j ty off n hj;obtain ⟨fd, g1, g2, g3, g4, g5⟩ := fldB_get htd hj;obtain ⟨inf, hi1, hi2⟩ := szB_info g4;have : F[j]? = some fd := by simpa using g1
          simp [this, g3, g2, hi1, hi2]
        obtain ⟨h1, h2⟩ := fillS_ok hev hrow hpl ps.toList (vs z) l hl (vs_noBad z);refine ⟨_, h, val_ok (by simp) fun _ _ wc => ?_⟩;have hz' : zv.cells = (denL st.H (vs z)).toArray := by apply Array.ext'; simp [hz, denL_vs]
        have hps : (ps.map fun p => (p.1, a.eval p.2)).toList = ps.toList.map fun p => (p.1, a.eval p.2) := by simp
        simp only [execOp, hop, Instr.build, Sem.run_bind, hzr, Result.andThen_ok, run_und hu, hmap, hz'];have hps2 : (Array.map (fun x => match x with | (i, x) => (i, a.eval x)) ps).toList = ps.toList.map fun p => (p.1, a.eval p.2) := by simp
        rw [hps2, h1];simp [den]
      · exact h.elim
    · rename_i n agg z eq len e esz hi;split at h
      · rename_i l hl;obtain ⟨hu, hsz⟩ := (hT t _ hi).arr rfl;obtain ⟨zv, hz, hzr⟩ := (hT t _ hi).run_zero;obtain ⟨h1, h2⟩ := fillA_ok hev hrow (esz := esz) ps.toList (vs z) l hl (vs_noBad z);refine ⟨_, h, val_ok (by simp) fun _ _ wc => ?_⟩;have hz' : zv.cells = (denL st.H (vs z)).toArray := by apply Array.ext'; simp [hz, denL_vs]
        simp only [execOp, hop, Instr.build, Sem.run_bind, hzr, Result.andThen_ok, run_und hu, hz', szB_run hsz];have hps2 : (Array.map (fun x => match x with | (i, x) => (i, a.eval x)) ps).toList = ps.toList.map fun p => (p.1, a.eval p.2) := by simp
        rw [hps2, h1];simp [den]
      · exact h.elim
    · exact h.elim
  | buildSlice t n ps =>
    rw [hop] at h; simp only [ev1] at h;split at h
    · rename_i m agg z eq e esz bytes hi;split at h
      · rename_i i2 hi2;split at h
        · rename_i l hle hn hl;have hle' : n * esz ≤ 16777216 := Nat.le_of_ble_eq_true hle;have hn' := beqT hn;have hz2 := hT e i2 hi2;obtain ⟨hu, _⟩ := (hT t _ hi).slice rfl;obtain ⟨zv, hz, hzr⟩ := hz2.run_zero;obtain ⟨h1, h2⟩ := fillA_ok hev hrow (esz := esz) ps.toList _ l hl (repL_noBad (vs_noBad _));have hzl : zv.cells.size = esz := by rw [← Array.length_toList, hz, hz2.zn, hn']
          have hbase : ((Array.range (n * esz)).map fun i => zv.cells[i % zv.cells.size]!) = (denL st.H (repL n (vs i2.z))).toArray := by
            rw [denL_repL, ← repL_vs n i2.z default];apply Array.ext';rw [hz2.zn, hn', ← hz];simp only [Array.toList_map, Array.toList_range, hzl];apply List.map_congr_left;intro j hj;simp [Array.getElem!_eq_getD, Array.getD_eq_getD_getElem?]
          refine ⟨_, h, fun wc _ => ?_⟩;have hnot : ¬ n * esz > 2 ^ 24 := by omega
          have hps2 : (Array.map (fun x => match x with | (i, x) => (i, a.eval x)) ps).toList = ps.toList.map fun p => (p.1, a.eval p.2) := by simp
          simp only [execOp, hop, Instr.buildSlice, Sem.run_bind, run_und hu, Result.andThen_ok, slice_run (hT t _ hi) rfl, hnot, if_false, hps2];by_cases hz0 : n * esz = 0
          · have hb0 : (denL st.H (repL n (vs i2.z))).toArray = #[] := by
              apply Array.ext';apply List.eq_nil_of_length_eq_zero;simp [denL_length, repL_length, vs_length, hz2.zn, hn', hz0]
            rw [hb0] at h1;have hr0 : ∀ f : Nat → Value, Array.map f (Array.range 0) = #[] := fun f => by simp
            simp only [hz0, if_true, Sem.run_pure, hr0, h1];simp [newRow]
          · simp only [hz0, if_false, Sem.run_bind, hzr, Result.andThen_ok, Sem.run_pure, hbase, h1];simp [newRow]
        · exact h.elim
      · exact h.elim
    · exact h.elim
  | slice t x lo hi mx =>
    rw [hop] at h; simp only [ev1] at h;split at h
    · rename_i n agg z eq e esz bytes ad n' c hi hx;obtain ⟨l, hh, m, hK, hr⟩ := bnd_ok (X := X) (isSlice := true) hev h;have hu := ((hT t _ hi).slice rfl).1;refine ⟨_, hK _ rfl, val_ok (by simp) fun _ _ wc => ?_⟩;simp only [execOp, hop, (hev x _ hx).2, den, Instr.sliceAt, Sem.run_bind, run_und hu, Result.andThen_ok];simp [Instr.slice, run_und hu, hr, slice_run (hT t _ hi) rfl, subA]
    · rename_i n agg z eq e esz bytes k hi hx;split at h
      · rename_i v n' _ _ _ hf;obtain ⟨h0, h⟩ := h;obtain ⟨ad, n2, c, rfl, h1⟩ := hrow _ _ _ _ _ _ hf;obtain ⟨rfl, hnc, b, rfl⟩ := h1 h0;have h := h c hnc;obtain ⟨l, hh, m, hK, hr⟩ := bnd_ok (X := X) (isSlice := true) hev (Kb := fun l h m => m = c ∧ K (.val (.osl k (if c = l then 0 else l * esz) (h - l) l))) (bnd_cap h)
        obtain ⟨rfl, hK⟩ := hK;have hu := ((hT t _ hi).slice rfl).1;refine ⟨_, hK, val_ok (by simp) fun _ _ wc => ?_⟩;have hb : bOf st.H k = b := by simp [bOf, hf, blkOf]
        have hv : rowVal st.H k = .slice (some ⟨b, 0, none⟩) n2 m := by simp [rowVal, hf]
        simp only [execOp, hop, (hev x _ hx).2, den, hv, hb, capOf, Instr.sliceAt, Sem.run_bind, run_und hu, Result.andThen_ok];simp only [Instr.slice, Sem.run_bind, run_und hu, Result.andThen_ok, hr, slice_run (hT t _ hi) rfl, Sem.run_pure];by_cases hc : m = l
        · simp [hc]
        · simp [hc, add_off]
      · exact h.elim
    · rename_i n agg z eq s hi hx;split at h
      · obtain ⟨l, hh, m, hK, hr⟩ := bnd_ok (X := X) (isSlice := false) hev h;have hu := (hT t _ hi).strg rfl;refine ⟨_, hK, val_ok (by simp) fun _ _ wc => ?_⟩;simp only [Option.map_none] at hr;simp only [execOp, hop, (hev x _ hx).2, den, Instr.sliceAt, Sem.run_bind, run_und hu, Result.andThen_ok];simp [Instr.slice, run_und hu, hr]
      · exact h.elim
    · rename_i n agg z eq len ety esz k hi hx;split at h
      · split at h
        · rename_i hf;obtain ⟨hu, hsz⟩ := (hT t _ hi).arr rfl;refine ⟨_, h, val_ok (by simp) fun _ _ wc => ?_⟩;have hcap : capOf (rowVal st.H k) len = len := by simp [rowVal, hf, capOf, undef]
          simp only [execOp, hop, (hev x _ hx).2, den, hcap, Instr.sliceAt, Sem.run_bind, run_und hu, Result.andThen_ok];simp [Instr.sliceBounds, Instr.sureAddr, szB_run hsz, add_off]
        · exact h.elim
      · exact h.elim
    · exact h.elim
  | call c =>
    rw [hop] at h; simp only [ev1] at h;split at h
    · rename_i f hcal;split at h
      · rename_i g l caps args hf hargs;obtain ⟨h1, _⟩ := evs_spec hev hargs;refine ⟨_, h, fun wc hb => ?_⟩;obtain ⟨fn, cd, hfn, hbody⟩ := hb;have e1 : c.args.map a.eval = (denL st.H args).toArray := by apply Array.ext'; simpa using h1
        have hng' := hng g fn hfn;simp only [execOp, hop, resolve, hcal, Sem.run_bind, (hev f _ hf).2, den, Deferred.ofValue, Sem.run_pure, Result.andThen_ok, invoke, callFunc, run_program, hfn, e1];simp [hng', hbody, denL_append]
      · rename_i g l caps args hf hargs;obtain ⟨h1, _⟩ := evs_spec hev hargs;refine ⟨_, h, fun wc hb => ?_⟩;obtain ⟨fn, cd, hfn, hbody⟩ := hb;have e1 : c.args.map a.eval = (denL st.H args).toArray := by apply Array.ext'; simpa using h1
        have hng' := hng g fn hfn;simp only [execOp, hop, resolve, hcal, Sem.run_bind, (hev f _ hf).2, den, Deferred.ofValue, Sem.run_pure, Result.andThen_ok, invoke, callFunc, run_program, hfn, e1];simp [hng', hbody, denL_append, denL_vs]
      · exact h.elim
    · rename_i b hcal;obtain ⟨callee, args, tys⟩ := c;simp only at hcal h;subst hcal;exact evBuiltin_ok hT hev hop h
    · exact h.elim
  | lookup t x ix ok =>
    rw [hop] at h; simp only [ev1] at h;split at h
    · rename_i r hx;split at h
      · rename_i i hi;obtain ⟨⟨kt, et, hu, hk⟩, es, c, j, v, hm, hf, hK⟩ := h;have h1 := (hev x _ hx).2;have h2 := (hev ix _ hi).2;refine ⟨_, hK, by simp, fun wc hc => ⟨[r], .inr (.inr ⟨_, _, _, _, hop, fun k hk2 => by rw [hx] at hk2; cases hk2⟩), fun wc' hw => ?_⟩⟩;have hb : wc'.heap[r]? = some (.map es c) := by rw [hw r (by simp)]; exact hm.heap hc
        have hl := run_lookupI hu hk hb hf;simp only [execOp, hop, h1, h2, den, Sem.run_bind, hl, Result.andThen_ok, Sem.run_pure]
      · exact h.elim
    · rename_i k hx;split at h
      · rename_i s b es m hi hf;obtain ⟨⟨hm, rfl⟩, kc, v, bb, ⟨hd, hk, rfl, rfl⟩, hK⟩ := h;have h1 := (hev x _ hx).2;have h2 := (hev ix _ hi).2;have hden : den st.H (.row k) = .map (some b) := by simp [den, rowVal, hf]
        refine ⟨_, hK, by cases ok <;> simp, fun wc hc => ?_⟩;have hat : MapAt wc b es m := by have := hc.own k _ (findE_mem hf); exact this
        refine ⟨[b], .inr (.inr ⟨_, _, _, _, hop, fun k' hk' => ?_⟩), fun wc' hw => ?_⟩
        · rw [hx] at hk'; cases hk';obtain ⟨arr, c, hb, _⟩ := hat;exact ⟨_, b, hf, by simp [bsE], rfl, (Array.getElem?_eq_some_iff.1 hb).1⟩
        · have hat' : MapAt wc' b es m := by
            obtain ⟨arr, c, hb, g1, g2⟩ := hat;exact ⟨arr, c, by rw [hw b (by simp)]; exact hb, g1, g2⟩
          have hl := run_lookupM hT hm hat' hk ok;simp only [execOp, hop, h1, h2, hden, hd, Sem.run_bind, hl, Result.andThen_ok, Sem.run_pure];cases ok <;> simp [den, denL]
      · exact h.elim
    · exact h.elim
  | _ => rw [hop] at h; simp only [ev1] at h
end
theorem beqN {a b:Nat} (h:a≠b):Nat.beq a b=false:=by
 cases hb:Nat.beq a b with
 |false=>rfl
 |true=>exact absurd (beqT hb) h
def slotv (X:Cx) (a:Act) (d:Nat):Option Value:=if d<gbase then a.tmps[d]? else X.sv[d-gbase]?
structure Rel (X:Cx) (st:St) (a:Act) (w:World):Prop where
 size:a.tmps.size=X.nt∧X.nt≤gbase
 T:∀d s,look st.T d=some s→s= .bad∨slotv X a d=some (den st.H s)
 dfs:a.defers=X.dfs
 cls:Cls X st.H st.nk st.w w
 lo:st.lo≤w.heap.size
 iv:∀p,p∈st.iv→p.1≤p.2∧p.2≤w.heap.size
def chB (H:Hp) (out:Out):List Nat:=match keyOf out with
 |some k=>(match findE H k with|some e=>bsE e|none=> [])
 |none=> []
def KB (H:Hp) (w:World) (H':Hp):Prop:=∀k e,(k,e)∈H'→∀b,b∈bsE e→w.heap.size≤b∨∃e0,(k,e0)∈H∧b∈bsE e0
theorem KB.refl (H:Hp) (w:World):KB H w H:=fun _ e h _ hb=> .inr ⟨e,h,hb⟩
theorem KB.bs {H H':Hp} {w:World} (h:KB H w H'):∀b,b∈bs H'→b∈Sx.bs H∨w.heap.size≤b:=by
 intro b hb;obtain⟨k,e,h1,h2⟩:=bs_mem.1 hb;rcases h k e h1 b h2 with h3|⟨e0,h3,h4⟩
 · exact .inr h3
 · exact .inl (bs_mem.2 ⟨k,e0,h3,h4⟩)
theorem Fx.wide {o1 o2:List Nat} {w w':World} (h:Fx o1 w w') (hs:∀b,b∈o1→b∈o2):Fx o2 w w':=⟨h.os,h.tape,h.output,h.size,fun i hi hn=>h.block i hi fun b hb=>hn b (hs b hb)⟩
theorem chB_bs {H:Hp} {out:Out}:∀b,b∈chB H out→b∈bs H:=by
 intro b hb;unfold chB at hb;split at hb
 · split at hb
   · rename_i e he;exact bs_mem.2 ⟨_,e,findE_mem he,hb⟩
   · cases hb
 · cases hb
def Leaves (X:Cx) (H:Hp) (ch:List Nat) (w:World) (K:St→Prop) (a':Act) (w':World):Prop:=
 ∃st',K st'∧Rel X st' a' w'∧Fx ch w w'∧KB H w st'.H
section
variable {X : Cx} {st : St} {a : Act} {w : World} {K : St → Prop}
theorem Rel.ev (hr:Rel X st a w):∀x s,ev st x=some s→s≠ .bad∧a.eval x=den st.H s:=fun _ _ h=>ev_spec (fun d s hd hl=>by have:=hr.T d s hl;rwa [slotv,if_pos hd]at this) h
theorem entAt_keep {B:Nat} {H:Hp} {w w':World} {e:Ent} (h:entAt B H w e) (hk:∀b,b∈bsE e→w'.heap[b]?=w.heap[b]?):entAt B H w' e:=by
 cases e with
 |blk b cs ty=>obtain⟨xs,h1,h2⟩:=h;exact⟨xs,h1,by rw [hk b (by simp [bsE])];exact h2⟩
 |mp b es ty=>obtain⟨arr,c,h1,h2⟩:=h;exact⟨arr,c,by rw [hk b (by simp [bsE])];exact h1,h2⟩
 |row v n xs sz ty=>
  refine⟨h.1, ?_⟩;rcases h.2 with h2|⟨g,cap,cur,rfl,hb,hg,r⟩
  · exact .inl h2
  · exact .inr ⟨g,cap,cur,rfl,hb,by rw [hk g (by simp [bsE,ownB])];exact hg,r⟩
theorem entAt_lt {B:Nat} {H:Hp} {w:World} {e:Ent} (h:entAt B H w e) {b:Nat} (hb:b∈bsE e):b<w.heap.size:=by
 cases e with
 |blk c cs ty=>obtain⟨xs,h1,h2⟩:=h;simp [bsE]at hb;subst hb;exact(Array.getElem?_eq_some_iff.1 h2).1
 |mp c es ty=>obtain⟨arr,cl,h1,_⟩:=h;simp [bsE]at hb;subst hb;exact(Array.getElem?_eq_some_iff.1 h1).1
 |row v n xs sz ty=>
  rcases h.2 with⟨rfl,_⟩|⟨g,cap,cur,rfl,_,hg,_⟩
  · simp [bsE,ownB]at hb
  · simp [bsE,ownB]at hb;subst hb;exact(Array.getElem?_eq_some_iff.1 hg).1
theorem Cls.lt_size {H:Hp} {nk:Nat} {w wc:World} (h:Cls X H nk w wc) {b:Nat} (hb:b∈bs H):b<wc.heap.size:=by
 obtain⟨k,e,he,hbe⟩:=bs_mem.1 hb;exact entAt_lt (h.own k e he) hbe
theorem put_rel (hr:Rel X st a w) {d:Nat} {s:SV} {v:Value} (hd:d<X.nt) (hv:s= .bad∨v=den st.H s):Rel X ⟨(d,s)::st.T,st.H,st.nk,st.w,st.lo,st.iv⟩ (a.put (some d) v) w:=by
 refine⟨by simp [Act.put,hr.size],fun d' s' h=> ?_,hr.dfs,hr.cls,hr.lo,hr.iv⟩;simp only [look]at h;split at h
 · rename_i hb;cases h;obtain rfl:=beqT hb;rcases hv with h|h
   · exact .inl h
   · right;simp [slotv,Nat.lt_of_lt_of_le hd hr.size.2,Act.put,hr.size.1,hd,h]
 · rename_i hb;rcases hr.T d' s' h with h1|h1
   · exact .inl h1
   · right;simp only [slotv,Act.put]at h1⊢;rw [Array.getElem?_setIfInBounds_ne (beqF hb)];exact h1
theorem put_ok (hr:Rel X st a w) {dst:Option Nat} {s:SV} {v:Value} (h:put X st dst s K) (hv:s= .bad∨v=den st.H s):∃st',K st'∧Rel X st' (a.put dst v) w∧st'.H=st.H:=by
 unfold put at h;cases dst with
 |none=>exact⟨st,h,hr,rfl⟩
 |some d=>
  obtain⟨T,H,nk,w0,lo,iv⟩:=st;simp only at h;split at h
  · rename_i hd heq;cases heq;exact⟨_,h,put_rel hr (by simpa [Nat.blt_eq]using hd) hv,rfl⟩
  · exact h.elim
theorem Leaves.put (hr:Rel X st a w) {H0:Hp} {ch:List Nat} {w0:World} {dst:Option Nat} {s:SV} {v:Value} (h:put X st dst s K) (hv:s= .bad∨v=den st.H s) (hf:Fx ch w0 w)
 (hb:KB H0 w0 st.H):Leaves X H0 ch w0 K (a.put dst v) w:=by
 obtain⟨st',h1,h2,h3⟩:=put_ok hr h hv;exact⟨st',h1,h2,hf,by rw [h3];exact hb⟩
theorem freshT_look {k:Nat} {T:List (Nat×SV)} (h:freshT k T=true) {d:Nat} {s:SV} (hl:look T d=some s):ment k s=false:=by
 induction T with
 |nil=>simp [look]at hl
 |cons x T ih=>
  obtain⟨d',s'⟩:=x;simp only [freshT]at h;split at h
  · cases h
  · rename_i hm;simp only [look]at hl;split at hl
    · cases hl;exact hm
    · exact ih h hl
theorem mentL_mem {k:Nat} {l:List SV} (h:mentL k l=false) {s:SV} (hs:s∈l):ment k s=false:=by
 induction l with
 |nil=>cases hs
 |cons x l ih=>
  simp only [mentL]at h;split at h
  · cases h
  · rename_i hm;rcases List.mem_cons.1 hs with rfl|hs
    · exact hm
    · exact ih h hs
theorem freshH_mem {k:Nat} {H:Hp} (h:freshH k H=true) {j b ty:Nat} {cs:List SV} (hm:(j,Ent.blk b cs ty)∈H):mentL k cs=false:=by
 induction H with
 |nil=>cases hm
 |cons x H ih=>
  obtain⟨j',e⟩:=x;cases e with
  |blk b' cs' ty'=>
   simp only [freshH]at h;split at h
   · cases h
   · rename_i hf;rcases List.mem_cons.1 hm with he|hm
     · cases he;exact hf
     · exact ih h hm
  |row v n xs sz ty'=>
   simp only [freshH]at h;rcases List.mem_cons.1 hm with he|hm
   · cases he
   · exact ih h hm
  |mp b es ty'=>
   simp only [freshH]at h;rcases List.mem_cons.1 hm with he|hm
   · cases he
   · exact ih h hm
theorem den_new {H:Hp} {k:Nat} {e:Ent} {s:SV} (h:ment k s=false):den ((k,e)::H) s=den H s:=
 den_congr k (fun j hj=>by simp [bOf,rowVal,findE_cons_ne (H:=H) (e:=e) (Ne.symm hj)]) s h
theorem denL_new {H:Hp} {k:Nat} {e:Ent} {l:List SV} (h:mentL k l=false):denL ((k,e)::H) l=denL H l:=
 denL_congr k (fun j hj=>by simp [bOf,rowVal,findE_cons_ne (H:=H) (e:=e) (Ne.symm hj)]) l h
theorem Cls.cons {H:Hp} {nk:Nat} {w wc wc':World} {e:Ent} (hc:Cls X H nk w wc) (hfr:freshH nk H=true) (hk:∀k e,(k,e)∈H→k≠nk)
 (hsz:wc.heap.size≤wc'.heap.size) (hh:∀i,i<wc.heap.size→wc'.heap[i]?=wc.heap[i]?) (hos:wc'.os=wc.os) (htp:wc'.tape=wc.tape) (hou:wc'.output=wc.output)
 (he:entAt 0 ((nk,e)::H) wc' e) (heb:∀b,b∈bsE e→wc.heap.size≤b) (hen:(bsE e).Nodup):Cls X ((nk,e)::H) (nk+1) w wc':=by
 have hold:∀b,b∈bs H→b<wc.heap.size:=fun b hb=>hc.lt_size hb
 refine⟨⟨hos.trans hc.fx.os,htp.trans hc.fx.tape,hou.trans hc.fx.output,Nat.le_trans hc.fx.size hsz,fun i hi hn=> ?_⟩,
  ⟨hos.trans hc.fx0.os,htp.trans hc.fx0.tape,hou.trans hc.fx0.output,Nat.le_trans hc.fx0.size hsz,fun i hi hn=> ?_⟩, ?_, ?_, ?_, ?_, ?_⟩
 · rw [hh i (Nat.lt_of_lt_of_le hi hc.fx.size)];exact hc.fx.block i hi fun b hb=>hn b (by simp [bs,hb])
 · rw [hh i (Nat.lt_of_lt_of_le hi hc.fx0.size)];exact hc.fx0.block i hi hn
 · intro k e' hm;rcases List.mem_cons.1 hm with h|h
   · cases h;exact he
   · have h1:=entAt_keep (hc.own k e' h) (w':=wc') (fun b hb=>hh b (hold b (bs_mem.2 ⟨k,e',h,hb⟩)));cases e' with
     |row v n xs sz ty=>exact h1
     |mp b es ty=>exact h1
     |blk b cs ty=>
      obtain⟨xs,h2,h3⟩:=h1;exact⟨xs,cellsR_mono h2 fun s hs _=>den_new (mentL_mem (freshH_mem hfr h) hs),h3⟩
 · simp only [bs,List.nodup_append];refine⟨hen,hc.nd,fun b hb b' hb' heq=> ?_⟩;subst heq;have:=heb b hb;have:=hold b hb';omega
 · intro b hb;simp only [bs,List.mem_append]at hb;rcases hb with hb|hb
   · exact .inr (Nat.le_trans hc.fx0.size (heb b hb))
   · exact hc.lb b hb
 · simp only [List.map_cons,List.nodup_cons];refine⟨fun hm=> ?_,hc.keys⟩;obtain⟨⟨k,e'⟩,h1,h2⟩:=List.mem_map.1 hm;exact hk k e' h1 h2
 · intro k e' hm;rcases List.mem_cons.1 hm with h|h
   · cases h;omega
   · have:=hc.lt k e' h;omega
theorem Rel.cons (hr:Rel X st a w) {w':World} {e:Ent} (hT:freshT st.nk st.T=true) (hfr:freshH st.nk st.H=true)
 (hsz:w.heap.size≤w'.heap.size) (hh:∀i,i<w.heap.size→w'.heap[i]?=w.heap[i]?) (hos:w'.os=w.os) (htp:w'.tape=w.tape) (hou:w'.output=w.output)
 (he:entAt 0 ((st.nk,e)::st.H) w' e) (heb:∀b,b∈bsE e→w.heap.size≤b) (hen:(bsE e).Nodup):Rel X ⟨st.T,(st.nk,e)::st.H,st.nk+1,st.w,st.lo,st.iv⟩ a w':=by
 refine⟨hr.size,fun d s h=> ?_,hr.dfs,hr.cls.cons hfr (fun k e h=>by have:=hr.cls.lt k e h;omega) hsz hh hos htp hou he heb hen,Nat.le_trans hr.lo hsz,fun p hp=>⟨(hr.iv p hp).1,Nat.le_trans (hr.iv p hp).2 hsz⟩⟩;rcases hr.T d s h with h1|h1
 · exact .inl h1
 · right;rw [h1,den_new (freshT_look hT h)]
theorem ivOK_of {iv:List (Nat×Nat)} {n b:Nat} (h:∀p,p∈iv→p.1≤p.2∧p.2≤n) (hb:n≤b):ivOK iv b:=by
 induction iv with
 |nil=>trivial
 |cons p iv ih=>
  obtain⟨x,y⟩:=p;exact⟨.inr (Nat.le_trans (h (x,y) (by simp)).2 hb),ih fun p hp=>h p (by simp [hp])⟩
theorem setE_ok {H:Hp} {k:Nat} {e:Ent} {K:Hp→Prop} (h:setE H k e K):∃H1 e0 H2,H=H1++(k,e0)::H2∧(∀e',(k,e')∉H1)∧K (H1++(k,e)::H2):=by
 induction H generalizing K with
 |nil=>exact h.elim
 |cons x H ih=>
  obtain⟨k',e'⟩:=x;simp only [setE]at h;split at h
  · rename_i hb;obtain rfl:=beqT hb;exact⟨[],e',H,rfl,by simp,h⟩
  · rename_i hb;obtain⟨H1,e0,H2,rfl,h2,h3⟩:=ih h;refine⟨(k',e')::H1,e0,H2,rfl,fun e1 hm=> ?_,h3⟩;rcases List.mem_cons.1 hm with hm|hm
    · cases hm;exact beqF hb rfl
    · exact h2 e1 hm
theorem findE_append {H1 H2:Hp} {k j:Nat} {e e0:Ent} (h:∀e',(k,e')∉H1):findE (H1++(k,e)::H2) j=if j=k then some e else findE (H1++(k,e0)::H2) j:=by
 induction H1 with
 |nil=>
  simp only [List.nil_append,findE];by_cases hj:j=k
  · subst hj;simp
  · have:Nat.beq k j=false:=beqN fun e=>hj e.symm
    simp [hj,this]
 |cons x H1 ih=>
  obtain⟨k',e'⟩:=x;have hk':k'≠k:=fun e=>h e' (by simp [e])
  simp only [List.cons_append,findE];by_cases hj:j=k'
  · subst hj;simp [hk']
  · have:Nat.beq k' j=false:=beqN fun e=>hj e.symm
    simp only [this];exact ih fun e1 hm=>h e1 (by simp [hm])
theorem bs_append (H1 H2:Hp):bs (H1++H2)=bs H1++bs H2:=by
 induction H1 with
 |nil=>rfl
 |cons x H1 ih=>obtain⟨k,e⟩:=x;simp [bs,ih]
theorem bs_swap {H1 H2:Hp} {k:Nat} {e e0:Ent} (h:bsE e=bsE e0):bs (H1++(k,e)::H2)=bs (H1++(k,e0)::H2):=by simp [bs_append,bs,h]
theorem mem_swap {H1 H2:Hp} {k:Nat} {e e0:Ent} {j:Nat} {e':Ent} (h:(j,e')∈H1++(k,e)::H2):(j=k∧e'=e)∨((j,e')∈H1++(k,e0)::H2∧((j,e')∈H1∨(j,e')∈H2)):=by
 rcases List.mem_append.1 h with h|h
 · exact .inr ⟨List.mem_append_left _ h, .inl h⟩
 · rcases List.mem_cons.1 h with h|h
   · cases h;exact .inl ⟨rfl,rfl⟩
   · exact .inr ⟨List.mem_append_right _ (List.mem_cons_of_mem _ h), .inr h⟩
theorem Cls.swap {H1 H2:Hp} {k:Nat} {e e0:Ent} {nk:Nat} {w wc wc':World} (hc:Cls X (H1++(k,e0)::H2) nk w wc) (hbs:bsE e=bsE e0)
 (hd:∀j,bOf (H1++(k,e)::H2) j=bOf (H1++(k,e0)::H2) j∧rowVal (H1++(k,e)::H2) j=rowVal (H1++(k,e0)::H2) j)
 (hsz:wc'.heap.size=wc.heap.size) (hh:∀i,i∉bsE e0→wc'.heap[i]?=wc.heap[i]?) (hos:wc'.os=wc.os) (htp:wc'.tape=wc.tape) (hou:wc'.output=wc.output)
 (hbor:∀b,b∈bsE e0→b∈X.bor∨X.w0.heap.size≤b) (he:entAt 0 (H1++(k,e)::H2) wc' e):Cls X (H1++(k,e)::H2) nk w wc':=by
 have hmem:(k,e0)∈H1++(k,e0)::H2:=by simp
 refine⟨⟨hos.trans hc.fx.os,htp.trans hc.fx.tape,hou.trans hc.fx.output,by rw [hsz];exact hc.fx.size,fun i hi hn=> ?_⟩,
  ⟨hos.trans hc.fx0.os,htp.trans hc.fx0.tape,hou.trans hc.fx0.output,by rw [hsz];exact hc.fx0.size,fun i hi hn=> ?_⟩, ?_,by rw [bs_swap hbs];exact hc.nd,by rw [bs_swap hbs];exact hc.lb,by simpa using hc.keys, ?_⟩
 · rw [bs_swap hbs]at hn;rw [hh i (fun hm=>hn i (bs_mem.2 ⟨k,e0,hmem,hm⟩) rfl)];exact hc.fx.block i hi hn
 · rw [hh i (fun hm=>by
    rcases hbor i hm with h|h
    · exact hn i h rfl
    · omega)]
   exact hc.fx0.block i hi hn
 · intro j e' hm;rcases mem_swap (e0:=e0) hm with⟨rfl,rfl⟩|⟨hm,hor⟩
   · exact he
   · have hne:j≠k:=by
      intro hjk;subst hjk;have hk:=hc.keys;simp only [List.map_append,List.map_cons,List.nodup_append,List.nodup_cons]at hk;rcases hor with h|h
      · exact hk.2.2 j (List.mem_map.2 ⟨_,h,rfl⟩) j (by simp) rfl
      · exact hk.2.1.1 (List.mem_map.2 ⟨_,h,rfl⟩)
     have h1:=entAt_keep (hc.own j e' hm) (w':=wc') (fun b hb=>hh b (bs_apart hc.nd hc.keys hm hmem hne hb));cases e' with
     |row v n xs sz ty=>exact h1
     |mp b es ty=>exact h1
     |blk b cs ty=>
      obtain⟨xs,h2,h3⟩:=h1;exact⟨xs,cellsR_mono h2 fun s _ _=>den_same hd s,h3⟩
 · intro j e' hm;rcases mem_swap (e0:=e0) hm with⟨rfl,rfl⟩|⟨hm,_⟩
   · exact hc.lt _ _ hmem
   · exact hc.lt _ _ hm
theorem Rel.swap {T:List (Nat×SV)} {H1 H2:Hp} {k:Nat} {e e0:Ent} {nk lo:Nat} {ws:World} {iv:List (Nat×Nat)} {w':World} (hr:Rel X ⟨T,H1++(k,e0)::H2,nk,ws,lo,iv⟩ a w) (hbs:bsE e=bsE e0)
 (hd:∀j,bOf (H1++(k,e)::H2) j=bOf (H1++(k,e0)::H2) j∧rowVal (H1++(k,e)::H2) j=rowVal (H1++(k,e0)::H2) j)
 (hsz:w'.heap.size=w.heap.size) (hh:∀i,i∉bsE e0→w'.heap[i]?=w.heap[i]?) (hos:w'.os=w.os) (htp:w'.tape=w.tape) (hou:w'.output=w.output)
 (he:entAt 0 (H1++(k,e)::H2) w' e):Rel X ⟨T,H1++(k,e)::H2,nk,ws,lo,iv⟩ a w':=by
 refine⟨hr.size,fun d s h=> ?_,hr.dfs,hr.cls.swap hbs hd hsz hh hos htp hou (fun b hb=>hr.cls.lb b (bs_mem.2 ⟨k,e0,by simp,hb⟩)) he,by rw [hsz];exact hr.lo,fun p hp=>by rw [hsz];exact hr.iv p hp⟩;rcases hr.T d s h with h1|h1
 · exact .inl h1
 · right;rw [h1];simp only;rw [den_same hd s]
theorem look_hide {k:Nat} {T:List (Nat×SV)} {d:Nat} {s:SV} (h:look (hideT k T) d=some s):s= .bad∨(look T d=some s∧ment k s=false):=by
 induction T with
 |nil=>simp [hideT,look]at h
 |cons x T ih=>
  obtain⟨d',s'⟩:=x;simp only [hideT,look]at h;split at h
  · rename_i hb;cases h;simp only [hide];cases hm:ment k s' with
    |true=>exact .inl rfl
    |false=>exact .inr ⟨by simp [look,beqT hb],hm⟩
  · rename_i hb;rcases ih h with h1|h1
    · exact .inl h1
    · exact .inr ⟨by simp [look,hb,h1.1],h1.2⟩
theorem hideK_eq {k:Nat} {T:List (Nat×SV)} {K:List (Nat×SV)→Prop}:hideK k T K=K (hideT k T):=by
 induction T generalizing K with
 |nil=>rfl
 |cons x T ih=>
  obtain⟨d,s⟩:=x;simp only [hideK,hideT,hide];cases hm:ment k s<;>simp [ih]
theorem cellsR_hide {H H':Hp} {k:Nat} {l:List SV} {xs:List Value} (h:cellsR H l xs) (hd:∀s,ment k s=false→den H' s=den H s):cellsR H' (hideL k l) xs:=by
 induction l generalizing xs with
 |nil=>cases xs<;>simp_all [cellsR,hideL]
 |cons t l ih=>cases xs with
  |nil=>simp [cellsR]at h
  |cons x xs=>
   simp only [cellsR,hideL]at h⊢;refine⟨?_,ih h.2⟩;simp only [hide];cases hm:ment k t with
   |true=>exact .inl rfl
   |false=>
    rcases h.1 with h1|h1
    · exact .inl h1
    · exact .inr (by rw [hd t hm];exact h1)
theorem hideH_append (k:Nat) (H1 H2:Hp):hideH k (H1++H2)=hideH k H1++hideH k H2:=by
 induction H1 with
 |nil=>rfl
 |cons x H1 ih=>obtain⟨j,e⟩:=x;simp [hideH,ih]
theorem hideH_mem {k j:Nat} {H:Hp} {e:Ent} (h:(j,e)∈hideH k H):∃e',(j,e')∈H∧e=hideE k e':=by
 induction H with
 |nil=>simp [hideH]at h
 |cons x H ih=>
  obtain⟨j',e'⟩:=x;simp only [hideH]at h;rcases List.mem_cons.1 h with h|h
  · cases h;exact⟨e',by simp,rfl⟩
  · obtain⟨e1,h1,h2⟩:=ih h;exact⟨e1,by simp [h1],h2⟩
theorem bsE_hide (k:Nat) (e:Ent):bsE (hideE k e)=bsE e:=by cases e<;>rfl
theorem bs_hide (k:Nat) (H:Hp):bs (hideH k H)=bs H:=by
 induction H with
 |nil=>rfl
 |cons x H ih=>obtain⟨j,e⟩:=x;simp [hideH,bs,ih,bsE_hide]
theorem keys_hide (k:Nat) (H:Hp):(hideH k H).map (·.1)=H.map (·.1):=by
 induction H with
 |nil=>rfl
 |cons x H ih=>obtain⟨j,e⟩:=x;simp [hideH,ih]
theorem findE_hide (k j:Nat) (H:Hp):findE (hideH k H) j=(findE H j).map (hideE k):=by
 induction H with
 |nil=>rfl
 |cons x H ih=>
  obtain⟨j',e⟩:=x;simp only [hideH,findE];split<;>simp [ih]
theorem Cls.grow {H:Hp} {k:Nat} {H1 H2:Hp} {e0:Ent} {v':Value} {n sz ty:Nat} {xs:List Value} {nk:Nat} {w wc wc':World} (hc:Cls X H nk w wc) (hH:H=H1++(k,e0)::H2) (hk1:∀e',(k,e')∉H1)
 (hown:wc'.ownsRow 0 ty sz v' n xs) (hg:∀i,i<wc.heap.size→i∉bsE e0→wc'.heap[i]?=wc.heap[i]?) (hsz:wc.heap.size≤wc'.heap.size)
 (hos:wc'.os=wc.os) (htp:wc'.tape=wc.tape) (hou:wc'.output=wc.output) (hb:∀b,b∈ownB v'→b∈bsE e0∨wc.heap.size≤b) (hbor:∀b,b∈bsE e0→b∈X.bor∨X.w0.heap.size≤b):
 Cls X (hideH k H1++(k, .row v' n xs sz ty)::hideH k H2) nk wc' wc'∧(∀s,ment k s=false→den (hideH k H1++(k, .row v' n xs sz ty)::hideH k H2) s=den H s):=by
 subst hH;have hmem:(k,e0)∈H1++(k,e0)::H2:=by simp
 have hden:∀s,ment k s=false→den (hideH k H1++(k, .row v' n xs sz ty)::hideH k H2) s=den (H1++(k,e0)::H2) s:=by
  intro s hs;refine den_congr k (fun j hj=> ?_) s hs
  have h1:findE (hideH k H1++(k, .row v' n xs sz ty)::hideH k H2) j=(findE (H1++(k,e0)::H2) j).map (hideE k):=by
   rw [findE_append (e0:=hideE k e0) (fun e' hm=>by obtain⟨e1,h1,_⟩:=hideH_mem hm;exact hk1 e1 h1),if_neg hj,←findE_hide,hideH_append];rfl
  simp only [bOf,rowVal,h1];cases h:findE (H1++(k,e0)::H2) j with
  |none=>simp
  |some e=>cases e<;>simp [hideE]
 have hownB:(ownB v').Nodup:=by cases v'<;>simp [ownB]<;>(rename_i a _ _;cases a<;>simp)
 have hkeys:=hc.keys;have hnd:=hc.nd;simp only [List.map_append,List.map_cons,List.nodup_append,List.nodup_cons]at hkeys;simp only [bs_append,bs,List.nodup_append]at hnd;have hlt:∀b,b∈bs (H1++(k,e0)::H2)→b<wc.heap.size:=fun b hb=>hc.lt_size hb
 refine⟨⟨Fx.refl _ _,⟨hos.trans hc.fx0.os,htp.trans hc.fx0.tape,hou.trans hc.fx0.output,Nat.le_trans hc.fx0.size hsz,fun i hi hn=> ?_⟩, ?_, ?_, ?_, ?_, ?_⟩,hden⟩
 · rw [hg i (Nat.lt_of_lt_of_le hi hc.fx0.size) (fun hm=>by rcases hbor i hm with h|h;exact hn i h rfl;omega)]
   exact hc.fx0.block i hi hn
 · intro j e hm;rcases List.mem_append.1 hm with hm|hm
   · obtain⟨e',h1,rfl⟩:=hideH_mem hm;have hm':(j,e')∈H1++(k,e0)::H2:=by simp [h1]
     have hne:j≠k:=fun e=>hk1 e' (e▸h1)
     have h2:=entAt_keep (hc.own j e' hm') (w':=wc') (fun b hb=>hg b (hlt b (bs_mem.2 ⟨j,e',hm',hb⟩)) (bs_apart hc.nd hc.keys hm' hmem hne hb));cases e' with
     |row v n xs sz ty=>exact h2
     |mp b es ty=>exact h2
     |blk b cs ty=>obtain⟨ys,h3,h4⟩:=h2;exact⟨ys,cellsR_hide h3 hden,h4⟩
   · rcases List.mem_cons.1 hm with hm|hm
     · cases hm;exact hown
     · obtain⟨e',h1,rfl⟩:=hideH_mem hm;have hm':(j,e')∈H1++(k,e0)::H2:=by simp [h1]
       have hne:j≠k:=by
        intro hjk;subst hjk;exact hkeys.2.1.1 (List.mem_map.2 ⟨_,h1,rfl⟩)
       have h2:=entAt_keep (hc.own j e' hm') (w':=wc') (fun b hb=>hg b (hlt b (bs_mem.2 ⟨j,e',hm',hb⟩)) (bs_apart hc.nd hc.keys hm' hmem hne hb));cases e' with
       |row v n xs sz ty=>exact h2
       |mp b es ty=>exact h2
       |blk b cs ty=>obtain⟨ys,h3,h4⟩:=h2;exact⟨ys,cellsR_hide h3 hden,h4⟩
 · simp only [bs_append,bs,bs_hide,bsE,List.nodup_append];refine⟨hnd.1,⟨hownB,hnd.2.1.2.1, ?_⟩, ?_⟩
   · intro b hbv b' hb' heq;subst heq;rcases hb b hbv with h|h
     · exact hnd.2.1.2.2 b h b hb' rfl
     · have:=hlt b (by simp [bs_append,bs,hb']);omega
   · intro b hb1 b' hb' heq;subst heq;rcases List.mem_append.1 hb' with hbv|hb2
     · rcases hb b hbv with h|h
       · exact hnd.2.2 b hb1 b (by simp [h]) rfl
       · have:=hlt b (by simp [bs_append,hb1]);omega
     · exact hnd.2.2 b hb1 b (by simp [hb2]) rfl
 · intro b hb1;simp only [bs_append,bs,bs_hide,bsE,List.mem_append]at hb1;rcases hb1 with h|h|h
   · exact hc.lb b (by simp [bs_append,h])
   · rcases hb b h with h|h
     · exact hbor b h
     · exact .inr (Nat.le_trans hc.fx0.size h)
   · exact hc.lb b (by simp [bs_append,bs,h])
 · simpa [keys_hide]using hc.keys
 · intro j e hm;rcases List.mem_append.1 hm with hm|hm
   · obtain⟨e',h1,rfl⟩:=hideH_mem hm;exact hc.lt j e' (by simp [h1])
   · rcases List.mem_cons.1 hm with hm|hm
     · cases hm;exact hc.lt _ _ hmem
     · obtain⟨e',h1,rfl⟩:=hideH_mem hm;exact hc.lt j e' (by simp [h1])
end
theorem Rel.consG {Xx:Cx} {st:St} {a:Act} {w:World} (hr:Rel Xx st a w) {e:Ent} (hT:freshT st.nk st.T=true) (hfr:freshH st.nk st.H=true)
 (he:entAt 0 ((st.nk,e)::st.H) w e) (heb:∀b,b∈bsE e→Xx.w0.heap.size≤b∧b∉bs st.H) (hen:(bsE e).Nodup):Rel Xx ⟨st.T,(st.nk,e)::st.H,st.nk+1,st.w,st.lo,st.iv⟩ a w:=by
 have hc:=hr.cls;have hk:∀k e,(k,e)∈st.H→k≠st.nk:=fun k e h=>by have:=hc.lt k e h;omega
 refine⟨hr.size,fun d s h=> ?_,hr.dfs,⟨⟨hc.fx.os,hc.fx.tape,hc.fx.output,hc.fx.size,fun i hi hn=>hc.fx.block i hi fun b hb=>hn b (by simp [bs,hb])⟩,hc.fx0, ?_, ?_, ?_, ?_, ?_⟩,hr.lo,hr.iv⟩
 · rcases hr.T d s h with h1|h1
   · exact .inl h1
   · right;rw [h1,den_new (freshT_look hT h)]
 · intro k e' hm;rcases List.mem_cons.1 hm with h|h
   · cases h;exact he
   · have h1:=hc.own k e' h;cases e' with
     |row v n xs sz ty=>exact h1
     |mp b es ty=>exact h1
     |blk b cs ty=>
      obtain⟨xs,h2,h3⟩:=h1;exact⟨xs,cellsR_mono h2 fun s hs _=>den_new (mentL_mem (freshH_mem hfr h) hs),h3⟩
 · simp only [bs,List.nodup_append];exact⟨hen,hc.nd,fun b hb b' hb' heq=>(heb b hb).2 (heq▸hb')⟩
 · intro b hb;simp only [bs,List.mem_append]at hb;rcases hb with hb|hb
   · exact .inr (heb b hb).1
   · exact hc.lb b hb
 · simp only [List.map_cons,List.nodup_cons];refine⟨fun hm=> ?_,hc.keys⟩;obtain⟨⟨k,e'⟩,h1,h2⟩:=List.mem_map.1 hm;exact hk k e' h1 h2
 · intro k e' hm;rcases List.mem_cons.1 hm with h|h
   · cases h;exact Nat.lt_succ_self _
   · exact Nat.lt_succ_of_lt (hc.lt k e' h)
section
variable {X : Cx} {st : St} {a : Act} {w : World} {K : St → Prop} {o : Oper} {Q : Exit → Act → World → Prop}
theorem ownB_block {v:Value} {b:Nat} (h:b∈ownB v):v.ownBlock=some b:=by
 cases v<;>simp [ownB]at h;rename_i x _ _;cases x<;>simp at h;subst h;rfl
theorem news_ok {esz m:Nat} {x:SV} {news:List Value} (hn:NewsOf X st esz x m news) {wc:World} (hc:Cls X st.H st.nk st.w wc):
 news.length=m*esz∧(∀u,u∈news→u.oneCell'=true)∧
 ((∃ad c,den st.H x= .slice (some ad) m c∧∀j u,news[j]?=some u→wc.cell? (ad.add j)=some u)∨(den st.H x= .slice none 0 0∧m=0∧news= [])):=by
 have hrow:=rowsOK_of hc;unfold NewsOf at hn;split at hn
 · rename_i k off n c;obtain⟨rfl,hn⟩:=hn;split at hn
   · rename_i b cs ty hf;obtain⟨l,hl,hone,rfl⟩:=hn;obtain⟨xs,hx,hh⟩:=hc.blk hf;obtain⟨h1,h2,h3⟩:=cells_at hx hl;refine⟨by rw [denL_length,h2],oneL_den hrow hone, .inl ⟨⟨b,off,none⟩,c,by simp [den,bOf_blk hf,rowVal,hf,capOf,undef],fun j u hj=> ?_⟩⟩;have hlt:j<m*esz:=by have:=(List.getElem?_eq_some_iff.1 hj).1;rw [denL_length,h2]at this;exact this
     rw [add_off,cell_arr hh];simp only [List.getElem?_toArray];rw [take_get h1 hlt];exact hj
   · rename_i v N xs sz ty hf;obtain⟨rfl,hb,rfl,hone⟩:=hn;have hown:=hc.row hf;have hxl:=hown.1;refine⟨?_,fun u hu=>by rw [←oneV_is];exact hone u (List.mem_of_mem_drop (List.mem_of_mem_take hu)), .inl ⟨⟨bOf st.H k,off,none⟩,_,rfl,fun j u hj=> ?_⟩⟩
     · rcases hb with rfl|hb
       · simp
       · simp only [List.length_take,List.length_drop];omega
     · have hlt:j<m*esz:=by have:=(List.getElem?_eq_some_iff.1 hj).1;simp only [List.length_take]at this;omega
       rw [List.getElem?_take,if_pos hlt,List.getElem?_drop]at hj;rcases hown.2 with⟨rfl,rfl⟩|⟨g,cap,cur,rfl,hg0,hg,r⟩
       · have:xs= []:=List.eq_nil_of_length_eq_zero (by simpa using hxl)
         subst this;simp at hj
       · have hbo:bOf st.H k=g:=by simp [bOf,hf,blkOf]
         rw [add_off,hbo];have:=hown.cells (g:=g) rfl (off+j) u hj;simpa [add_off]using this
   · exact hn.elim
 · rename_i k;split at hn
   · rename_i v n xs sz ty hf;obtain⟨rfl,rfl,rfl,hone⟩:=hn;have hown:=hc.row hf;refine⟨hown.1,fun u hu=>by rw [←oneV_is];exact hone u hu, ?_⟩;rcases hown.2 with⟨rfl,rfl⟩|⟨g,cap,cur,rfl,hb,hg,r⟩
     · right;exact⟨by simp [den,rowVal,hf],rfl,List.eq_nil_of_length_eq_zero (by simpa using hown.1)⟩
     · left;exact⟨⟨g,0,none⟩,cap,by simp [den,rowVal,hf],hown.cells (g:=g) rfl⟩
   · exact hn.elim
 · obtain⟨rfl,rfl⟩:=hn;exact⟨by simp,by simp, .inr ⟨rfl,rfl,rfl⟩⟩
 · rename_i b off sp n c;rcases hn with⟨rfl,rfl,rfl⟩|⟨rfl,rfl,hone,hr⟩
   · exact⟨by simp,by simp, .inl ⟨⟨b,off,sp⟩,c,rfl,fun j u hj=>by simp at hj⟩⟩
   obtain⟨h1,h2⟩:=hr.cells hc;refine⟨h1,fun u hu=>by rw [←oneV_is];exact hone u hu, .inl ⟨⟨b,off,none⟩,c,rfl,fun j u hj=> ?_⟩⟩;have hlt:j<m*esz:=by have:=(List.getElem?_eq_some_iff.1 hj).1;rw [h1]at this;exact this
   rw [add_off,h2 j hlt];exact hj
 · exact hn.elim
theorem app_run {P:Program} {t ty e esz bytes:Nat} {i:TI} (hi:TIok P t i) (hd:i.d= .slice e esz bytes) {ie:TI} (hie:TIok P e ie) (hiz:ie.n=esz) (h1:1≤esz)
 {B:Nat} {v:Value} {n:Nat} {xs:List Value} {wc:World} (hown:wc.ownsRow B e esz v n xs) (hB:B≤wc.heap.size) {m:Nat} {news:List Value} (hl:news.length=m*esz) (hone:∀u,u∈news→u.oneCell'=true)
 {y:Value} (hy:(∃ad c,y= .slice (some ad) m c∧∀j u,news[j]?=some u→wc.cell? (ad.add j)=some u)∨(y= .slice none 0 0∧m=0∧news= []))
 (hb:(n+m)*bytes≤140737488355328) (hm:n+m≤maxLen):
 ∃v' w1,(Builtin.append_ #[t,t] ty #[v,y]).run P wc= .ok v' w1∧w1.ownsRow B e esz v' (n+m) (xs++news)∧wc.grownBy w1 v.ownBlock∧(v'= .slice none 0 0↔v= .slice none 0 0∧m=0)∧
  ∀b,b∈ownB v'→b∈ownB v∨wc.heap.size≤b:=by
 obtain⟨hu,inf,hinf,hsz,hby⟩:=hi.slice hd;obtain⟨inf',z,hinf',hsz',hz,hzc⟩:=hie.info;obtain rfl:inf=inf':=by rw [hinf]at hinf';exact Option.some.inj hinf'
 have hzs:z.cells.size=esz:=by rw [←Array.length_toList,hzc,hie.zn,hiz]
 rcases hy with⟨ad,c,rfl,hcells⟩|⟨rfl,rfl,rfl⟩
 · obtain⟨v',w1,hr,ho,hg,hnil⟩:=run_append_own (P:=P) wc B t ty e inf z esz bytes hu hinf hz hsz hby hzs h1 v n xs hown ad m c news hl hcells hone hm hb hB;refine⟨v',w1,hr,ho,hg,hnil,fun b hbv=> ?_⟩;subst hsz;subst hby;have hm':n+m≤9223372036854775807:=by simpa [maxLen]using hm
   rcases hown.2 with⟨rfl,rfl⟩|⟨g,cap,cur,rfl,hbg,hgg,hnc,hcm,hcs,htake⟩
   · by_cases hm0:m=0
     · have:=hnil.2 ⟨rfl,hm0⟩;subst this;simp [ownB]at hbv
     · have hr2:=run_append_nil (P:=P) wc t ty e inf z hu hinf hz ad m c news hl hcells (by omega) (by omega) (by simp only [Nat.zero_add]at hb;omega);rw [hr]at hr2;cases hr2;simp [ownB]at hbv;right;omega
   · by_cases hroom:n+m≤cap
     · have hfit:n*inf.size+news.length≤cur.size:=by rw [hl,hcs,←Nat.add_mul];exact Nat.mul_le_mul_right _ hroom
       have hr2:=run_append_room (P:=P) wc t ty e inf hu hinf g n cap cur hgg ad m c news hl hcells hone hroom hfit;rw [hr]at hr2;cases hr2;simp [ownB]at hbv⊢;left;exact hbv
     · have hr2:=run_append_grow (P:=P) wc t ty e inf z hu hinf hz ⟨g,0,none⟩ n cap xs hown.1 (hown.cells (g:=g) rfl) ad m c news hl hcells (by omega) (by omega) (growslice_fits (by omega) hb);rw [hr]at hr2;cases hr2;simp [ownB]at hbv;right;omega
 · refine⟨v,wc, ?_,by simpa using hown,⟨rfl,rfl,rfl,Nat.le_refl _,fun _ _ _=>rfl⟩,by simp,fun b hb=> .inl hb⟩
   rcases hown.2 with⟨rfl,rfl⟩|⟨g,cap,cur,rfl,hbg,hgg,hnc,_⟩
   · simp [Builtin.append_,run_underlying hu,sizeOf,typeInfo,hinf,Builtin.lenOf,Builtin.firstCells]
   · simp [Builtin.append_,run_underlying hu,sizeOf,typeInfo,hinf,Builtin.lenOf,Builtin.firstCells,hnc,storeCells]
theorem findE_split {H1 H2:Hp} {k:Nat} {e:Ent} (h:∀e',(k,e')∉H1):findE (H1++(k,e)::H2) k=some e:=by
 rw [findE_append (e0:=e) h];simp
theorem wp_of_value {v:Value} {w':World} {next:Act→World→Prop} (h:(execOp a.eval o).run X.P w= .ok (.value v) w') (hn:next (a.put o.dst v) w'):o.wp X.P a w next Q:=by
 unfold Oper.wp;rw [h];exact hn
theorem wp_of_skip {w':World} {next:Act→World→Prop} (h:(execOp a.eval o).run X.P w= .ok .skip w') (hn:next (a.put o.dst undef) w'):o.wp X.P a w next Q:=by
 unfold Oper.wp;rw [h];exact hn
theorem calls_body {P:Program} {f:FuncId} {args:Array Value} {w:World} {R:Ending→World→Prop} (h:Calls P f args w R) (hR:∀e w',R e w'→∃v,e= .returned v):
 ∃fn c,P.funcs[f]?=some fn∧fn.body=some c:=by
 obtain⟨e,w',fr,hr,hcomes,_,hleave⟩:=h [];obtain⟨v,rfl⟩:=hR e w' hr;have hmode:fr.mode= .returning:=hleave.1;obtain⟨n,hn⟩:=hcomes
 have hno:∀why,(∀fn,P.funcs[f]?=some fn→fn.body=none)→Frame.enter P f args .normal= { fn:=f,tmps:=(Frame.enter P f args .normal).tmps,todo:= [.code (.refuse why)],defers:= [],mode:= .run,kind:= .normal}→False:=by
  intro why _ heq;cases n with
  |zero=>
   simp only [runN]at hn
   have:(Frame.enter P f args .normal)=fr:=by
    have:=congrArg (fun(s:Stepped)=>match s with| .next m=>(m.gs[0]?).map Goroutine.frame|_=>none) hn
    simpa [lone]using this
   rw [←this,heq]at hmode;cases hmode
  |succ n=>
   simp only [runN]at hn;rw [heq]at hn
   have hs:step P (lone { fn:=f,tmps:=(Frame.enter P f args .normal).tmps,todo:= [.code (.refuse why)],defers:= [],mode:= .run,kind:= .normal} [] w)= .ended _ _:=
    step_lone_ended (by simp [stepG,stepG.exec];exact⟨rfl,rfl⟩)
   rw [hs]at hn;cases hn
 cases hf:P.funcs[f]? with
 |none=>
  exfalso;exact hno _ (fun fn h=>by rw [hf]at h;cases h) (by simp [Frame.enter,hf];rfl)
 |some fn=>
  cases hb:fn.body with
  |none=>exact(hno _ (fun fn' h=>by rw [hf]at h;cases h;exact hb) (by simp [Frame.enter,hf,hb];rfl)).elim
  |some c=>exact⟨fn,c,rfl,hb⟩
theorem KB.swap {H1 H2:Hp} {k:Nat} {e e0:Ent} {w:World} (h:bsE e=bsE e0):KB (H1++(k,e0)::H2) w (H1++(k,e)::H2):=by
 intro j e' hm b hb;rcases mem_swap (e0:=e0) hm with⟨rfl,rfl⟩|⟨hm,_⟩
 · exact .inr ⟨e0,by simp,h▸hb⟩
 · exact .inr ⟨e',hm,hb⟩
theorem Fx_self_of_grown {ch:List Nat} {w w':World} {own:Option Nat} (hg:w.grownBy w' own) (ho:∀b,own=some b→b∈ch):Fx ch w w':=
 ⟨hg.os,hg.tape,hg.output,hg.size,fun i hi hn=>hg.block i hi fun e=>by
  cases own with
  |none=>cases e
  |some b=>cases e;exact hn i (ho i rfl) rfl⟩
theorem fin_ok (hT:TTok X.P X.tt) {seq:Bool} {out:Out} (hK:fin X seq st o.dst K out) (hout:OutOK X st a o out) (hr:Rel X st a w):o.wp X.P a w (Leaves X st.H (chB st.H out) w K) Q:=by
 cases out with
 |val s=>
  obtain⟨R,_,hrun⟩:=hout.2 w hr.cls;exact wp_of_value (hrun w fun _ _=>rfl) (Leaves.put hr hK (.inr rfl) (Fx.refl _ _) (KB.refl _ _))
 |new cs ty sl=>
  obtain⟨T,H,nk,ws,lo,iv⟩:=st;simp only [fin]at hK;split at hK
  · rename_i h1 h2 h3
    have hrel:Rel X ⟨T,(nk, .blk w.heap.size cs ty)::H,nk+1,ws,lo,iv⟩ a (w.alloc (.cells (denL H cs).toArray ty)):=by
     refine hr.cons h1 h2 (by simp) (fun i hi=>heap_alloc_old w _ hi) rfl rfl rfl ⟨denL H cs, ?_,heap_alloc_new w _⟩ (by simp [bsE]) (by simp [bsE]);have:=cellsR_den (H:=(nk, .blk w.heap.size cs ty)::H) cs;rwa [denL_new h3]at this
    have hfxn:Fx [] w (w.alloc (.cells (denL H cs).toArray ty)):=⟨rfl,rfl,rfl,by simp,fun i hi _=>heap_alloc_old w _ hi⟩;rcases hK with hK|⟨n,sz,⟨rfl,hcl,hnm,hone⟩,hK⟩
    · have hput:=hK w.heap.size hr.lo (ivOK_of hr.iv (Nat.le_refl _));refine wp_of_value (hout w hr.cls) (Leaves.put hrel hput ?_ hfxn ?_)
      · right;cases sl<;>simp [den,bOf,rowVal,findE,capOf,undef]
      · intro k e hm b hb;rcases List.mem_cons.1 hm with h|h
        · cases h;simp only [bsE,List.mem_singleton]at hb;exact .inl (Nat.le_of_eq hb.symm)
        · exact .inr ⟨e,h,hb⟩
    · have hput:=hK w.heap.size hr.lo (ivOK_of hr.iv (Nat.le_refl _));have hB:0≤w.heap.size:=Nat.zero_le _
      have hown:(w.alloc (.cells (denL H cs).toArray ty)).ownsRow 0 ty sz (.slice (some ⟨w.heap.size,0,none⟩) n n) n (denL H cs):=by
       refine⟨by rw [denL_length,hcl], .inr ⟨w.heap.size,n,_,rfl,hB,heap_alloc_new w _,Nat.le_refl _,hnm,by simp [denL_length,hcl], ?_⟩⟩;show List.take (n*sz) (denL H cs)=denL H cs;rw [←hcl,←denL_length H cs,List.take_length]
      have hrel2:Rel X ⟨T,(nk, .row (.slice (some ⟨w.heap.size,0,none⟩) n n) n (denL H cs) sz ty)::H,nk+1,ws,lo,iv⟩ a (w.alloc (.cells (denL H cs).toArray ty)):=
       hr.cons h1 h2 (by simp) (fun i hi=>heap_alloc_old w _ hi) rfl rfl rfl hown (by simp [bsE,ownB]) (by simp [bsE,ownB])
      refine wp_of_value (hout w hr.cls) (Leaves.put hrel2 hput ?_ hfxn ?_)
      · right;simp [den,rowVal,findE]
      · intro k e hm b hb;rcases List.mem_cons.1 hm with h|h
        · cases h;simp only [bsE,ownB,List.mem_singleton]at hb;exact .inl (Nat.le_of_eq hb.symm)
        · exact .inr ⟨e,h,hb⟩
  · exact hK.elim
 |call f args=>
  simp only [fin]at hK;obtain⟨ι,r,φ,hc,hk⟩:=hK.ex;have hcall:=hc w hr.cls;have hbody:=calls_body hcall fun e w' ⟨i,he,_⟩=>⟨_,he⟩
  unfold Oper.wp;rw [hout w hbody];simp only [Oper.upon];refine hcall.mono fun e w' ⟨i,he,hb,hp⟩=> ?_
  subst he;simp only;have hlt:ltAll st.H w.heap.size:=fun b hb=>hr.cls.lt_size hb
  have hK2:=hk i w.heap.size w' hr.cls.fx.size hb.size hlt (hr.cls.fx.of_below hb) hp;have hown:∀b,b∈bs st.H→w'.heap[b]?=w.heap[b]?:=fun b hbm=>hb.block b (hr.cls.lt_size hbm)
  have hcls:Cls X st.H st.nk w' w':=⟨Fx.refl _ _,hr.cls.fx0.of_below hb,fun k e he=>entAt_keep (hr.cls.own k e he) fun b hbe=>hown b (bs_mem.2 ⟨k,e,he,hbe⟩),hr.cls.nd,hr.cls.lb,hr.cls.keys,hr.cls.lt⟩;obtain⟨T,H,nk,ws,lo,iv⟩:=st;cases seq with
  |true=>
   have hrel:Rel X ⟨T,H,nk,w',w'.heap.size, []⟩ a w':=⟨hr.size,hr.T,hr.dfs,hcls,Nat.le_refl _,by simp⟩;exact Leaves.put hrel hK2 (.inr rfl) ((Fx.refl _ _).of_below hb) (KB.refl _ _)
  |false=>
   have hrel:Rel X ⟨T,H,nk,w',lo,(w.heap.size,w'.heap.size)::iv⟩ a w':=⟨hr.size,hr.T,hr.dfs,hcls,Nat.le_trans hr.lo hb.size,fun p hp=>by
    rcases List.mem_cons.1 hp with rfl|hp
    · exact⟨hb.size,Nat.le_refl _⟩
    · exact⟨(hr.iv p hp).1,Nat.le_trans (hr.iv p hp).2 hb.size⟩⟩
   exact Leaves.put hrel hK2 (.inr rfl) ((Fx.refl _ _).of_below hb) (KB.refl _ _)
 |upd k cs'=>
  obtain⟨b,cs,ty,hf,hall⟩:=hout;obtain⟨T,H,nk,ws,lo,iv⟩:=st;simp only [fin,hf]at hK;obtain⟨H1,e0,H2,rfl,hk1,hput⟩:=setE_ok hK
  have he0:e0= .blk b cs ty:=by
   have:=findE_split (H2:=H2) (e:=e0) hk1;simp only at hf;rw [hf]at this;exact(Option.some.inj this).symm
  subst he0;obtain⟨xs,hx,hh⟩:=hr.cls.blk hf;obtain⟨xs',hx',hrun⟩:=hall w hr.cls xs hx hh
  have hd:∀j,bOf (H1++(k, .blk b cs' ty)::H2) j=bOf (H1++(k, .blk b cs ty)::H2) j∧rowVal (H1++(k, .blk b cs' ty)::H2) j=rowVal (H1++(k, .blk b cs ty)::H2) j:=by
   intro j;simp only [bOf,rowVal,findE_append (e:= .blk b cs' ty) (e0:= .blk b cs ty) hk1];by_cases hj:j=k
   · subst hj;simp [findE_split hk1]
   · simp [hj]
  have hrel:Rel X ⟨T,H1++(k, .blk b cs' ty)::H2,nk,ws,lo,iv⟩ a (w.setRow b xs'.toArray):=by
   refine hr.swap rfl hd (by simp) (fun i hi=>setRow_other _ _ _ _ (by simpa [bsE]using hi)) rfl rfl rfl ⟨xs',cellsR_mono hx' fun s _ _=>den_same hd s,setRow_heap _ _ _ _ _ _ hh⟩
  refine wp_of_skip hrun (Leaves.put hrel hput (.inr rfl) ⟨rfl,rfl,rfl,by simp,fun i _ hn=>setRow_other _ _ _ _ fun e=>hn b (by simp only at hf;simp [chB,keyOf,hf,bsE]) e.symm⟩ (KB.swap rfl))
 |updR k xs'=>
  obtain⟨v,n,xs,sz,ty,hf,hall⟩:=hout;obtain⟨T,H,nk,ws,lo,iv⟩:=st;simp only [fin,hf]at hK;obtain⟨H1,e0,H2,rfl,hk1,hput⟩:=setE_ok hK
  have he0:e0= .row v n xs sz ty:=by
   have:=findE_split (H2:=H2) (e:=e0) hk1;simp only at hf;rw [hf]at this;exact(Option.some.inj this).symm
  subst he0;obtain⟨w1,hrun,hown,hg,hsz⟩:=hall w hr.cls
  have hd:∀j,bOf (H1++(k, .row v n xs' sz ty)::H2) j=bOf (H1++(k, .row v n xs sz ty)::H2) j∧rowVal (H1++(k, .row v n xs' sz ty)::H2) j=rowVal (H1++(k, .row v n xs sz ty)::H2) j:=by
   intro j;simp only [bOf,rowVal,findE_append (e:= .row v n xs' sz ty) (e0:= .row v n xs sz ty) hk1];by_cases hj:j=k
   · subst hj;simp [findE_split hk1]
   · simp [hj]
  have hnb:∀i,i∉ownB v→some i≠v.ownBlock:=by
   intro i hi e;apply hi;cases v<;>simp [Value.ownBlock]at e;rename_i x _ _;cases x<;>simp at e;subst e;simp [ownB]
  have hrel:Rel X ⟨T,H1++(k, .row v n xs' sz ty)::H2,nk,ws,lo,iv⟩ a w1:=by
   refine hr.swap rfl hd hsz (fun i hi=> ?_) hg.os hg.tape hg.output hown;by_cases hlt:i<w.heap.size
   · exact hg.block i hlt (hnb i hi)
   · rw [Array.getElem?_eq_none (by omega),Array.getElem?_eq_none (by omega)]
  refine wp_of_skip hrun (Leaves.put hrel hput (.inr rfl) (Fx_self_of_grown hg fun b hb=> ?_) ?_)
  · simp only at hf;simp only [chB,keyOf,hf,bsE];cases v<;>simp [Value.ownBlock]at hb;rename_i x _ _;cases x<;>simp at hb;subst hb;simp [ownB]
  · exact KB.swap rfl
 |app e esz bytes s x=>
  obtain⟨hsb,hxb,t,i,hi,hd,⟨ie,hie,hiz⟩,hrun⟩:=hout;simp only [fin]at hK;obtain⟨k,n,m,v,xs,news,⟨h1,hn,hby,hml⟩,hcase⟩:=hK.ex;obtain⟨hl,hone,hy⟩:=news_ok hn hr.cls;have hB:0≤w.heap.size:=Nat.zero_le _;have hti:=hT t i hi;have htie:=hT e ie hie;have goOn:∀(v':Value) (w1:World) (ch:List Nat),chB st.H (.app e esz bytes s x)=ch→(execOp a.eval o).run X.P w= .ok (.value v') w1→Leaves X st.H ch w K (a.put o.dst v') w1→o.wp X.P a w (Leaves X st.H (chB st.H (.app e esz bytes s x)) w K) Q:=fun v' w1 ch hch h1 h2=>by rw [hch];exact wp_of_value h1 h2
  have fxOf:∀(w1:World) (own:Option Nat),w.grownBy w1 own→(∀b,own=some b→b∈bs st.H)→Fx (bs st.H) st.w w1:=by
   intro w1 own hg ho;have h2:=Fx_self_of_grown hg ho;exact Fx.trans hr.cls.fx h2 (fun i hi=>hi) fun i hi=> .inl hi
  --a new row
  have newRow:∀(v0 v':Value) (w1:World),ownB v0= []→w.grownBy w1 none→w1.ownsRow 0 e esz v' m news→(∀b,b∈ownB v'→w.heap.size≤b)→
   reW seq st w1 (fun T H nk w lo iv=>freshT nk T=true∧freshH nk H=true∧put X ⟨T,(nk, .row v' m news esz e)::H,nk+1,w,lo,iv⟩ o.dst (.row nk) K)→Leaves X st.H [] w K (a.put o.dst v') w1:=by
   intro _ v' w1 _ hg ho hnew hre;have hownB:(ownB v').Nodup:=by cases v'<;>simp [ownB]<;>(rename_i a _ _;cases a<;>simp)
   obtain⟨T,H,nk,ws,lo,iv⟩:=st
   have hkey:∀lo' iv',lo'≤w.heap.size∨lo'=w1.heap.size→(∀p,p∈iv'→p.1≤p.2∧p.2≤w.heap.size)→freshT nk T=true→freshH nk H=true→
    Rel X ⟨T,(nk, .row v' m news esz e)::H,nk+1,w1,lo',iv'⟩ a w1:=by
    intro lo' iv' hlo hiv f1 f2;have hrel0:Rel X ⟨T,H,nk,ws,w.heap.size,iv'⟩ a w:=⟨hr.size,hr.T,hr.dfs,hr.cls,Nat.le_refl _,hiv⟩;have hrel:=hrel0.cons (w':=w1) (e:= .row v' m news esz e) f1 f2 hg.size (fun i hi=>hg.block i hi (by simp)) hg.os hg.tape hg.output ho hnew hownB;exact⟨hrel.size,hrel.T,hrel.dfs,⟨Fx.refl _ _,hrel.cls.fx0,hrel.cls.own,hrel.cls.nd,hrel.cls.lb,hrel.cls.keys,hrel.cls.lt⟩,by rcases hlo with h|h;exact Nat.le_trans h hg.size;exact Nat.le_of_eq h,fun p hp=>hrel.iv p hp⟩
   have hbs:KB H w ((nk,Ent.row v' m news esz e)::H):=by
    intro k e' hm b hb;rcases List.mem_cons.1 hm with h|h
    · cases h;exact .inl (hnew b hb)
    · exact .inr ⟨e',h,hb⟩
   have hden:v'=den ((nk,Ent.row v' m news esz e)::H) (.row nk):=by simp [den,rowVal,findE]
   have hfx:Fx [] w w1:=Fx_self_of_grown hg (by simp);cases seq with
   |true=>
    obtain⟨f1,f2,hput⟩:=hre;exact Leaves.put (hkey _ _ (.inr rfl) (by simp) f1 f2) hput (.inr hden) hfx hbs
   |false=>
    obtain⟨f1,f2,hput⟩:=hre;exact Leaves.put (hkey _ _ (.inl hr.lo) hr.iv f1 f2) hput (.inr hden) hfx hbs
  --an entry grown
  have grow:∀(e0:Ent) (v':Value) (w1:World) (own:Option Nat),findE st.H k=some e0→w.grownBy w1 own→(∀b,own=some b↔b∈bsE e0)→w1.ownsRow 0 e esz v' (n+m) (xs++news)→
   (∀b,b∈ownB v'→b∈bsE e0∨w.heap.size≤b)→(∀b,b∈bsE e0→b∈X.bor∨X.w0.heap.size≤b)→
   reW seq st w1 (fun T H nk w lo iv=>setE (hideH k H) k (.row v' (n+m) (xs++news) esz e) fun H'=>hideK k T fun T'=>put X ⟨T',H',nk,w,lo,iv⟩ o.dst (.row k) K)→Leaves X st.H (bsE e0) w K (a.put o.dst v') w1:=by
   intro e0 v' w1 own hf hg ho hrow hb hbor hre;obtain⟨T,H,nk,ws,lo,iv⟩:=st
   have hkey:∀lo' iv',lo'≤w.heap.size∨lo'=w1.heap.size→(∀p,p∈iv'→p.1≤p.2∧p.2≤w.heap.size)→
    setE (hideH k H) k (.row v' (n+m) (xs++news) esz e) (fun H'=>hideK k T fun T'=>put X ⟨T',H',nk,w1,lo',iv'⟩ o.dst (.row k) K)→Leaves X H (bsE e0) w K (a.put o.dst v') w1:=by
    intro lo' iv' hlo hiv hset;obtain⟨G1,g0,G2,hG,hG1,hput⟩:=setE_ok hset;rw [hideK_eq]at hput
    --the entry stands in H at the same place
    have:∃H1 H2,H=H1++(k,e0)::H2∧(∀e',(k,e')∉H1)∧hideH k H1=G1∧hideH k H2=G2:=by
     clear hput hset hre hrow hr hrun hcase hn hK goOn newRow fxOf hy;simp only at hf
     induction H generalizing G1 with
     |nil=>simp [findE]at hf
     |cons q H ih=>
      obtain⟨j,ej⟩:=q;simp only [hideH]at hG;simp only [findE]at hf;cases G1 with
      |nil=>
       simp only [List.nil_append,List.cons.injEq,Prod.mk.injEq]at hG;obtain⟨⟨rfl,_⟩,hG2⟩:=hG;simp at hf;subst hf;exact⟨[],H,rfl,by simp,rfl,hG2⟩
      |cons g G1=>
       simp only [List.cons_append,List.cons.injEq]at hG;obtain⟨hg1,hG⟩:=hG;subst hg1;have hjk:j≠k:=fun e=>hG1 _ (by rw [e];exact List.mem_cons_self)
       rw [beqN hjk]at hf;obtain⟨H1,H2,rfl,h1,h2,h3⟩:=ih hf G1 hG (fun e' hm=>hG1 e' (List.mem_cons_of_mem _ hm));refine⟨(j,ej)::H1,H2,rfl,fun e' hm=> ?_,by simp [hideH,h2],h3⟩;rcases List.mem_cons.1 hm with hm|hm
       · cases hm;exact hjk rfl
       · exact h1 e' hm
    obtain⟨H1,H2,rfl,hk1,rfl,rfl⟩:=this;have hgb:∀i,i<w.heap.size→i∉bsE e0→w1.heap[i]?=w.heap[i]?:=fun i hi hne=>hg.block i hi fun e=>hne ((ho i).1 e.symm)
    obtain⟨hcls,hden⟩:=hr.cls.grow (v':=v') (n:=n+m) (sz:=esz) (ty:=e) (xs:=xs++news) rfl hk1 hrow hgb hg.size hg.os hg.tape hg.output hb hbor
    have hrel:Rel X ⟨hideT k T,hideH k H1++(k, .row v' (n+m) (xs++news) esz e)::hideH k H2,nk,w1,lo',iv'⟩ a w1:=by
     refine⟨hr.size,fun d s hlk=> ?_,hr.dfs,hcls,by rcases hlo with h|h;exact Nat.le_trans h hg.size;exact Nat.le_of_eq h,fun p hp=>⟨(hiv p hp).1,Nat.le_trans (hiv p hp).2 hg.size⟩⟩
     rcases look_hide hlk with h|⟨h,hm⟩
     · exact .inl h
     · rcases hr.T d s h with h|h
       · exact .inl h
       · right;rw [h];simp only;rw [hden s hm]
    refine Leaves.put hrel hput (.inr ?_) (Fx_self_of_grown hg fun b hb=>(ho b).1 hb) ?_
    · have:findE (hideH k H1++(k, .row v' (n+m) (xs++news) esz e)::hideH k H2) k=some (.row v' (n+m) (xs++news) esz e):=
       findE_split fun e' hm=>by obtain⟨e1,h1,_⟩:=hideH_mem hm;exact hk1 e1 h1
      simp [den,rowVal,this]
    · intro j e' hm c hc;rcases List.mem_append.1 hm with hm|hm
      · obtain⟨e1,h1,rfl⟩:=hideH_mem hm;rw [bsE_hide]at hc;exact .inr ⟨e1,by simp [h1],hc⟩
      · rcases List.mem_cons.1 hm with hm|hm
        · cases hm;rcases hb c hc with h|h
          · exact .inr ⟨e0,by simp,h⟩
          · exact .inl h
        · obtain⟨e1,h1,rfl⟩:=hideH_mem hm;rw [bsE_hide]at hc;exact .inr ⟨e1,by simp [h1],hc⟩
   cases seq with
   |true=>exact hkey _ _ (.inr rfl) (by simp) hre
   |false=>exact hkey _ _ (.inl hr.lo) hr.iv hre
  rcases hcase with⟨rfl,rfl,hk⟩|⟨rfl,hf,hk⟩|⟨rfl,⟨u,N,ys,hf,hN0,hnN,rfl⟩,hk⟩|⟨⟨ad,rfl⟩,rfl,hk0,hk1⟩
  · obtain⟨v',w1,hr1,ho,hg,hnil,hob⟩:=app_run (ty:=o.type) hti hd htie hiz h1 (World.ownsRow_nil w 0 e esz) hB hl hone hy hby hml;simp only [Nat.zero_add,List.nil_append]at ho;refine goOn v' w1 [] rfl (by rw [hrun w];simp only [den];rw [hr1];rfl) (newRow (.slice none 0 0) v' w1 rfl hg ho (fun b hb=>by rcases hob b hb with h|h;simp [ownB]at h;exact h) (hk v' w1 (by simpa using hnil) (fun b hb=> .inr (by rcases hob b hb with h|h;simp [ownB]at h;exact Nat.le_trans hr.cls.fx.size h)) (fxOf w1 none hg (by simp))))
  · have hown:=hr.cls.row hf;obtain⟨v',w1,hr1,ho,hg,hnil,hob⟩:=app_run (ty:=o.type) hti hd htie hiz h1 hown hB hl hone hy hby hml;have hdv:den st.H (.row k)=v:=by simp [den,rowVal,hf]
    have hobk:∀b,v.ownBlock=some b↔b∈bsE (.row v n xs esz e):=by
     intro b;constructor
     · intro h;cases v<;>simp [Value.ownBlock]at h;rename_i x _ _;cases x<;>simp at h;subst h;simp [bsE,ownB]
     · intro h;exact ownB_block h
    refine goOn v' w1 _ (by simp only [chB,keyOf,hf]) (by rw [hrun w,hdv,hr1];rfl) (grow _ v' w1 _ hf hg hobk ho hob (fun b hb=> ?_) (hk v' w1 hnil (fun b hb=>by rcases hob b hb with h|h;exact .inl (bs_mem.2 ⟨k,_,findE_mem hf,by simpa [bsE]using h⟩);exact .inr (Nat.le_trans hr.cls.fx.size h)) (fxOf w1 _ hg fun b hb=>bs_mem.2 ⟨k,_,findE_mem hf,(hobk b).1 hb⟩)))
    exact hr.cls.lb b (bs_mem.2 ⟨k,_,findE_mem hf,hb⟩)
  · have hown0:=hr.cls.row hf;have hbk0:=fun c hc=>hr.cls.lb c (bs_mem.2 ⟨k,_,findE_mem hf,hc⟩)
    rcases hown0.2 with⟨_,h0⟩|⟨g,c,cur,rfl,hg0,hgg,hnc,hcm,hcs,htake⟩
    · omega
    have hxl:=hown0.1;have hle:n*esz≤N*esz:=Nat.mul_le_mul_right _ hnN
    have hown:w.ownsRow 0 e esz (.slice (some ⟨g,0,none⟩) n c) n (ys.take (n*esz)):=by
     refine⟨by rw [List.length_take,hxl,Nat.min_eq_left hle], .inr ⟨g,c,cur,rfl,hg0,hgg,by omega,hcm,hcs, ?_⟩⟩;rw [←htake,List.take_take,Nat.min_eq_left hle]
    obtain⟨v',w1,hr1,ho,hg,hnil,hob⟩:=app_run (ty:=o.type) hti hd htie hiz h1 hown hB hl hone hy hby hml;have hdv:den st.H (.osl k 0 n 0)= .slice (some ⟨g,0,none⟩) n c:=by simp [den,bOf,rowVal,hf,blkOf,capOf]
    refine goOn v' w1 _ (by simp only [chB,keyOf,hf]) (by rw [hrun w,hdv,hr1];rfl) (grow _ v' w1 _ hf hg (by simp [Value.ownBlock,bsE,ownB,eq_comm]) ho (by simpa [ownB,bsE]using hob) hbk0 (hk v' w1 (fun e=>by have:=hnil.1 e;simp at this) (fun c hc=>by rcases hob c hc with h|h;exact .inl (bs_mem.2 ⟨k,_,findE_mem hf,by simpa [ownB,bsE]using h⟩);exact .inr (Nat.le_trans hr.cls.fx.size h)) (fxOf w1 _ hg fun c hc=>bs_mem.2 ⟨k,_,findE_mem hf,by simpa [Value.ownBlock,ownB,bsE,eq_comm]using hc⟩)))
  · by_cases hm0:m=0
    · subst hm0;have hnews:news= []:=List.eq_nil_of_length_eq_zero (by simpa using hl)
      subst hnews
      have hrn:(Builtin.append_ #[t,t] o.type #[.slice (some ad) 0 0,den st.H x]).run X.P w= .ok (.slice (some ad) 0 0) w:=by
       obtain⟨hu,inf,hinf,hsz,hbt⟩:=hti.slice hd;rcases hy with⟨ad2,c,he,_⟩|⟨he,_,_⟩
       · rw [he];simp [Builtin.append_,run_underlying hu,sizeOf,typeInfo,hinf,Builtin.lenOf,Builtin.firstCells,loadCells,loadCellsFrom,storeCells]
       · rw [he];simp [Builtin.append_,run_underlying hu,sizeOf,typeInfo,hinf,Builtin.lenOf,Builtin.firstCells,storeCells]
      refine goOn _ w [] rfl (by rw [hrun w];simp only [den];rw [hrn];rfl) (Leaves.put hr (hk0 rfl) (.inr rfl) (Fx.refl _ _) (KB.refl _ _))
    · obtain⟨hu,inf,hinf,hsz,hbt⟩:=hti.slice hd;obtain⟨inf',z,hinf',hsz',hz,hzc⟩:=htie.info;obtain rfl:inf=inf':=by rw [hinf]at hinf';exact Option.some.inj hinf'
      rcases hy with⟨ad2,c,he,hcells⟩|⟨_,h0,_⟩
      · subst hsz;subst hbt;simp only [Nat.zero_add]at hby hml;have hm':m≤9223372036854775807:=by simpa [maxLen]using hml
        have hzs:z.cells.size=inf.size:=by rw [←Array.length_toList,hzc,htie.zn,hiz]
        have hr1:=run_append_grow (P:=X.P) w t o.type e inf z hu hinf hz ad 0 0 [] (by simp) (by simp) ad2 m c news hl hcells (by omega) (by omega) (growslice_fits (by omega) (by simpa using hby))
        simp only [Nat.zero_add]at hr1;generalize hcap:grownCap w m 0 e=cap at hr1;have hge:m≤cap:=by rw [←hcap];exact grownCap_ge w m 0 e
        have hcm:cap≤maxLen:=by rw [←hcap];exact grownCap_le_maxLen w m 0 e hml
        have hgrow:w.grownBy (w.drew.alloc (.cells (#[]++news.toArray++Builtin.zeroCells z.cells (cap-m)) e)) none:=⟨rfl,rfl,rfl,by simp,fun i hi _=>heap_alloc_old w.drew _ hi⟩
        refine goOn _ (w.drew.alloc (.cells (#[]++news.toArray++Builtin.zeroCells z.cells (cap-m)) e)) [] rfl (by rw [hrun w];simp only [den];rw [he,hr1];rfl) (newRow (.slice none 0 0) _ (w.drew.alloc (.cells (#[]++news.toArray++Builtin.zeroCells z.cells (cap-m)) e)) rfl hgrow ⟨hl, .inr ⟨_,cap,_,rfl,hB,heap_alloc_new w.drew _,hge,hcm, ?_, ?_⟩⟩ (fun b hb=>by simp [ownB]at hb;omega)
         (hk1 hm0 _ _ (by simp) (fun b hb=> .inr (by simp [ownB]at hb;have:=hr.cls.fx.size;omega)) (fxOf _ none hgrow (by simp))))
        · simp only [Array.size_append,List.size_toArray,List.length_nil,size_zeroCells,hzs,hl,Nat.zero_add,←Nat.add_mul];congr 1;omega
        · simp only [Array.toList_append,List.nil_append];rw [←hl];exact List.take_left
      · exact absurd h0 hm0
end
structure POK (P:Program) (tt:List (Nat×TI)):Prop where
 tt:TTok P tt
 ng:∀(g:Nat) (fn:Func),P.funcs[g]?=some fn→(fn.name== "runtime.NumGoroutine")=false
 mix:P.follows .mixedOrders=true
structure Lv (X:Cx) (H:Hp) (w:World) (st':St) (a':Act) (w':World):Prop where
 rel:Rel X st' a' w'
 fx:Fx (bs H) w w'
 bs:∀b,b∈Sx.bs st'.H→b∈Sx.bs H∨w.heap.size≤b
theorem Lv.refl {X:Cx} {st:St} {a:Act} {w:World} (h:Rel X st a w):Lv X st.H w st a w:=⟨h,Fx.refl _ _,fun _ h=> .inl h⟩
theorem Lv.trans {X:Cx} {H:Hp} {w w1 w2:World} {st1 st2:St} {a1 a2:Act} (h:Lv X H w st1 a1 w1) (k:Lv X st1.H w1 st2 a2 w2):Lv X H w st2 a2 w2:=
 ⟨k.rel,Fx.trans h.fx k.fx (fun _ h=>h) fun i hi=>h.bs i hi,fun b hb=>by
  rcases k.bs b hb with h1|h1
  · exact h.bs b h1
  · exact .inr (Nat.le_trans h.fx.size h1)⟩
section
variable {X : Cx} {st : St} {a : Act} {w : World} {Q : Exit → Act → World → Prop}
theorem dstOf_eq (l:List Oper) (j:Nat):dstOf l j=(l[j]?).bind (·.dst):=by
 induction l generalizing j with
 |nil=>simp [dstOf]
 |cons o l ih=>cases j with
  |zero=>simp [dstOf]
  |succ j=>simp [dstOf,ih]
def dead (T:List (Nat×SV)) (d:Nat):Prop:=∀s,look T d=some s→s= .bad
structure Sm (st st':St):Prop where
 H:st'.H=st.H
 nk:st'.nk=st.nk
 w:st'.w=st.w
 lo:st'.lo=st.lo
 iv:st'.iv=st.iv
theorem Sm.refl (st:St):Sm st st:=⟨rfl,rfl,rfl,rfl,rfl⟩
theorem dead_cons {T:List (Nat×SV)} {d e:Nat} {s:SV} (h:dead T d) (hne:e≠d):dead ((e,s)::T) d:=by
 intro s' hs;simp only [look,beqN hne]at hs;exact h s' hs
theorem dead_ne {T:List (Nat×SV)} {d e:Nat} {s:SV} (h:dead T d) (hl:look T e=some s) (hs:s≠ .bad):e≠d:=by
 intro he;subst he;exact hs (h s hl)
theorem guard_ok {ops:Array Oper} {o:Oper} {yes no:St→Prop} (h:guardVC ops.toList o.guard st yes no) (hr:Rel X st a w):
 ∃st',Sm st st'∧(∀d,dead st.T d→dead st'.T d)∧Rel X st' a w∧((Region.wanted o (yielded ops a.tmps)=true∧yes st')∨(Region.wanted o (yielded ops a.tmps)=false∧no st')):=by
 unfold guardVC at h;split at h
 · rename_i hg;exact⟨st,Sm.refl st,fun _ h=>h,hr, .inl ⟨by simp [Region.wanted,hg],h⟩⟩
 · rename_i j want hg;split at h
   · rename_i d hd;rw [dstOf_eq]at hd;simp only [Array.getElem?_toList]at hd;split at h
     · rename_i b hl
       have hy:a.tmps[d]?=some (.bool b):=by
        obtain⟨hlt,hl⟩:=lookR_some hl;rcases hr.T d _ hl with e|e
        · cases e
        · rw [slotv,if_pos hlt]at e;simpa [den]using e
       have hyd:yielded ops a.tmps j=some b:=by simp [yielded,hd,hy]
       obtain⟨T,H,nk,ws,lo,iv⟩:=st
       have hrel:∀b':Bool,b=b'→Rel X ⟨(d, .v (.bool b'))::T,H,nk,ws,lo,iv⟩ a w:=by
        intro b' hb;refine⟨hr.size,fun d' s hs=> ?_,hr.dfs,hr.cls,hr.lo,hr.iv⟩;simp only [look]at hs;split at hs
        · rename_i hbq;cases hs;rw [←beqT hbq,←hb];exact .inr (by rw [slotv,if_pos (lookR_some hl).1];simpa [den]using hy)
        · exact hr.T d' s hs
       have hw:Region.wanted o (yielded ops a.tmps)=(b==want):=by
        simp only [Region.wanted,hg,hyd];cases b<;>cases want<;>rfl
       cases b<;>cases want<;>simp only [VIf]at h
       · exact⟨⟨(d, .v (.bool false))::T,H,nk,ws,lo,iv⟩,⟨rfl,rfl,rfl,rfl,rfl⟩,fun e he=>dead_cons he (dead_ne he (lookR_some hl).2 (by simp)),hrel false rfl, .inl ⟨by rw [hw];rfl,h⟩⟩
       · exact⟨⟨(d, .v (.bool false))::T,H,nk,ws,lo,iv⟩,⟨rfl,rfl,rfl,rfl,rfl⟩,fun e he=>dead_cons he (dead_ne he (lookR_some hl).2 (by simp)),hrel false rfl, .inr ⟨by rw [hw];rfl,h⟩⟩
       · exact⟨⟨(d, .v (.bool true))::T,H,nk,ws,lo,iv⟩,⟨rfl,rfl,rfl,rfl,rfl⟩,fun e he=>dead_cons he (dead_ne he (lookR_some hl).2 (by simp)),hrel true rfl, .inr ⟨by rw [hw];rfl,h⟩⟩
       · exact⟨⟨(d, .v (.bool true))::T,H,nk,ws,lo,iv⟩,⟨rfl,rfl,rfl,rfl,rfl⟩,fun e he=>dead_cons he (dead_ne he (lookR_some hl).2 (by simp)),hrel true rfl, .inl ⟨by rw [hw];rfl,h⟩⟩
     · rename_i arr hl
       have hy:a.tmps[d]?=some (.tuple arr):=by
        obtain⟨hlt,hl⟩:=lookR_some hl;rcases hr.T d _ hl with e|e
        · cases e
        · rw [slotv,if_pos hlt]at e;simpa [den]using e
       have hyd:yielded ops a.tmps j=none:=by simp [yielded,hd,hy]
       exact⟨st,Sm.refl st,fun _ h=>h,hr, .inr ⟨by simp [Region.wanted,hg,hyd],h⟩⟩
     · exact h.elim
   · exact h.elim
theorem subT_look {H H':Hp} {T T':List (Nat×SV)} (h:subT H H' T T') {d:Nat} {s:SV} (hl:look T' d=some s):∃s',look T d=some s'∧s'≠ .bad∧den H s'=den H' s:=by
 induction T' with
 |nil=>simp [look]at hl
 |cons x T' ih=>
  obtain⟨d',s1⟩:=x;simp only [subT]at h;simp only [look]at hl;split at hl
  · rename_i hb;cases hl;obtain rfl:=beqT hb;have h1:=h.1;split at h1
    · exact h1.elim
    · rename_i s' hbad hs';exact⟨s',hs',fun e=>hbad e,h1⟩
    · exact h1.elim
  · exact ih h.2 hl
theorem subE_bs {H H':Hp} {e e':Ent} (h:subE H H' e e'):bsE e'=bsE e:=by
 cases e<;>cases e'<;>simp only [subE]at h
 · rw [h.1];rfl
 · rw [h.1];rfl
 · rw [h.1];rfl
theorem cellsR_eq {H:Hp} {l:List SV} {xs:List Value} (h:cellsR H l xs) (hnb: .bad∉l):xs=denL H l:=by
 induction l generalizing xs with
 |nil=>cases xs with
  |nil=>rfl
  |cons x xs=>simp [cellsR]at h
 |cons s l ih=>cases xs with
  |nil=>simp [cellsR]at h
  |cons x xs=>
   simp only [cellsR]at h;simp only [List.mem_cons,not_or]at hnb;rcases h.1 with e|e
   · exact absurd e.symm hnb.1
   · rw [e,ih h.2 hnb.2];rfl
theorem bs_nodup_mem {H:Hp} (hn:(bs H).Nodup) {k:Nat} {e:Ent} (hm:(k,e)∈H):(bsE e).Nodup:=by
 induction H with
 |nil=>cases hm
 |cons y H ih2=>
  obtain⟨k,e2⟩:=y;simp only [bs,List.nodup_append]at hn;rcases List.mem_cons.1 hm with hm|hm
  · cases hm;exact hn.1
  · exact ih2 hn.2.1 hm
theorem subB_cells {H H':Hp}:∀ {l l':List SV} {xs:List Value},subB H H' l l'→cellsR H l xs→cellsR H' l' xs
 | [], [], [],_,_=>trivial
 | [], [],_::_,_,h=>by simp [cellsR]at h
 |s::l,s'::l', [],_,h=>by simp [cellsR]at h
 |s::l,s'::l',x::xs,hs,h=>by
  simp only [subB]at hs;simp only [cellsR]at h⊢;refine⟨?_,subB_cells hs.2 h.2⟩;rcases hs.1 with e|⟨e1,e2⟩
  · exact .inl e
  · rcases h.1 with q|q
    · exact absurd q e1
    · exact .inr (q.trans e2)
 | [],_::_,_,hs,_=>by simp [subB]at hs
 |_::_, [],_,hs,_=>by simp [subB]at hs
theorem subE_at {B:Nat} {H H':Hp} {e e':Ent} {w:World} (hrow:RowsOK H) (h:subE H H' e e') (ha:entAt B H w e):entAt B H' w e':=by
 cases e<;>cases e'<;>simp only [subE]at h
 · obtain⟨rfl,hd,rfl⟩:=h;obtain⟨xs,h1,h2⟩:=ha;exact⟨xs,subB_cells hd h1,h2⟩
 · obtain⟨rfl,rfl,rfl,rfl,rfl⟩:=h;exact ha
 · obtain⟨rfl,rfl,rfl⟩:=h;exact ha
theorem subH_mem {H H':Hp} {src:List (Option Nat)} {R:Hp} (h:subH H H' src R) {k:Nat} {e':Ent} (hm:(k,e')∈R):
 (∃j e,some j∈src∧findE H j=some e∧subE H H' e e')∨(∃v n xs sz ty,e'= .row v n xs sz ty∧v= .slice none 0 0∧n=0∧xs= []):=by
 induction R generalizing src with
 |nil=>cases hm
 |cons x R ih=>
  obtain⟨k1,e1⟩:=x
  match src,h with
  |some j::src,hq=>
   simp only [subH]at hq;obtain⟨h1,hq2⟩:=hq;rcases List.mem_cons.1 hm with hm|hm
   · obtain⟨rfl,rfl⟩:=Prod.mk.injEq .. ▸hm;split at h1
     · rename_i e he;exact .inl ⟨j,e,by simp,he,h1⟩
     · exact h1.elim
   · rcases ih hq2 hm with⟨j',e,h1,h2,h3⟩|h1
     · exact .inl ⟨j',e,by simp [h1],h2,h3⟩
     · exact .inr h1
  |none::src,hq=>
   cases e1 with
   |blk b cs ty=>simp [subH]at hq
   |mp b es ty=>simp [subH]at hq
   |row v n xs sz ty=>
    simp only [subH]at hq;obtain⟨h1,hq2⟩:=hq;rcases List.mem_cons.1 hm with hm|hm
    · obtain⟨rfl,rfl⟩:=Prod.mk.injEq .. ▸hm;exact .inr ⟨v,n,xs,sz,ty,rfl,h1⟩
    · rcases ih hq2 hm with⟨j',e,h1,h2,h3⟩|h1
      · exact .inl ⟨j',e,by simp [h1],h2,h3⟩
      · exact .inr h1
  | [],h=>simp [subH]at h
theorem subH_nd {H H':Hp} (hn:(bs H).Nodup) (hk:(H.map (·.1)).Nodup) {src:List (Option Nat)} {R:Hp} (h:subH H H' src R) (hs:(src.filterMap id).Nodup):
 (bs R).Nodup∧∀b,b∈bs R→∃j e,some j∈src∧findE H j=some e∧b∈bsE e:=by
 induction R generalizing src with
 |nil=>simp [bs]
 |cons x R ih=>
  obtain⟨k1,e1⟩:=x
  match src,h with
  |some j::src,h=>
   simp only [subH]at h;have h1:=h.1;split at h1
   · rename_i e he;simp only [List.filterMap_cons,id]at hs;rw [List.nodup_cons]at hs;obtain⟨g1,g2⟩:=ih h.2 hs.2;have heb:=subE_bs h1;have hbe:(bsE e).Nodup:=bs_nodup_mem hn (findE_mem he);refine⟨?_,fun b hb=> ?_⟩
     · simp only [bs,heb,List.nodup_append];refine⟨hbe,g1,fun b hb b' hb' heq=> ?_⟩;subst heq;obtain⟨j',e',h2,h3,h4⟩:=g2 b hb';by_cases hjj:j=j'
       · subst hjj;exact hs.1 (List.mem_filterMap.2 ⟨_,h2,rfl⟩)
       · exact bs_apart hn hk (findE_mem he) (findE_mem h3) hjj hb h4
     · simp only [bs,heb,List.mem_append]at hb;rcases hb with hb|hb
       · exact⟨j,e,by simp,he,hb⟩
       · obtain⟨j',e',h2,h3,h4⟩:=g2 b hb;exact⟨j',e',by simp [h2],h3,h4⟩
   · exact h1.elim
  |none::src,h=>
   cases e1 with
   |blk b cs ty=>simp [subH]at h
   |mp b es ty=>simp [subH]at h
   |row v n xs sz ty=>
    simp only [subH]at h;obtain⟨⟨rfl,rfl,rfl⟩,h2⟩:=h;have hs':(src.filterMap id).Nodup:=by simpa using hs
    obtain⟨g1,g2⟩:=ih h2 hs';refine⟨by simpa [bs,bsE,ownB]using g1,fun b hb=> ?_⟩
    simp only [bs,bsE,ownB,List.nil_append]at hb;obtain⟨j',e',h2,h3,h4⟩:=g2 b hb;exact⟨j',e',by simp [h2],h3,h4⟩
  | [],h=>simp [subH]at h
theorem Sub.rel {st':St} (h:Sub st st') (hr:Rel X st a w) (hat:At st' w):Rel X st' a w∧∀b,b∈bs st'.H→b∈bs st.H:=by
 obtain⟨src,hT,hH,hs,hk,hlt⟩:=h;obtain⟨e1,e2,e3⟩:=hat;obtain⟨g1,g2⟩:=subH_nd hr.cls.nd hr.cls.keys hH hs
 have hbs:∀b,b∈bs st'.H→b∈bs st.H:=fun b hb=>by
  obtain⟨j,e,_,h2,h3⟩:=g2 b hb;exact bs_mem.2 ⟨j,e,findE_mem h2,h3⟩
 have hrow:=rowsOK_of hr.cls;refine⟨⟨hr.size,fun d s hl=> ?_,hr.dfs,⟨by rw [e1];exact Fx.refl _ _,hr.cls.fx0,fun k e he=> ?_,g1,fun b hb=>hr.cls.lb b (hbs b hb),hk,fun k e he=>hlt k (List.mem_map.2 ⟨_,he,rfl⟩)⟩,by rw [e2];exact Nat.le_refl _,by rw [e3];simp⟩,hbs⟩
 · obtain⟨s',h1,h2,h3⟩:=subT_look hT hl;rcases hr.T d s' h1 with h|h
   · exact absurd h h2
   · right;rw [h,h3]
 · rcases subH_mem hH he with⟨j,e0,_,h2,h3⟩|⟨v,n,xs,sz,ty,rfl,rfl,rfl,rfl⟩
   · exact subE_at hrow h3 (hr.cls.own j e0 (findE_mem h2))
   · exact World.ownsRow_nil _ _ _ _
end
def memN (x:Nat):List Nat→Bool
 | []=>false
 |y::l=>match Nat.beq y x with|true=>true|false=>memN x l
def subN:List Nat→List Nat→Bool
 | [],_=>true
 |x::l,r=>match memN x r with|true=>subN l r|false=>false
def deps (o:Oper):List Nat:=(o.after.toList.filter (Region.binds .any ·)).map (·.on)
def isAlloc (o:Oper):Bool:=match o.guard with
 |none=>(match o.op with
  | .alloc _=>true
  | .buildSlice _ n ps=>(match Nat.beq n 0 with|true=>ps.isEmpty|false=>false)
  |_=>false)
 |some _=>false
def isVal (o:Oper):Bool:=match o.op with
 | .move _=>true| .assign _=>true| .pick .. =>true| .load .. =>true| .nilCheck _=>true| .fieldAddr .. =>true| .field .. =>true
 | .indexAddr .. =>true| .index .. =>true| .binOp .. =>true| .unOp .. =>true| .extract .. =>true| .makeFunc .. =>true| .build .. =>true| .slice .. =>true| .convert .. =>true| .lookup .. =>true
 | .call c=>(match c.callee with| .builtin .len=>true| .builtin .max=>true| .builtin .min=>true|_=>false)
 |_=>false
def isCall (o:Oper):Bool:=match o.op with
 | .call c=>(match c.callee with| .value _=>true|_=>false)
 |_=>false
def nosel (o:Oper):Bool:=match o.op with| .select .. =>false|_=>true
def freeB (ops:Array Oper) (oi:Oper) (i:Nat) (L:List Nat):Bool:=
 (List.range ops.size).all fun j=>memN j L||(Nat.beq j i||(match ops[j]? with|some oj=>memN i (deps oj)||oi.apart ops oj|none=>true))
def allocsR (ops:Array Oper) (L:List Nat):List Nat:=
 (List.range ops.size).filter fun j=> !(memN j L)&&(match ops[j]? with|some oj=>isAlloc oj&&subN (deps oj) L|none=>false)
def onlyB (ops:Array Oper) (al:List Nat) (i:Nat) (L:List Nat):Bool:=
 (List.range ops.size).all fun j=>memN j L||(memN j al||Nat.beq j i||(memN j (allocsR ops L)||(match ops[j]? with|some oj=> !(subN (deps oj) (allocsR ops L++L))|none=>true)))
def ancs (ops:Array Oper):Nat→List Nat→List Nat
 |0,l=>l
 |n+1,l=>ancs ops n (l++l.flatMap fun j=>match ops[j]? with|some o=>deps o|none=> [])
def isLoadOp:Op→Bool
 | .load _ _=>true
 | .lookup _ _ _ _=>true
 |_=>false
def loadsB (ops:Array Oper) (o:Oper) (L S:List Nat):Bool:=
 L.all fun j=>(match ops[j]? with|some oj=> !(isLoadOp oj.op)|none=>true)||(memN j S||memN j (ancs ops 4 (deps o)))
def turnB (ops:Array Oper) (i:Nat) (L:List Nat):Bool:=
 (List.range ops.size).all fun j=>memN j L||(Nat.beq j i||(memN j (allocsR ops L)||(match ops[j]? with
  |some oj=> !(subN (deps oj) ((allocsR ops L).filter (!Nat.beq · i)++L))
  |none=>true)))
def allocsIn (ops:Array Oper) (L:List Nat):Bool:=(List.range ops.size).all fun j=>memN j L||(match ops[j]? with|some oj=> !(isAlloc oj)|none=>true)
def serB (ops:Array Oper) (al:List Nat) (oi:Oper) (i:Nat) (S:List Nat) (fl:Bool) (L:List Nat):Bool:=
 onlyB ops al i L&&(match isCall oi with
  |true=>(match fl with|true=>loadsB ops oi L S|false=>true)
  |false=>loadsB ops oi L S)
def forkB (ops:Array Oper) (oi:Oper) (i j:Nat) (S:List Nat) (fl:Bool) (L:List Nat):Bool:=
 !(memN i L)&&(subN (deps oi) L&&(!(isVal oi)&&(!(isAlloc oi)&&(!oi.guard.isSome&&serB ops [j] oi i S fl L))))
def planB (ops:Array Oper):List Nat→PT→Bool
 |L, .nil=>(List.range ops.size).all fun j=>memN j L
 |L, .op i S fl r=>match ops[i]? with
  |some oi=> !(memN i L)&&(subN (deps oi) L&&((match isVal oi||oi.guard.isSome with|true=>freeB ops oi i L|false=>true)&&
   ((match isVal oi with
    |true=>fl||(!(isLoadOp oi.op)||allocsIn ops L)
    |false=>match isAlloc oi with|true=>turnB ops i L|false=>serB ops [] oi i S fl L)&&planB ops (i::L) r)))
  |none=>false
 |L, .fork (.op i S fl r) (.op j S' fl' r')=>match ops[i]?,ops[j]? with
  |some oi,some oj=>match isAlloc oj with
   |false=>forkB ops oi i j S fl L&&(forkB ops oj j i S' fl' L&&(planB ops (i::L) r&&planB ops (j::L) r'))
   |true=>match r' with
    | .op k S2 fl2 r2=>(match ops[k]? with
     |some ok=>forkB ops oi i k S fl L&&(!(memN j L)&&(subN (deps oj) L&&(memN j (deps ok)&&(forkB ops ok k i S2 fl2 (j::L)&&(planB ops (i::L) r&&planB ops (k::j::L) r2)))))
     |none=>false)
    |_=>false
  |_,_=>false
 |_,_=>false
def allocB (tt:List (Nat×TI)) (nt:Nat) (ops:Array Oper):Bool:=
 (List.range ops.size).all fun i=>match ops[i]? with
  |some oi=>match isAlloc oi with
   |true=>(match oi.op with
    | .alloc t=>(match getT tt t with|some _=>true|none=>false)
    | .buildSlice t _ _=>(match getT tt t with
     |some ⟨_,_,_,_, .slice e esz _⟩=>(match getT tt e with|some i=>Nat.beq i.n esz|none=>false)
     |_=>false)
    |_=>false)&&match oi.dst with
    |some d=>Nat.blt d nt&&(List.range ops.size).all fun j=>Nat.beq j i||(match ops[j]? with
     |some oj=>(match oj.dst with|some d'=> !(Nat.beq d d')|none=>true)
     |none=>true)
    |none=>false
   |false=>true
  |none=>true
def planOK (tt:List (Nat×TI)) (nt:Nat) (ops:Array Oper) (pl:PT):Bool:=planB ops [] pl&&(allocB tt nt ops&&ops.toList.all nosel)
def killA:List Oper→List (Nat×SV)→List (Nat×SV)
 | [],T=>T
 |o::l,T=>match isAlloc o,o.dst with
  |true,some d=>(d, .bad)::killA l T
  |_,_=>killA l T
def getTag:List (Nat×Option Nat)→Nat→Option (Option Nat)
 | [],_=>none
 |(i,t)::r,j=>match Nat.beq i j with|true=>some t|false=>getTag r j
def sepB (pr:List (Nat×Option Nat)):List Nat→Nat→Bool
 | [],_=>true
 |j::S,k=>match getTag pr j with
  |some (some k')=>match Nat.beq k' k with|true=>false|false=>sepB pr S k
  |_=>sepB pr S k
def rdP (X:Cx) (fl:Bool) (i:Nat) (op:Op) (st:St) (pr:List (Nat×Option Nat)) (K:List (Nat×Option Nat)→Prop):Prop:=
 match op with
 | .load _ p=>match ev st p with
  |some s=>match tagOf s with
   |some k=>K ((i,some k)::pr)
   |none=>match fl with
    |false=>K ((i,none)::pr)
    |true=>match s with
     | .v (.pointer (some ⟨b,_,_⟩))=>(b<X.w0.heap.size∨b<st.lo∨∃p,p∈st.iv∧p.1≤b∧b<p.2)∧K ((i,none)::pr)
     |_=>False
  |none=>False
 | .lookup _ m _ _=>match ev st m with
  |some (.row k)=>K ((i,some k)::pr)
  |_=>False
 |_=>K pr
def finP (X:Cx) (i:Nat) (S:List Nat) (fl:Bool) (pr:List (Nat×Option Nat)) (o:Oper) (st:St) (K:St→List (Nat×Option Nat)→Prop) (out:Out):Prop:=
 match isVal o with
 |true=>(match out with| .val s=>rdP X fl i o.op st pr fun pr=>put X st o.dst s fun st=>K st pr|_=>False)
 |false=>match isAlloc o with
  |true=>(match out with| .new _ _ _=>fin X false st o.dst (fun st=>K st pr) out|_=>False)
  |false=>match isCall o with
   |true=>(match out with| .call _ _=>fin X false st o.dst (fun st=>K st pr) out|_=>False)
   |false=>(match out with
    | .call _ _=>False
    |out=>match keyOf out with
     |some k=>match sepB pr S k with|true=>fin X false st o.dst (fun st=>K st pr) out|false=>False
     |none=>fin X false st o.dst (fun st=>K st pr) out)
def nthO:List Oper→Nat→Option Oper
 | [],_=>none
 |o::_,0=>some o
 |_::l,n+1=>nthO l n
def kpS:List Nat→Bool
 | []=>false
 |_=>true
def SemOp (X:Cx) (o:Oper) (kp:Bool) (st:St) (K:St→Prop):Prop:=∀(E:List Nat) (a:Act) (w:World),Rel X st a w→(∀b,b∈E→b∉bs st.H∧st.lo≤b∧ivOK st.iv b∧b<w.heap.size)→
 o.wp X.P a w (fun a' w'=>∃v,a'=a.put o.dst v∧∃st',K st'∧Lv X st.H w st' a' w'∧(∀b,b∈E→st'.lo≤b∧ivOK st'.iv b)∧(kp=true→(∀i,i<w.heap.size→w'.heap[i]?=w.heap[i]?)∧KB st.H w st'.H)) (fun _ _ _=>False)
def idxP:PT→List Nat
 | .nil=> []
 | .op i _ _ r=>i::idxP r
 | .fork a b=>idxP a++idxP b
def killG {α:Type} (bad:α) (ops:List Oper):List Nat→List (Nat×α)→List (Nat×α)
 | [],T=>T
 |i::r,T=>match nthO ops i with
  |some o=>match isAlloc o,o.dst with
   |true,some d=>(d,bad)::killG bad ops r T
   |_,_=>killG bad ops r T
  |none=>killG bad ops r T
def stepX (X:Cx) (ops:List Oper) (rest:PT) (i:Nat) (S:List Nat) (fl:Bool) (pr:List (Nat×Option Nat)) (o:Oper) (st:St) (K:St→List (Nat×Option Nat)→Prop):Prop:=
 match isCall o,fl with
 |true,true=>SemOp X o (kpS S) st fun st=>match st with|⟨T,H,nk,w,lo,iv⟩=>K ⟨killG .bad ops (idxP rest) T,H,nk,w,lo,iv⟩ pr
 |_,_=>ev1 X st o.op (finP X i S fl pr o st K)
def xplan (X:Cx) (ops:List Oper):PT→St→List (Nat×Option Nat)→(St→Prop)→Prop
 | .nil,st,_,K=>K st
 | .op i S fl rest,st,pr,K=>match nthO ops i with
  |some o=>guardVC ops o.guard st
   (fun st=>stepX X ops rest i S fl pr o st fun st pr=>xplan X ops rest st pr K)
   (fun st=>put X st o.dst (.v undef) fun st=>xplan X ops rest st pr K)
  |none=>False
 | .fork a b,st,pr,K=>xplan X ops a st pr K∧xplan X ops b st pr K
theorem memN_iff {x:Nat} {l:List Nat}:memN x l=true↔x∈l:=by
 induction l with
 |nil=>simp [memN]
 |cons y l ih=>
  simp only [memN];split
  · rename_i h;simp [beqT h]
  · rename_i h;rw [ih];have:=beqF h;simp only [List.mem_cons];exact⟨.inr,fun h=>h.resolve_left fun e=>this e.symm⟩
theorem subN_iff {l r:List Nat}:subN l r=true↔∀x,x∈l→x∈r:=by
 induction l with
 |nil=>simp [subN]
 |cons x l ih=>
  simp only [subN];split
  · rename_i h;rw [ih];simp [memN_iff.1 h]
  · rename_i h;constructor
    · intro h;cases h
    · intro hall;have:memN x r=true:=memN_iff.2 (hall x List.mem_cons_self);rw [this]at h;cases h
section
variable {ops : Array Oper}
def dstA (ops:Array Oper) (j:Nat):Option Nat:=(ops[j]?).bind (·.dst)
def putAll (ops:Array Oper):List (Nat×Value)→Act→Act
 | [],a=>a
 |(j,v)::r,a=>(putAll ops r a).put (dstA ops j) v
def TagOK (H:Hp) (b:Nat):Option Nat→Prop
 |some k=>∀k' e,(k',e)∈H→k'≠k→b∉bsE e
 |none=>b∉bs H
def Rok (H:Hp) (w:World) (pr:List (Nat×Option Nat)) (E:List Nat) (j:Nat) (op:Op) (R:List Nat):Prop:=
 R= []∨∃b tag,R= [b]∧isLoadOp op=true∧getTag pr j=some tag∧b<w.heap.size∧TagOK H b tag∧b∉E
def Yl (P:Program) (H:Hp) (w:World) (pr:List (Nat×Option Nat)) (E:List Nat) (ops:Array Oper) (j:Nat) (o:Oper) (v:Value) (a:Act):Prop:=
 (Region.wanted o (yielded ops a.tmps)=true∧∃R,Rok H w pr E j o.op R∧∀wc,(∀b,b∈R→wc.heap[b]?=w.heap[b]?)→(execOp a.eval o).run P wc= .ok (.value v) wc)∨(Region.wanted o (yielded ops a.tmps)=false∧v=undef)
theorem Yl.congr {P:Program} {H:Hp} {w:World} {pr:List (Nat×Option Nat)} {E:List Nat} {j:Nat} {o:Oper} {v:Value} {a a':Act} (h:Yl P H w pr E ops j o v a) (he:execOp a'.eval o=execOp a.eval o)
 (hw:Region.wanted o (yielded ops a'.tmps)=Region.wanted o (yielded ops a.tmps)):Yl P H w pr E ops j o v a':=by unfold Yl at*;rw [he,hw];exact h
def PendOK (P:Program) (H:Hp) (w:World) (pr:List (Nat×Option Nat)) (E:List Nat) (ops:Array Oper):List (Nat×Value)→Act→Prop
 | [],_=>True
 |(j,v)::r,a=>(∃oj,ops[j]?=some oj∧Yl P H w pr E ops j oj v (putAll ops r a)∧∀q,q∈r→∀oq,ops[q.1]?=some oq→q.1∈deps oj∨oq.apart ops oj=true)∧PendOK P H w pr E ops r a
theorem PendOK.move {P:Program} {H H':Hp} {w w':World} {pr pr':List (Nat×Option Nat)} {E E':List Nat}:∀ {pend:List (Nat×Value)} {a:Act},PendOK P H w pr E ops pend a→
 (∀j,j∈pend.map (·.1)→∀oj,ops[j]?=some oj→∀R,Rok H w pr E j oj.op R→Rok H' w' pr' E' j oj.op R∧∀b,b∈R→w'.heap[b]?=w.heap[b]?)→PendOK P H' w' pr' E' ops pend a
 | [],_,_,_=>trivial
 |(j,v)::r,a,⟨⟨oj,h1,h2,h3⟩,hr⟩,hm=>by
  refine⟨⟨oj,h1, ?_,h3⟩,PendOK.move hr fun k hk=>hm k (List.mem_cons_of_mem _ hk)⟩;rcases h2 with⟨hw,R,hR,hrun⟩|h2
  · obtain⟨g1,g2⟩:=hm j (by simp) oj h1 R hR;exact .inl ⟨hw,R,g1,fun wc hc=>hrun wc fun b hb=>by rw [hc b hb,g2 b hb]⟩
  · exact .inr h2
theorem noselP {ops:Array Oper} (h:ops.toList.all nosel=true) {j:Nat} {o:Oper} (hj:ops[j]?=some o):∀cs b,o.op≠ .select cs b:=by
 have hm:o∈ops.toList:=by
  have:=List.mem_of_getElem? (l:=ops.toList) (i:=j) (a:=o) (by simpa using hj)
  exact this
 have:=List.all_eq_true.1 h o hm;intro cs b e;simp [nosel,e]at this
theorem pend_put (hn:ops.toList.all nosel=true) {P:Program} {H:Hp} {w:World} {pr:List (Nat×Option Nat)} {E:List Nat} {o:Oper} {v:Value}:∀ {r:List (Nat×Value)} {a:Act},PendOK P H w pr E ops r a→
 (∀q,q∈r→∀oq,ops[q.1]?=some oq→oq.apart ops o=true)→PendOK P H w pr E ops r (a.put o.dst v)∧putAll ops r (a.put o.dst v)=(putAll ops r a).put o.dst v
 | [],a,_,_=>⟨trivial,rfl⟩
 |(k,u)::r,a,h,hap=>by
  obtain⟨⟨ok,hk,hy,hpw⟩,hr⟩:=h;obtain⟨ih1,ih2⟩:=pend_put hn hr fun q hq=>hap q (List.mem_cons_of_mem _ hq)
  obtain⟨a1,a2,a3⟩:=Oper.apart_spec (hap (k,u) List.mem_cons_self ok hk);refine⟨⟨⟨ok,hk, ?_,hpw⟩,ih1⟩, ?_⟩
  · rw [ih2];exact hy.congr (execOp_put ok (noselP hn hk) _ _ _ a3) (wanted_put ok _ _ _ a3)
  · simp only [putAll,ih2];have hd:dstA ops k=ok.dst:=by simp [dstA,hk]
    rw [hd];exact Act.put_comm _ v u fun d e1 e2=>a2 d e2 e1
theorem pend_look (hn:ops.toList.all nosel=true) {o:Oper} {j:Nat} (hj:ops[j]?=some o):∀ {r:List (Nat×Value)} {a:Act} {P:Program} {H:Hp} {w:World} {pr:List (Nat×Option Nat)} {E:List Nat},PendOK P H w pr E ops r a→
 (∀q,q∈r→∀oq,ops[q.1]?=some oq→oq.apart ops o=true)→execOp (putAll ops r a).eval o=execOp a.eval o∧Region.wanted o (yielded ops (putAll ops r a).tmps)=Region.wanted o (yielded ops a.tmps)
 | [],a,_,_,_,_,_,_,_=>⟨rfl,rfl⟩
 |(k,u)::r,a,P,H,w,pr,E,h,hap=>by
  obtain⟨⟨ok,hk,hy,hpw⟩,hr⟩:=h;obtain⟨ih1,ih2⟩:=pend_look hn hj hr fun q hq=>hap q (List.mem_cons_of_mem _ hq)
  obtain⟨a1,a2,a3⟩:=Oper.apart_spec (hap (k,u) List.mem_cons_self ok hk);have hd:dstA ops k=ok.dst:=by simp [dstA,hk]
  simp only [putAll,hd];exact⟨by rw [execOp_put o (noselP hn hj) _ _ _ a1,ih1],by rw [wanted_put o _ _ _ a1,ih2]⟩
theorem pend_exec (hn:ops.toList.all nosel=true) {P:Program} {H:Hp} {w:World} {pr:List (Nat×Option Nat)} {E:List Nat} {j:Nat} {oj:Oper} (hj:ops[j]?=some oj) {v:Value}:∀ {pend:List (Nat×Value)} {a:Act},PendOK P H w pr E ops pend a→
 (j,v)∈pend→(pend.map (·.1)).Nodup→(∀q,q∈pend.map (·.1)→q∉deps oj)→
 Yl P H w pr E ops j oj v a∧PendOK P H w pr E ops (pend.filter fun p=> !Nat.beq p.1 j) (a.put oj.dst v)∧putAll ops (pend.filter fun p=> !Nat.beq p.1 j) (a.put oj.dst v)=putAll ops pend a
 | [],_,_,hm,_,_=>by cases hm
 |(k,u)::r,a,h,hm,hnd,hnw=>by
  obtain⟨⟨ok,hk,hy,hpw⟩,hr⟩:=h;simp only [List.map_cons,List.nodup_cons]at hnd;by_cases hkj:k=j
  · subst hkj;rw [hj]at hk;obtain rfl:=Option.some.inj hk
    have hv:u=v:=by
     rcases List.mem_cons.1 hm with h1|h1
     · cases h1;rfl
     · exact absurd (List.mem_map.2 ⟨_,h1,rfl⟩) hnd.1
    subst hv
    have hap:∀q,q∈r→∀oq,ops[q.1]?=some oq→oq.apart ops oj=true:=fun q hq oq hoq=>
     (hpw q hq oq hoq).resolve_left (hnw q.1 (by simp;exact .inr ⟨q.2,hq⟩))
    have hf:((k,u)::r).filter (fun p=> !Nat.beq p.1 k)=r:=by
     rw [List.filter_cons];have h0:(!Nat.beq k k)=false:=by simp
     simp only [h0,Bool.false_eq_true,if_false];apply List.filter_eq_self.2;intro p hp;have:p.1≠k:=fun e=>hnd.1 (List.mem_map.2 ⟨p,hp,e⟩)
     simp [beqN this]
    rw [hf];obtain⟨g1,g2⟩:=pend_put hn (v:=u) hr hap;obtain⟨l1,l2⟩:=pend_look hn hj hr hap;refine⟨hy.congr l1.symm l2.symm,g1, ?_⟩;rw [g2];simp [putAll,dstA,hj]
  · have hm':(j,v)∈r:=by
     rcases List.mem_cons.1 hm with h1|h1
     · cases h1;exact absurd rfl hkj
     · exact h1
    obtain⟨ih1,ih2,ih3⟩:=pend_exec hn hj hr hm' hnd.2 fun q hq=>hnw q (by simp at hq⊢;exact .inr hq)
    have hf:((k,u)::r).filter (fun p=> !Nat.beq p.1 j)=(k,u)::r.filter (fun p=> !Nat.beq p.1 j):=by
     rw [List.filter_cons];simp [beqN hkj]
    rw [hf];refine⟨ih1,⟨⟨ok,hk,by rw [ih3];exact hy,fun q hq=>hpw q (List.mem_filter.1 hq).1⟩,ih2⟩,by simp only [putAll,ih3]⟩
end
section
variable {ops : Array Oper}
def Ls (listed:Array Bool) (j:Nat):Prop:=listed.getD j false=true
theorem Ls.lt {listed:Array Bool} {j:Nat} (h:Ls listed j):j<listed.size:=by
 rcases Nat.lt_or_ge j listed.size with h1|h1
 · exact h1
 · simp [Ls,Array.getElem?_eq_none h1]at h
theorem Ls_set {listed:Array Bool} {j k:Nat} (hj:j<listed.size):Ls (listed.setIfInBounds j true) k↔k=j∨Ls listed k:=by
 unfold Ls;by_cases h:k=j
 · subst h;simp [hj]
 · rw [getD_set_ne false (Ne.symm h)];simp [h]
theorem Ls_false {listed:Array Bool} {j:Nat} (hj:j<listed.size):listed.getD j true=false↔¬Ls listed j:=by
 unfold Ls;simp [hj]
def cnt (ops:Array Oper) (listed:Array Bool):Nat:=(List.range ops.size).countP fun j=> !(listed.getD j true)
theorem countP_lt {p q:Nat→Bool} {l:List Nat} {j:Nat} (hj:j∈l) (hp:p j=true) (hq:q j=false) (hle:∀x,q x=true→p x=true):l.countP q+1≤l.countP p:=by
 induction l with
 |nil=>cases hj
 |cons x l ih=>
  have hm:l.countP q≤l.countP p:=List.countP_mono_left fun x _ h=>hle x h
  by_cases hx:x=j
  · subst hx;rw [List.countP_cons_of_neg (by simp [hq]),List.countP_cons_of_pos hp];omega
  · have:=ih ((List.mem_cons.1 hj).resolve_left (Ne.symm hx));rw [List.countP_cons,List.countP_cons];by_cases hqx:q x=true
    · simp [hqx,hle x hqx];omega
    · simp [hqx];omega
theorem cnt_set {listed:Array Bool} {j:Nat} (hs:listed.size=ops.size) (hj:j<ops.size) (h:¬Ls listed j):cnt ops (listed.setIfInBounds j true)+1≤cnt ops listed:=by
 refine countP_lt (j:=j) (by simpa using hj) ?_ ?_ fun x hx=> ?_
 · have:=(Ls_false (by omega)).2 h;simp only [this,Bool.not_false]
 · simp [hs,hj]
 · by_cases he:x=j
   · subst he;have:=(Ls_false (listed:=listed) (by omega)).2 h;simp only [this,Bool.not_false]
   · rw [getD_set_ne true (Ne.symm he)]at hx;exact hx
theorem ready_iff {listed:Array Bool} {j:Nat} (hs:listed.size=ops.size):j∈Region.ready .any ops listed↔j<ops.size∧¬Ls listed j∧∃o,ops[j]?=some o∧∀d,d∈deps o→Ls listed d:=by
 rw [mem_ready];constructor
 · rintro⟨h1,o,h2,h3⟩;have hlt:=(Array.getElem?_eq_some_iff.1 h2).1;refine⟨hlt,(Ls_false (by omega)).1 h1,o,h2,fun d hd=> ?_⟩;simp only [deps,List.mem_map,List.mem_filter]at hd;obtain⟨e,⟨he,hb⟩,rfl⟩:=hd;exact h3 e (by simpa using he) hb
 · rintro⟨h0,h1,o,h2,h3⟩;refine⟨(Ls_false (by omega)).2 h1,o,h2,fun e he hb=>h3 e.on ?_⟩;simp only [deps,List.mem_map,List.mem_filter];exact⟨e,⟨by simpa using he,hb⟩,rfl⟩
structure Pl (ops:Array Oper) (L pk ek:List Nat) (listed:Array Bool):Prop where
 sz:listed.size=ops.size
 Llt:∀j,j∈L→j<ops.size
 list:∀j,Ls listed j↔(j∈L∧j∉pk)∨j∈ek
 eL:∀i,i∈ek→i∉L
 eA:∀i,i∈ek→∃oi,ops[i]?=some oi∧isAlloc oi=true∧∀d,d∈deps oi→d∈L
 pL:∀j,j∈pk→j∈L
 down:∀j o,Ls listed j→ops[j]?=some o→∀d,d∈deps o→Ls listed d
 pnd:pk.Nodup
 pord:pk.Pairwise fun x y=>∀o,ops[y]?=some o→x∉deps o
 pself:∀p o,p∈pk→ops[p]?=some o→p∉deps o
 Ld:∀j o,j∈L→ops[j]?=some o→∀d,d∈deps o→d∈L
 pfree:∀p,p∈pk→∀op,ops[p]?=some op→∀j oj,ops[j]?=some oj→j∉L→p∈deps oj∨op.apart ops oj=true
section
variable {L pk ek : List Nat} {listed : Array Bool} {i j : Nat} {oi oj : Oper}
theorem opsLt (h:ops[j]?=some oj):j<ops.size:=(Array.getElem?_eq_some_iff.1 h).1
theorem mem_but {l:List Nat} {j:Nat} (p:Nat):p∈l.filter (fun p=> !Nat.beq p j)↔p∈l∧p≠j:=by
 rw [List.mem_filter];constructor
 · rintro⟨h1,h2⟩;exact⟨h1,fun e=>by subst e;simp at h2⟩
 · rintro⟨h1,h2⟩;exact⟨h1,by simp [beqN h2]⟩
theorem Pl.drain (h:Pl ops L pk ek listed) (hj:ops[j]?=some oj) (hp:j∈pk) (hd:∀d,d∈deps oj→Ls listed d):Pl ops L (pk.filter fun p=> !Nat.beq p j) ek (listed.setIfInBounds j true):=by
 have hlt:j<listed.size:=by rw [h.sz];exact opsLt hj
 have hmem:∀p,p∈pk.filter (fun p=> !Nat.beq p j)↔p∈pk∧p≠j:=mem_but
 refine⟨by simp [h.sz],h.Llt,fun k=> ?_,h.eL,h.eA,fun k hk=>h.pL k ((hmem k).1 hk).1,fun k o hk ho d hdk=> ?_,h.pnd.sublist List.filter_sublist,h.pord.sublist List.filter_sublist,
  fun p o hp ho=>h.pself p o ((hmem p).1 hp).1 ho,h.Ld,fun p hp=>h.pfree p ((hmem p).1 hp).1⟩
 · rw [Ls_set hlt,h.list,hmem];constructor
   · rintro(rfl|⟨h1,h2⟩|h1)
     · exact .inl ⟨h.pL _ hp,by simp⟩
     · exact .inl ⟨h1,fun h3=>h2 h3.1⟩
     · exact .inr h1
   · rintro(⟨h1,h2⟩|h1)
     · by_cases hk:k=j
       · exact .inl hk
       · exact .inr (.inl ⟨h1,fun h3=>h2 ⟨h3,hk⟩⟩)
     · exact .inr (.inr h1)
 · rw [Ls_set hlt]at hk⊢;rcases hk with rfl|hk
   · rw [hj]at ho;cases ho;exact .inr (hd d hdk)
   · exact .inr (h.down k o hk ho d hdk)
theorem Pl.early (h:Pl ops L pk ek listed) (hj:ops[j]?=some oj) (hL:j∉L) (ha:isAlloc oj=true) (hd:∀d,d∈deps oj→Ls listed d) (hdL:∀d,d∈deps oj→d∈L):
 Pl ops L pk (j::ek) (listed.setIfInBounds j true):=by
 have hlt:j<listed.size:=by rw [h.sz];exact opsLt hj
 refine⟨by simp [h.sz],h.Llt,fun k=> ?_,fun k hk=> ?_,fun k hk=> ?_,h.pL,fun k o hk ho d hdk=> ?_,h.pnd,h.pord,h.pself,h.Ld,h.pfree⟩
 · rw [Ls_set hlt,h.list];simp only [List.mem_cons];constructor
   · rintro(h1|h1|h1)
     · exact .inr (.inl h1)
     · exact .inl h1
     · exact .inr (.inr h1)
   · rintro(h1|h1|h1)
     · exact .inr (.inl h1)
     · exact .inl h1
     · exact .inr (.inr h1)
 · rcases List.mem_cons.1 hk with rfl|hk
   · exact hL
   · exact h.eL k hk
 · rcases List.mem_cons.1 hk with rfl|hk
   · exact⟨oj,hj,ha,hdL⟩
   · exact h.eA k hk
 · rw [Ls_set hlt]at hk⊢;rcases hk with rfl|hk
   · rw [hj]at ho;cases ho;exact .inr (hd d hdk)
   · exact .inr (h.down k o hk ho d hdk)
theorem freeB_spec (h:freeB ops oi i L=true):∀j oj,ops[j]?=some oj→j∉i::L→i∈deps oj∨oi.apart ops oj=true:=by
 intro j oj hj hn;simp only [List.mem_cons,not_or]at hn;have:=List.all_eq_true.1 h j (by simpa using opsLt hj)
 simp only [hj,Bool.or_eq_true,memN_iff]at this;rcases this with h1|h1|h1|h1
 · exact absurd h1 hn.2
 · exact absurd (beqT h1) hn.1
 · exact .inl h1
 · exact .inr h1
theorem Pl.virt (h:Pl ops L pk ek listed) (hi:ops[i]?=some oi) (hL:i∉L) (he:i∉ek) (hd:∀d,d∈deps oi→d∈L) (hf:freeB ops oi i L=true):Pl ops (i::L) (i::pk) ek listed:=by
 refine⟨h.sz,fun j hj=> ?_,fun k=> ?_,fun k hk hm=> ?_,fun k hk=> ?_,fun k hk=> ?_,h.down,List.nodup_cons.2 ⟨fun hm=>hL (h.pL i hm),h.pnd⟩, ?_,fun p o hp ho=> ?_,fun k o hk ho d hdk=> ?_,fun p hp op hop j oj hj hn=> ?_⟩
 · rcases List.mem_cons.1 hj with rfl|hj
   · exact opsLt hi
   · exact h.Llt j hj
 · rw [h.list];simp only [List.mem_cons,not_or];constructor
   · rintro(⟨h1,h2⟩|h1)
     · exact .inl ⟨.inr h1,fun e=>hL (e▸h1),h2⟩
     · exact .inr h1
   · rintro(⟨h1|h1,h2,h3⟩|h1)
     · exact absurd h1 h2
     · exact .inl ⟨h1,h3⟩
     · exact .inr h1
 · rcases List.mem_cons.1 hm with rfl|hm
   · exact he hk
   · exact h.eL k hk hm
 · obtain⟨o,h1,h2,h3⟩:=h.eA k hk;exact⟨o,h1,h2,fun d hd=>List.mem_cons_of_mem _ (h3 d hd)⟩
 · rcases List.mem_cons.1 hk with rfl|hk
   · exact List.mem_cons_self
   · exact List.mem_cons_of_mem _ (h.pL k hk)
 · rw [List.pairwise_cons];exact⟨fun y hy o ho hm=>hL (h.Ld y o (h.pL y hy) ho i hm),h.pord⟩
 · rcases List.mem_cons.1 hp with rfl|hp
   · rw [hi]at ho;cases ho;exact fun hm=>hL (hd _ hm)
   · exact h.pself p o hp ho
 · rcases List.mem_cons.1 hk with rfl|hk
   · rw [hi]at ho;cases ho;exact List.mem_cons_of_mem _ (hd d hdk)
   · exact List.mem_cons_of_mem _ (h.Ld k o hk ho d hdk)
 · rcases List.mem_cons.1 hp with rfl|hp
   · rw [hi]at hop;cases hop;exact freeB_spec hf j oj hj hn
   · exact h.pfree p hp op hop j oj hj fun hm=>hn (List.mem_cons_of_mem _ hm)
theorem Pl.inst (h:Pl ops L pk ek listed) (hi:ops[i]?=some oi) (he:i∈ek) (hd:∀d,d∈deps oi→d∈L):Pl ops (i::L) pk (ek.filter fun p=> !Nat.beq p i) listed:=by
 have hmem:∀p,p∈ek.filter (fun p=> !Nat.beq p i)↔p∈ek∧p≠i:=mem_but
 refine⟨h.sz,fun j hj=> ?_,fun k=> ?_,fun k hk hm=> ?_,fun k hk=> ?_,fun j hj=>List.mem_cons_of_mem _ (h.pL j hj),h.down,h.pnd,h.pord,h.pself,fun k o hk ho d hdk=> ?_,
  fun p hp op hop j oj hj hn=>h.pfree p hp op hop j oj hj fun hm=>hn (List.mem_cons_of_mem _ hm)⟩
 · rcases List.mem_cons.1 hj with rfl|hj
   · exact opsLt hi
   · exact h.Llt j hj
 · rw [h.list,hmem];simp only [List.mem_cons];constructor
   · rintro(⟨h1,h2⟩|h1)
     · exact .inl ⟨.inr h1,h2⟩
     · by_cases hk:k=i
       · exact .inl ⟨.inl hk,fun hm=>h.eL k h1 (h.pL k hm)⟩
       · exact .inr ⟨h1,hk⟩
   · rintro(⟨rfl|h1,h2⟩|⟨h1,_⟩)
     · exact .inr he
     · exact .inl ⟨h1,h2⟩
     · exact .inr h1
 · rw [hmem]at hk;rcases List.mem_cons.1 hm with rfl|hm
   · exact hk.2 rfl
   · exact h.eL k hk.1 hm
 · obtain⟨o,h1,h2,h3⟩:=h.eA k ((hmem k).1 hk).1;exact⟨o,h1,h2,fun d hd=>List.mem_cons_of_mem _ (h3 d hd)⟩
 · rcases List.mem_cons.1 hk with rfl|hk
   · rw [hi]at ho;cases ho;exact List.mem_cons_of_mem _ (hd d hdk)
   · exact List.mem_cons_of_mem _ (h.Ld k o hk ho d hdk)
theorem Pl.exec (h:Pl ops L pk ek listed) (hi:ops[i]?=some oi) (hL:i∉L) (he:i∉ek) (hd:∀d,d∈deps oi→d∈L) (hdl:∀d,d∈deps oi→Ls listed d):
 Pl ops (i::L) pk ek (listed.setIfInBounds i true):=by
 have hlt:i<listed.size:=by rw [h.sz];exact opsLt hi
 refine⟨by simp [h.sz],fun j hj=> ?_,fun k=> ?_,fun k hk hm=> ?_,fun k hk=> ?_,fun k hk=>List.mem_cons_of_mem _ (h.pL k hk),fun k o hk ho d hdk=> ?_,h.pnd,h.pord,h.pself,fun k o hk ho d hdk=> ?_,
  fun p hp op hop j oj hj hn=>h.pfree p hp op hop j oj hj fun hm=>hn (List.mem_cons_of_mem _ hm)⟩
 · rcases List.mem_cons.1 hj with rfl|hj
   · exact opsLt hi
   · exact h.Llt j hj
 · rw [Ls_set hlt,h.list];simp only [List.mem_cons];constructor
   · rintro(rfl|⟨h1,h2⟩|h1)
     · exact .inl ⟨.inl rfl,fun hm=>hL (h.pL _ hm)⟩
     · exact .inl ⟨.inr h1,h2⟩
     · exact .inr h1
   · rintro(⟨h1|h1,h2⟩|h1)
     · exact .inl h1
     · exact .inr (.inl ⟨h1,h2⟩)
     · exact .inr (.inr h1)
 · rcases List.mem_cons.1 hm with rfl|hm
   · exact he hk
   · exact h.eL k hk hm
 · obtain⟨o,h1,h2,h3⟩:=h.eA k hk;exact⟨o,h1,h2,fun d hd=>List.mem_cons_of_mem _ (h3 d hd)⟩
 · rw [Ls_set hlt]at hk⊢;rcases hk with rfl|hk
   · rw [hi]at ho;cases ho;exact .inr (hdl d hdk)
   · exact .inr (h.down k o hk ho d hdk)
 · rcases List.mem_cons.1 hk with rfl|hk
   · rw [hi]at ho;cases ho;exact List.mem_cons_of_mem _ (hd d hdk)
   · exact List.mem_cons_of_mem _ (h.Ld k o hk ho d hdk)
theorem oldest {r:Nat→Nat→Prop} (l:List Nat) (hne:l≠ []) (hp:l.Pairwise fun x y=>r x y) (hs:∀p,p∈l→r p p):∃p,p∈l∧∀q,q∈l→r q p:=by
 induction l with
 |nil=>exact absurd rfl hne
 |cons x l ih=>
  rw [List.pairwise_cons]at hp;by_cases hl:l= []
  · subst hl;exact⟨x,by simp,fun q hq=>by simp at hq;subst hq;exact hs q (by simp)⟩
  · obtain⟨p,h1,h2⟩:=ih hl hp.2 fun p hp=>hs p (List.mem_cons_of_mem _ hp)
    refine⟨p,List.mem_cons_of_mem _ h1,fun q hq=> ?_⟩;rcases List.mem_cons.1 hq with rfl|hq
    · exact hp.1 p h1
    · exact h2 q hq
theorem Pl.pend_ready (h:Pl ops L pk ek listed) (hne:pk≠ []):Region.ready .any ops listed≠ []:=by
 obtain⟨p,h1,h2⟩:=oldest (r:=fun x y=>∀o,ops[y]?=some o→x∉deps o) pk hne h.pord fun p hp o ho=>h.pself p o hp ho
 have hlt:=h.Llt p (h.pL p h1)
 have:p∈Region.ready .any ops listed:=by
  rw [ready_iff h.sz];refine⟨hlt,fun hl=> ?_,ops[p],by simp [hlt],fun d hd=> ?_⟩
  · rcases(h.list p).1 hl with⟨_,h3⟩|h3
    · exact h3 h1
    · exact h.eL p h3 (h.pL p h1)
  · have hdL:=h.Ld p ops[p] (h.pL p h1) (by simp [hlt]) d hd;exact(h.list d).2 (.inl ⟨hdL,fun hp=>h2 d hp ops[p] (by simp [hlt]) hd⟩)
 intro e;rw [e]at this;cases this
theorem Pl.head_ready (h:Pl ops L [] ek listed) (hi:ops[i]?=some oi) (hL:i∉L) (he:i∉ek) (hd:∀d,d∈deps oi→d∈L):Region.ready .any ops listed≠ []:=by
 have:i∈Region.ready .any ops listed:=by
  rw [ready_iff h.sz];refine⟨opsLt hi,fun hl=> ?_,oi,hi,fun d hdd=>(h.list d).2 (.inl ⟨hd d hdd,by simp⟩)⟩;rcases(h.list i).1 hl with⟨h3,_⟩|h3
  · exact hL h3
  · exact he h3
 intro e;rw [e]at this;cases this
theorem Pl.ready (h:Pl ops L pk ek listed) (hj:j∈Region.ready .any ops listed):∃oj,ops[j]?=some oj∧(∀d,d∈deps oj→Ls listed d)∧j∉ek∧(j∈pk∨j∉L):=by
 obtain⟨h1,h2,oj,h3,h4⟩:=(ready_iff h.sz).1 hj;refine⟨oj,h3,h4,fun he=>h2 ((h.list j).2 (.inr he)), ?_⟩;by_cases hL:j∈L
 · left;by_cases hp:j∈pk
   · exact hp
   · exact absurd ((h.list j).2 (.inl ⟨hL,hp⟩)) h2
 · exact .inr hL
theorem Pl.early_in (h:Pl ops L pk ek listed):∀e,e∈ek→e∈allocsR ops L:=by
 intro e he;obtain⟨o,h1,h2,h3⟩:=h.eA e he;simp only [allocsR,List.mem_filter,List.mem_range,h1,Bool.and_eq_true,h2,Bool.not_eq_true',true_and];refine⟨opsLt h1, ?_,subN_iff.2 h3⟩;cases hm:memN e L with
 |false=>rfl
 |true=>exact absurd (memN_iff.1 hm) (h.eL e he)
theorem allocsR_mem (h:j∈allocsR ops L) (hj:ops[j]?=some oj):isAlloc oj=true∧(∀d,d∈deps oj→d∈L):=by
 simp only [allocsR,List.mem_filter,List.mem_range,hj,Bool.and_eq_true]at h;exact⟨h.2.2.1,subN_iff.1 h.2.2.2⟩
theorem Pl.deps_in (h:Pl ops L pk ek listed) (hd:∀d,d∈deps oj→Ls listed d):subN (deps oj) (allocsR ops L++L)=true:=by
 rw [subN_iff];intro d hdd;rcases(h.list d).1 (hd d hdd)with⟨h1,_⟩|h1
 · exact List.mem_append_right _ h1
 · exact List.mem_append_left _ (h.early_in d h1)
theorem ancs_ok (h:Pl ops L pk ek listed):∀(n:Nat) (l:List Nat),(∀d,d∈l→Ls listed d)→∀d,d∈ancs ops n l→Ls listed d
 |0,l,hl=>hl
 |n+1,l,hl=>by
  simp only [ancs];refine ancs_ok h n _ fun d hd=> ?_
  rcases List.mem_append.1 hd with hd|hd
  · exact hl d hd
  · obtain⟨j,hj,hdj⟩:=List.mem_flatMap.1 hd;cases ho:ops[j]? with
    |none=>simp [ho]at hdj
    |some o=>simp only [ho]at hdj;exact h.down j o (hl j hj) ho d hdj
theorem Pl.late (h:Pl ops L pk ek listed) (hd:∀d,d∈deps oj→Ls listed d) {S:List Nat} (hl:loadsB ops oj L S=true) {p:Nat} {op:Oper} (hp:p∈pk) (hop:ops[p]?=some op) (hld:isLoadOp op.op=true):p∈S:=by
 have:=List.all_eq_true.1 hl p (h.pL p hp);simp only [hop,hld,Bool.not_true,Bool.false_or,Bool.or_eq_true,memN_iff]at this;rcases this with h1|h1
 · exact h1
 · have h2:=ancs_ok h 4 (deps oj) hd p h1;rcases(h.list p).1 h2 with⟨_,h3⟩|h3
   · exact absurd hp h3
   · exact absurd (h.pL p hp) (h.eL p h3)
theorem Pl.only (h:Pl ops L pk ek listed) {al:List Nat} (ho:onlyB ops al i L=true) (hj:ops[j]?=some oj) (hL:j∉L) (hd:∀d,d∈deps oj→Ls listed d):j=i∨j∈allocsR ops L∨j∈al:=by
 have:=List.all_eq_true.1 ho j (by simpa using opsLt hj)
 simp only [hj,Bool.or_eq_true,memN_iff,h.deps_in hd,Bool.not_true,Bool.false_eq_true,or_false]at this;rcases this with h1|(h1|h1)|h1
 · exact absurd h1 hL
 · exact .inr (.inr h1)
 · exact .inl (beqT h1)
 · exact .inr (.inl h1)
theorem Pl.turn (h:Pl ops L pk ek listed) (ho:turnB ops i L=true) (hj:ops[j]?=some oj) (hL:j∉L) (hd:∀d,d∈deps oj→Ls listed d) (hn:i∉ek):j=i∨j∈allocsR ops L:=by
 have:=List.all_eq_true.1 ho j (by simpa using opsLt hj)
 simp only [hj,Bool.or_eq_true,memN_iff]at this;rcases this with h1|h1|h1|h1
 · exact absurd h1 hL
 · exact .inl (beqT h1)
 · exact .inr h1
 · exfalso
   have:subN (deps oj) ((allocsR ops L).filter (!Nat.beq · i)++L)=true:=by
    rw [subN_iff];intro d hdd;rcases(h.list d).1 (hd d hdd)with⟨h3,_⟩|h3
    · exact List.mem_append_right _ h3
    · refine List.mem_append_left _ (List.mem_filter.2 ⟨h.early_in d h3, ?_⟩);have:d≠i:=fun e=>hn (e▸h3)
      simp [beqN this]
   rw [this]at h1;cases h1
end
end
end Go.Sx
