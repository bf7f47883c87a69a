/- Laws of the walk over pure data. -/
import Derived.Test.YtggdlgclohnbaaaGreatDoorA2
set_option linter.unusedVariables false
set_option linter.unusedSimpArgs false
namespace Go
theorem j7:type_of% @Option.bind_some:=@Option.bind_some
theorem U0:type_of% @List.flatMap_cons:=@List.flatMap_cons
theorem a4t:type_of% @Array.getElem?_eq_getElem:=@Array.getElem?_eq_getElem
theorem b0m:type_of% @List.take_append_drop:=@List.take_append_drop
end Go
namespace Go.Sx
open Go Go.RowKit
inductive D where
 |v (x:Value)
 |agg (l:List D)
 |lst (z n:Nat) (l:List D)
 |ptr (l:List D) (o:Nat)
 |own (k o:Nat)
 |ownx (k o:Nat)
 |row (k z:Nat)
 |elr (k z i o:Nat)
 |osl (k o z n c:Nat)
 |tup (l:List D)
 |fn (f:FuncId) (first caps:List D)
 |mp (l:List (Int×Nat))
 |und
 |bad
inductive E where
 |blk (cs:List D) (ty:TypeId)
 |row (z n:Nat) (l:List D) (ty:TypeId)
 |mp (es:List (Value×Value)) (ty:MTy)
abbrev Hy:=List (Nat×E)
structure Sy where
 T:List (Nat×D)
 H:Hy
 nk:Nat
structure Cy where
 P:Program
 tt:List (Nat×TI)
 nt:Nat
 pl:List (Nat×PT)
 ln:List Nat:=[]
 un:List Nat:=[]
 dfs:List Deferred:=[]
 inl:List Nat:=[]
 sv:List Value:=[]
def m7:Hy→Nat→Option E
 |[],_=>none
 |(k',e)::H,k=>match Nat.beq k' k with|true=>some e|false=>m7 H k
def u0:List (Nat×D)→Nat→Option D
 |[],_=>none
 |(d,s)::T,k=>match Nat.beq d k with|true=>some s|false=>u0 T k
def a6F:D→Bool
 |.v _=>true
 |.lst _ _ _=>true
 |.ptr _ _=>true
 |.own _ _=>true
 |.ownx _ _=>true
 |.row _ _=>true
 |.elr _ _ _ _=>true
 |.osl _ _ _ _ _=>true
 |.fn _ _ _=>true
 |.mp _=>true
 |_=>false
def B4:List D→Bool
 |[]=>true
 |d::l=>match a6F d with|true=>B4 l|false=>false
def ofV:Value→Option D
 |.agg a=>match a.toList.all a3T with|true=>some (.agg (a.toList.map .v))|false=>none
 |.tuple _=>none
 |x=>some (.v x)
def b2G(T:List (Nat×D))(d:Nat):Option D:=match Nat.blt d 1000000 with|true=>u0 T d|false=>none
theorem a4c{T:List (Nat×D)}{d:Nat}{s:D}(h:b2G T d=some s):d<L3∧u0 T d=some s:=by
 unfold b2G at h;split at h
 ·rename_i hb;exact⟨by simpa[a4p]using hb,h⟩
 ·cases h
theorem a9r{T:List (Nat×SV)}{d:Nat}(h:d<L3):b3x T d=A8 T d:=by
 unfold b3x;rw[show Nat.blt d 1000000=true by simpa[a4p]using h]
def evY(st:Sy):Operand→Option D
 |.tmp t=>match b2G st.T t with|some .bad=>none|r=>r
 |.const v=>ofV v
 |.func f=>some (.fn f [] [])
 |.global _=>none
def b0S(st:Sy):List Operand→Option (List D)
 |[]=>some []
 |x::l=>match evY st x,b0S st l with|some s,some r=>some (s::r)|_,_=>none
def takeD:Nat→List D→Option (List D)
 |0,_=>some []
 |_+1,[]=>none
 |_+1,.bad::_=>none
 |n+1,x::l=>match takeD n l with|some r=>some (x::r)|none=>none
def dropD:Nat→List D→List D
 |0,l=>l
 |_+1,[]=>[]
 |n+1,_::l=>dropD n l
def mkD(agg:Bool)(l:List D):Option D:=
 match agg,l with
 |true,l=>match B4 l with|true=>some (.agg l)|false=>none
 |false,[x]=>match a6F x with|true=>some x|false=>none
 |false,_=>none
def b2N:D→Option (List D)
 |.agg l=>some l
 |.tup _=>none
 |.und=>none
 |.bad=>none
 |s=>some [s]
def c9p:D→Option (List D)
 |.agg l=>some l
 |_=>none
def b4A:Bool→D→Option (List D)
 |true,.agg l=>some l
 |false,.v (.bool b)=>some [.v (.bool b)]
 |_,_=>none
def c6L:CK→D→D→Option Bool
 |.int k,.v (.int ka a),.v (.int kb b)=>match kEq k ka,kEq k kb with|true,true=>some (a==b)|_,_=>none
 |.bool,.v (.bool a),.v (.bool b)=>some (a==b)
 |.str,.v (.string a),.v (.string b)=>some (a.toList==b.toList)
 |_,_,_=>none
def a8v:List CK→List D→List D→Option Bool
 |[],[],[]=>some true
 |[k],[x],[y]=>c6L k x y
 |k::ks,x::l,y::r=>match c6L k x y,a8v ks l r with|some a,some b=>some (a&&b)|_,_=>none
 |_,_,_=>none
def b8i:D→Bool
 |.v _=>true
 |.lst _ _ _=>true
 |.ptr _ _=>true
 |_=>false
def Z6:List D→Bool
 |[]=>true
 |d::l=>match b8i d with|true=>Z6 l|false=>false
inductive a8B where
 |val (s:D)
 |new (cs:List D) (ty:TypeId) (sl:Option (Nat×Nat))
 |newR (l:List D) (ty:TypeId) (z n:Nat)
 |call (f:FuncId) (args:List D)
 |upd (key:Nat) (cs:List D)
 |updR (key:Nat) (l:List D)
 |app (e esz bytes:Nat) (s x:D)
def el(l:List D)(z i:Nat):List D:=(l.drop (i*z)).take z
def b1l(l:List D)(z i:Nat)(cs:List D):List D:=l.take (i*z)++cs++l.drop (i*z+z)
def a4I(K:a8B→Prop):Option D→Prop
 |some s=>K (.val s)
 |none=>False
def b3L(K:a8B→Prop):Out→Prop
 |.val (.v x)=>match a3T x with|true=>K (.val (.v x))|false=>False
 |_=>False
def c2D(st:Sy)(len cap:Nat)(lo hi mx:Option Operand)(K:Nat→Nat→Nat→Prop):Prop:=
 match mx with
 |none=>match hi with
  |none=>match lo with
   |none=>K 0 len cap
   |some l=>match evY st l with
    |some (.v (.int _ z))=>(0≤z∧z≤len)∧K z.toNat len cap
    |_=>False
  |some h=>match evY st h with
   |some (.v (.int _ y))=>(0≤y∧y≤cap)∧match lo with
    |none=>K 0 y.toNat cap
    |some l=>match evY st l with
     |some (.v (.int _ z))=>(0≤z∧z≤y)∧K z.toNat y.toNat cap
     |_=>False
   |_=>False
 |some _=>False
def d2b(st:Sy)(cap:Nat)(lo hi:Option Operand)(m:Operand)(K:Nat→Nat→Prop):Prop:=
 match evY st m,hi with
 |some (.v (.int _ x)),some h=>(0≤x∧x≤cap)∧match evY st h with
  |some (.v (.int _ y))=>(0≤y∧y≤x)∧match lo with
   |none=>K 0 y.toNat
   |some l=>match evY st l with
    |some (.v (.int _ z))=>(0≤z∧z≤y)∧K z.toNat y.toNat
    |_=>False
  |_=>False
 |_,_=>False
def b6C(X:Cy)(st:Sy)(b:Builtin)(args:List Operand)(tys:List TypeId)(K:a8B→Prop):Prop:=
 match b,tys with
 |.len,t::_=>match D4 X.tt t,b0S st args with
  |some ⟨_,_,_,_,.slice _ _ _⟩,some [.v (.slice none 0 0)]=>K (.val (.v (.int .i64 0)))
  |some ⟨_,_,_,_,.slice _ _ _⟩,some [.lst _ n _]=>K (.val (.v (.int .i64 n)))
  |some ⟨_,_,_,_,.slice _ _ _⟩,some [.osl _ _ _ n _]=>K (.val (.v (.int .i64 n)))
  |some ⟨_,_,_,_,.slice _ _ _⟩,some [.row k _]=>match m7 st.H k with
   |some (.row _ n _ _)=>K (.val (.v (.int .i64 n)))
   |_=>False
  |some ⟨_,_,_,_,.str⟩,some [.v (.string s)]=>K (.val (.v (.int .i64 s.size)))
  |_,_=>False
 |.max,_=>match b0S st args with
  |some [.v (.int ka a),.v (.int _ b)]=>K (.val (.v (.int ka (if b>a then b else a))))
  |some [.v (.int ka a),.v (.int _ b),.v (.int _ c)]=>K (.val (.v (.int ka (if c>(if b>a then b else a)then c else(if b>a then b else a)))))
  |_=>False
 |.min,_=>match b0S st args with
  |some [.v (.int ka a),.v (.int _ b)]=>K (.val (.v (.int ka (if b<a then b else a))))
  |_=>False
 |.append,t::u::_=>match Nat.beq t u,D4 X.tt t,b0S st args with
  |true,some ⟨_,_,_,_,.slice e esz bytes⟩,some [s,x]=>match D4 X.tt e with
   |some i=>match Nat.beq i.n esz with
    |true=>K (.app e esz bytes s x)
    |false=>False
   |none=>False
  |_,_,_=>False
 |_,_=>False
def c2X(X:Cy)(fs:List (Nat×Nat×Nat))(f:Nat)(s:D)(K:a8B→Prop):Prop:=
 match b1k fs f,c9p s with
 |some (fty,off,n),some l=>match D4 X.tt fty,takeD n (dropD off l)with
  |some i,some r=>match Nat.beq i.n n with
   |true=>a4I K (mkD i.agg r)
   |false=>False
  |_,_=>False
 |_,_=>False
def b6b(fs:List (Nat×Nat×Nat))(st:Sy):List (Nat×Operand)→List D→Option (List D)
 |[],l=>some l
 |(i,x)::ps,l=>match b1k fs i,evY st x with
  |some (_,off,n),some s=>match b2N s with
   |some cs=>match Nat.beq cs.length n,B4 cs with
    |true,true=>match over off cs l with
     |some r=>b6b fs st ps r
     |none=>none
    |_,_=>none
   |none=>none
  |_,_=>none
def a6B(esz:Nat)(st:Sy):List (Nat×Operand)→List D→Option (List D)
 |[],l=>some l
 |(i,x)::ps,l=>match evY st x with
  |some s=>match b2N s with
   |some cs=>match Nat.beq cs.length esz,B4 cs with
    |true,true=>match over (i*esz) cs l with
     |some r=>a6B esz st ps r
     |none=>none
    |_,_=>none
   |none=>none
  |_=>none
def b4k:Nat→List D→List D
 |0,_=>[]
 |n+1,l=>l++b4k n l
def vD:List Value→List D
 |[]=>[]
 |x::l=>.v x::vD l
def c9j(st:Sy)(i:TI)(p:D)(K:a8B→Prop):Prop:=
 match p with
 |.own k o=>match m7 st.H k with
  |some (.blk cs _)=>match takeD i.n (dropD o cs)with
   |some l=>a4I K (mkD i.agg l)
   |none=>False
  |_=>False
 |.ownx k o=>match m7 st.H k with
  |some (.blk cs _)=>∃l,(takeD i.n (dropD o cs)=some l)∧a4I K (mkD i.agg l)
  |_=>False
 |.elr k z j o=>match m7 st.H k with
  |some (.row z' n l _)=>match Nat.beq z' z with
   |true=>∃cs,(el l z j=cs∧j<n)∧match takeD i.n (dropD o cs),Nat.ble (o+i.n) z with
    |some l,true=>a4I K (mkD i.agg l)
    |_,_=>False
   |false=>False
  |_=>False
 |.ptr l o=>match takeD i.n (dropD o l)with
  |some l=>a4I K (mkD i.agg l)
  |none=>False
 |_=>False
def c3W(st:Sy)(i:TI)(p s:D)(K:a8B→Prop):Prop:=
 match b2N s with
 |some l=>match Nat.beq l.length i.n,B4 l with
  |true,true=>match p with
   |.own k o=>match m7 st.H k with
    |some (.blk cs _)=>match over o l cs with
     |some cs'=>K (.upd k cs')
     |none=>False
    |_=>False
   |.ownx k o=>match m7 st.H k with
    |some (.blk cs _)=>∃cs',over o l cs=some cs'∧K (.upd k cs')
    |_=>False
   |.elr k z j o=>match m7 st.H k with
    |some (.row z' n r _)=>match Nat.beq z' z,Z6 l with
     |true,true=>∃cs,(el r z j=cs∧j<n)∧match over o l cs with
      |some cs'=>∃r',b1l r z j cs'=r'∧K (.updR k r')
      |none=>False
     |_,_=>False
    |_=>False
   |_=>False
  |_,_=>False
 |none=>False
def b4x(s:D)(off:Nat):Option D:=
 match s with
 |.own k o=>some (.own k (o+off))
 |.ownx k o=>some (.ownx k (o+off))
 |.elr k z i o=>some (.elr k z i (o+off))
 |.ptr l o=>some (.ptr l (o+off))
 |_=>none
def b5P(s:D)(off:Nat):Option D:=
 match s with
 |.own k o=>some (.ownx k (o+off))
 |.ownx k o=>some (.ownx k (o+off))
 |.ptr l o=>some (.ptr l (o+off))
 |_=>none
def c0M:List (Int×Nat)→Int→Option Nat
 |[],_=>none
 |(k,f)::l,i=>match i==k with|true=>some f|false=>c0M l i
def c0r:List D→Option (List Value)
 |[]=>some []
 |.v x::l=>match c0r l with|some r=>some (x::r)|none=>none
 |_=>none
def a8O:Bool→D→Option (List Value)
 |true,.agg l=>c0r l
 |false,.v x=>some [x]
 |_,_=>none
def y1(X:Cy)(st:Sy)(op:Op)(K:a8B→Prop):Prop:=
 match op with
 |.move x=>a4I K (evY st x)
 |.assign x=>a4I K (evY st x)
 |.pick c a b=>match evY st c with
  |some (.v (.bool t))=>VIf t (a4I K (evY st a)) (a4I K (evY st b))
  |_=>False
 |.alloc t=>match D4 X.tt t with
  |some i=>K (.new (vD i.z) t none)
  |none=>False
 |.box t x=>match D4 X.tt t,evY st x with
  |some _,some s=>match b2N s with
   |some l=>match B4 l with|true=>K (.new l t none)|false=>False
   |none=>False
  |_,_=>False
 |.load t p=>match D4 X.tt t,evY st p with
  |some i,some s=>c9j st i s K
  |_,_=>False
 |.store t p x=>match D4 X.tt t,evY st p,evY st x with
  |some i,some q,some s=>c3W st i q s K
  |_,_,_=>False
 |.nilCheck p=>match evY st p with
  |some (.own k o)=>K (.val (.own k o))
  |some (.ownx k o)=>K (.val (.ownx k o))
  |some (.elr k z i o)=>K (.val (.elr k z i o))
  |some (.ptr l o)=>K (.val (.ptr l o))
  |_=>False
 |.fieldAddr t p f=>match D4 X.tt t,evY st p with
  |some ⟨_,_,_,_,.struct fs⟩,some s=>match b1k fs f with
   |some (_,off,_)=>a4I K (b4x s off)
   |none=>False
  |_,_=>False
 |.field t x f=>match D4 X.tt t,evY st x with
  |some ⟨_,_,_,_,.struct fs⟩,some s=>c2X X fs f s K
  |_,_=>False
 |.indexAddr t x ix=>match D4 X.tt t,evY st x,evY st ix with
  |some ⟨_,_,_,_,.slice _ esz _⟩,some (.lst z n l),some (.v (.int _ i))=>match Nat.beq z esz with
   |true=>∃cs,(el l z i.toNat=cs∧0≤i∧i<n)∧K (.val (.ptr cs 0))
   |false=>False
  |some ⟨_,_,_,_,.slice _ esz _⟩,some (.osl k o z n _),some (.v (.int _ i))=>match Nat.beq z esz with
   |true=>(0≤i∧i<n)∧K (.val (.ownx k (o+i.toNat*z)))
   |false=>False
  |some ⟨_,_,_,_,.slice _ esz _⟩,some (.row k z),some (.v (.int _ i))=>match Nat.beq z esz,m7 st.H k with
   |true,some (.row z' n _ _)=>match Nat.beq z' z with
    |true=>(0≤i∧i<n)∧K (.val (.elr k z i.toNat 0))
    |false=>False
   |_,_=>False
  |some ⟨_,_,_,_,.slice _ _ _⟩,some (.v (.slice none 0 0)),some (.v (.int _ i))=>0≤i∧i<0
  |some ⟨_,_,_,_,.arr len _ esz⟩,some s,some (.v (.int _ z))=>
   (0≤z∧z<len)∧a4I K (match b9s ix with|true=>b4x s (z.toNat*esz)|false=>b5P s (z.toNat*esz))
  |_,_,_=>False
 |.index t x ix=>match D4 X.tt t,evY st x,evY st ix with
  |some ⟨_,_,_,_,.str⟩,some (.v (.string s)),some (.v (.int _ z))=>
   ∃c,(0≤z∧s.data.toList[z.toNat]?=some c)∧K (.val (.v (.int .u8 c.toNat)))
  |some ⟨_,_,_,_,.arr len ety esz⟩,some s,some (.v (.int _ z))=>match c9p s,D4 X.tt ety with
   |some l,some i=>(0≤z∧z<len)∧match b9s ix,Nat.beq i.n esz with
    |true,true=>match takeD i.n (dropD (z.toNat*esz) l)with
     |some r=>a4I K (mkD i.agg r)
     |none=>False
    |false,true=>∃r,takeD i.n (dropD (z.toNat*esz) l)=some r∧a4I K (mkD i.agg r)
    |_,_=>False
   |_,_=>False
  |_,_,_=>False
 |.binOp op t x y _=>match evY st x,evY st y with
  |some (.v (.int ka a)),some (.v (.int kb b))=>match d1R op,kEq ka kb with
   |true,_=>c3U op ka a b (b3L K)
   |false,true=>b6u op ka a b (b3L K)
   |false,false=>False
  |some (.v (.string a)),some (.v (.string b))=>b6j op a b (b3L K)
  |some s,some r=>match D4 X.tt t with
   |some ⟨_,agg,_,some ks,_⟩=>match b4A agg s,b4A agg r with
    |some l,some m=>match a8v ks l m with
     |some e=>a5M op e (b3L K)
     |none=>False
    |_,_=>False
   |some ⟨_,_,_,none,.slice _ _ _⟩=>match s,r with
    |.lst _ n _,.v (.slice none 0 0)=>∀b:Bool,(b=true→n=0)→a5M op b (b3L K)
    |.v (.slice none 0 0),.v (.slice none 0 0)=>a5M op true (b3L K)
    |_,_=>False
   |_=>False
  |_,_=>False
 |.unOp op _ x=>match op,evY st x with
  |.not,some (.v (.bool b))=>K (.val (.v (.bool (!b))))
  |.neg,some (.v (.int k a))=>K (.val (.v (.int k (k.wrap (0-a)))))
  |_,_=>False
 |.convert src dst x=>match D4 X.tt src,D4 X.tt dst,evY st x with
  |some _,some ⟨_,_,_,some [.int k],.int⟩,some (.v (.int _ n))=>K (.val (.v (.int k (k.wrap n))))
  |_,_,_=>False
 |.extract x n=>match evY st x with
  |some (.tup l)=>match dropD n l with|.bad::_=>False|s::_=>K (.val s)|[]=>False
  |_=>False
 |.makeFunc fn first caps=>match fn,b0S st first.toList,b0S st caps.toList with
  |.func f,some l,some c=>K (.val (.fn f l c))
  |_,_,_=>False
 |.build t ps=>match D4 X.tt t with
  |some ⟨_,_,z,_,.struct fs⟩=>match b6b fs st ps.toList (vD z)with
   |some l=>match B4 l with|true=>K (.val (.agg l))|false=>False
   |none=>False
  |some ⟨_,_,z,_,.arr _ _ esz⟩=>match a6B esz st ps.toList (vD z)with
   |some l=>match B4 l with|true=>K (.val (.agg l))|false=>False
   |none=>False
  |_=>False
 |.buildSlice t n ps=>match D4 X.tt t with
  |some ⟨_,_,_,_,.slice e esz _⟩=>match D4 X.tt e with
   |some i=>match Nat.ble (n*esz) 16777216,Nat.beq i.n esz,a6B esz st ps.toList (b4k n (vD i.z))with
    |true,true,some l=>match Z6 l,Nat.ble n 16777216 with
     |true,true=>∃l' n',(l=l'∧n=n')∧K (.newR l' e esz n')
     |_,_=>K (.new l e (some (esz,n)))
    |_,_,_=>False
   |none=>False
  |_=>False
 |.makeSlice t l c=>match D4 X.tt t,evY st l,evY st c with
  |some ⟨_,_,_,_,.slice e esz bytes⟩,some (.v (.int _ p)),some (.v (.int _ q))=>match D4 X.tt e with
   |some i=>match Nat.beq i.n esz with
    |true=>(p=q∧0≤p∧(bytes:Int)*p≤281474976710656∧p≤9223372036854775807)∧∃l' n',(b4k p.toNat (vD i.z)=l'∧p.toNat=n')∧K (.newR l' e esz n')
    |false=>False
   |none=>False
  |_,_,_=>False
 |.slice t x lo hi mx=>match D4 X.tt t,evY st x with
  |some ⟨_,_,_,_,.slice _ esz _⟩,some (.lst z n l)=>match Nat.beq z esz with
   |true=>match mx with
    |none=>c2D st n n lo hi none fun a h _=>∃r,(l.drop (a*z)).take ((h-a)*z)=r∧K (.val (.lst z (h-a) r))
    |some m=>d2b st n lo hi m fun a h=>∃r,(l.drop (a*z)).take ((h-a)*z)=r∧K (.val (.lst z (h-a) r))
   |false=>False
  |some ⟨_,_,_,_,.slice _ esz _⟩,some (.row k z)=>match Nat.beq z esz,m7 st.H k with
   |true,some (.row _ n _ _)=>0<n∧c2D st n n lo hi mx fun a h _=>∀o,(h-a=0∨o=a*z)∧(a=0→o=0)→K (.val (.osl k o z (h-a) a))
   |_,_=>False
  |some ⟨_,_,_,_,.str⟩,some (.v (.string s))=>
   c2D st s.size s.size lo hi mx fun l h _=>K (.val (.v (.string (s.extract l h))))
  |some ⟨_,_,_,_,.arr len _ esz⟩,some (.own k 0)=>match lo,hi,mx with
   |none,none,none=>(match m7 st.H k with|some (.blk _ _)=>K (.val (.osl k 0 esz len len))|_=>False)
   |_,_,_=>False
  |_,_=>False
 |.lookup t x ix ok=>match evY st x with
  |some (.mp l)=>match ok,evY st ix with
   |false,some (.v (.int .i64 i))=>(∃kt et,X.P.underlying t=some (.map kt et)∧X.P.underlying kt=some (.int .i64))∧∃f,c0M l i=some f∧K (.val (.fn f [] []))
   |_,_=>False
  |some (.row k _)=>match evY st ix,m7 st.H k with
   |some kd,some (.mp es m)=>(b1q X.P X.tt m∧m.t=t)∧∃kc v b,(a8O m.ag kd=some kc∧s8 m.ks kc∧(b2p es kc).getD m.z=v∧(b2p es kc).isSome=b∧plV v=true)∧
    K (.val (match ok with|true=>.tup [.v v,.v (.bool b)]|false=>.v v))
   |_,_=>False
  |_=>False
 |.call c=>match c.callee with
  |.value f=>match evY st f,b0S st c.args.toList with
   |some (.fn g l caps),some args=>K (.call g (l++(args++caps)))
   |_,_=>False
  |.builtin b=>b6C X st b c.args.toList c.argTypes.toList K
  |_=>False
 |_=>False
mutual
def Rep(ok:Nat→Prop)(w:World):D→Value→Prop
 |.v x,y=>y=x∧a3T x=true
 |.agg l,y=>∃a,y=.agg a∧l5 ok w l a.toList∧B4 l=true
 |.lst z n l,y=>∃a c,y=.slice a n c∧n≤c∧(n:Int)≤9223372036854775807∧l.length=n*z∧B4 l=true∧
  (c=0∨∃b o xs,a=some ⟨b,o,none⟩∧ok b∧l5 ok w l xs∧∀j,j<n*z→w.cell? ⟨b,o+j,none⟩=xs[j]?)
 |.ptr l o,y=>∃b p xs,y=.pointer (some ⟨b,p+o,none⟩)∧ok b∧B4 l=true∧l5 ok w l xs∧∀j,j<l.length→w.cell? ⟨b,p+j,none⟩=xs[j]?
 |.fn f a b,y=>∃p q,y=.func (.func f) p q∧l5 ok w a p.toList∧l5 ok w b q.toList
 |.tup l,y=>∃a,y=.tuple a∧l5 ok w l a.toList
 |.mp l,y=>∃r es c,y=.map (some r)∧ok r∧w.heap[r]?=some (.map es c)∧es.toList.map (fun e=>(e.key,e.val))=l.map (fun p=>(Value.int .i64 p.1,Value.func (.func p.2) #[] #[]))
 |_,_=>False
def l5(ok:Nat→Prop)(w:World):List D→List Value→Prop
 |[],[]=>True
 |d::l,y::r=>Rep ok w d y∧l5 ok w l r
 |_,_=>False
end
mutual
theorem Rep.mono{ok ok':Nat→Prop}{w w':World}(hm:∀b,ok b→ok' b∧w'.heap[b]?=w.heap[b]?):∀(d:D) (y:Value),Rep ok w d y→Rep ok' w' d y
 |.v x,y,h=>h
 |.agg l,y,h=>by
  simp only[Rep]at h⊢;obtain⟨a,h1,h2,h3⟩:=h;exact⟨a,h1,l5.mono hm l _ h2,h3⟩
 |.lst z n l,y,h=>by
  simp only[Rep]at h⊢;obtain⟨a,c,h1,h2,h3,h4,h5,h6⟩:=h;refine⟨a,c,h1,h2,h3,h4,h5,?_⟩;rcases h6 with h6|⟨b,o,xs,e1,e2,e3,e4⟩
  ·exact .inl h6
  ·refine .inr ⟨b,o,xs,e1,(hm b e2).1,l5.mono hm l _ e3,fun j hj=>?_⟩;rw[←e4 j hj];simp only[World.cell?,(hm b e2).2]
 |.ptr l o,y,h=>by
  simp only[Rep]at h⊢;obtain⟨b,p,xs,e1,e2,e5,e3,e4⟩:=h;refine⟨b,p,xs,e1,(hm b e2).1,e5,l5.mono hm l _ e3,fun j hj=>?_⟩;rw[←e4 j hj];simp only[World.cell?,(hm b e2).2]
 |.fn f a b,y,h=>by
  simp only[Rep]at h⊢;obtain⟨p,q,h1,h2,h3⟩:=h;exact⟨p,q,h1,l5.mono hm a _ h2,l5.mono hm b _ h3⟩
 |.tup l,y,h=>by
  simp only[Rep]at h⊢;obtain⟨a,h1,h2⟩:=h;exact⟨a,h1,l5.mono hm l _ h2⟩
 |.mp l,y,h=>by
  simp only[Rep]at h⊢;obtain⟨r,es,c,h1,h2,h3,h4⟩:=h;exact⟨r,es,c,h1,(hm r h2).1,by rw[(hm r h2).2];exact h3,h4⟩
 |.own _ _,_,h=>by simp[Rep]at h
 |.ownx _ _,_,h=>by simp[Rep]at h
 |.row _ _,_,h=>by simp[Rep]at h
 |.elr _ _ _ _,_,h=>by simp[Rep]at h
 |.osl _ _ _ _ _,_,h=>by simp[Rep]at h
 |.und,_,h=>by simp[Rep]at h
 |.bad,_,h=>by simp[Rep]at h
theorem l5.mono{ok ok':Nat→Prop}{w w':World}(hm:∀b,ok b→ok' b∧w'.heap[b]?=w.heap[b]?):∀(l:List D) (r:List Value),l5 ok w l r→l5 ok' w' l r
 |[],[],_=>trivial
 |d::l,y::r,h=>by
  simp only[l5]at h⊢;exact⟨Rep.mono hm d y h.1,l5.mono hm l r h.2⟩
 |[],_::_,h=>by simp[l5]at h
 |_::_,[],h=>by simp[l5]at h
end
section
variable {ok : Nat → Prop}{w : World}
theorem l5.length{l:List D}{r:List Value}(h:l5 ok w l r):l.length=r.length:=by
 induction l generalizing r with
 |nil=>cases r with
  |nil=>rfl
  |cons=>simp[l5]at h
 |cons d l ih=>cases r with
  |nil=>simp[l5]at h
  |cons y r=>simp only[l5]at h;simp[ih h.2]
theorem l5.get{l:List D}{r:List Value}(h:l5 ok w l r){j:Nat}{d:D}(hd:l[j]?=some d):∃y,r[j]?=some y∧Rep ok w d y:=by
 induction l generalizing r j with
 |nil=>simp at hd
 |cons d' l ih=>cases r with
  |nil=>simp[l5]at h
  |cons y r=>
   simp only[l5]at h;cases j with
   |zero=>simp at hd;subst hd;exact⟨y,by simp,h.1⟩
   |succ j=>simp at hd;obtain⟨y',h1,h2⟩:=ih h.2 hd;exact⟨y',by simpa using h1,h2⟩
theorem l5.app{l l':List D}{r r':List Value}(h:l5 ok w l r)(h':l5 ok w l' r'):l5 ok w (l++l') (r++r'):=by
 induction l generalizing r with
 |nil=>cases r with
  |nil=>exact h'
  |cons=>simp[l5]at h
 |cons d l ih=>cases r with
  |nil=>simp[l5]at h
  |cons y r=>simp only[l5]at h;exact⟨h.1,ih h.2⟩
theorem l5.drop{l:List D}{r:List Value}(h:l5 ok w l r)(n:Nat):l5 ok w (l.drop n) (r.drop n):=by
 induction n generalizing l r with
 |zero=>simpa using h
 |succ n ih=>cases l with
  |nil=>cases r with
   |nil=>simp[l5]
   |cons=>simp[l5]at h
  |cons d l=>cases r with
   |nil=>simp[l5]at h
   |cons y r=>simp only[l5]at h;simpa using ih h.2
theorem l5.take{l:List D}{r:List Value}(h:l5 ok w l r)(n:Nat):l5 ok w (l.take n) (r.take n):=by
 induction n generalizing l r with
 |zero=>simp[l5]
 |succ n ih=>cases l with
  |nil=>cases r with
   |nil=>simp[l5]
   |cons=>simp[l5]at h
  |cons d l=>cases r with
   |nil=>simp[l5]at h
   |cons y r=>simp only[l5]at h;simp only[List.take_succ_cons,l5];exact⟨h.1,ih h.2⟩
theorem A9{l:List D}(h:B4 l=true){d:D}(hd:d∈l):a6F d=true:=by
 induction l with
 |nil=>cases hd
 |cons x l ih=>
  simp only[B4]at h;split at h
  ·rename_i hx;rcases u9.1 hd with rfl|hd
   ·exact hx
   ·exact ih h hd
  ·cases h
theorem M3{l:List D}(h:∀d,d∈l→a6F d=true):B4 l=true:=by
 induction l with
 |nil=>rfl
 |cons x l ih=>
  simp only[B4,h x C7];exact ih fun d hd=>h d (F6 _ hd)
theorem Rep.one{d:D}{y:Value}(h:Rep ok w d y)(hd:a6F d=true):a3T y=true:=by
 cases d<;>simp[a6F]at hd<;>simp only[Rep]at h
 ·obtain⟨rfl,h⟩:=h;exact h
 ·obtain⟨a,c,rfl,_⟩:=h;rfl
 ·obtain⟨b,p,xs,rfl,_⟩:=h;rfl
 ·obtain⟨p,q,rfl,_⟩:=h;rfl
 ·obtain⟨r,es,c,rfl,_⟩:=h;rfl
theorem l5.one{l:List D}{r:List Value}(h:l5 ok w l r)(hl:B4 l=true):∀y,y∈r→a3T y=true:=by
 induction l generalizing r with
 |nil=>cases r with
  |nil=>simp
  |cons=>simp[l5]at h
 |cons d l ih=>cases r with
  |nil=>simp[l5]at h
  |cons y r=>
   simp only[l5]at h;intro u hu;rcases u9.1 hu with rfl|hu
   ·exact h.1.one (A9 hl C7)
   ·exact ih h.2 (M3 fun d hd=>A9 hl (F6 _ hd)) u hu
end
mutual
def j5(ok:Nat→Prop)(w:World)(R:Bool→Nat→Prop):D→SV→Prop
 |.v x,s=>s=.v x∧a3T x=true
 |.agg l,s=>∃cs,a4Y s=some cs∧j9 ok w R l cs∧B4 l=true
 |.lst z n l,s=>∃y,s=.v y∧Rep ok w (.lst z n l) y
 |.ptr l o,s=>∃y,s=.v y∧Rep ok w (.ptr l o) y
 |.own k o,s=>s=.own k o∧R false k
 |.ownx k o,s=>s=.ownx k o∧R false k
 |.row k _,s=>s=.row k∧R true k
 |.elr k z i o,s=>s=.ownx k (i*z+o)∧R true k
 |.osl k o _ n c,s=>s=.osl k o n c∧R false k
 |.tup l,s=>(∃cs,s=.tup cs∧j9 ok w R l cs)∨∃a,s=.v (.tuple a)∧j9 ok w R l (vs a.toList)
 |.fn f a b,s=>(∃a' b',s=.fn f a' b'∧j9 ok w R a a'∧j9 ok w R b b')∨∃p q,s=.v (.func (.func f) p q)∧j9 ok w R a (vs p.toList)∧j9 ok w R b (vs q.toList)
 |.mp l,s=>∃y,s=.v y∧Rep ok w (.mp l) y
 |.und,s=>s=.v undef
 |.bad,s=>s=.bad
def j9(ok:Nat→Prop)(w:World)(R:Bool→Nat→Prop):List D→List SV→Prop
 |[],[]=>True
 |d::l,y::r=>j5 ok w R d y∧j9 ok w R l r
 |_,_=>False
end
mutual
theorem j5.mono{ok ok':Nat→Prop}{w w':World}{R R':Bool→Nat→Prop}(hm:∀b,ok b→ok' b∧w'.heap[b]?=w.heap[b]?)(hR:∀q k,R q k→R' q k):∀(d:D) (s:SV),j5 ok w R d s→j5 ok' w' R' d s
 |.v x,y,h=>h
 |.agg l,y,h=>by
  simp only[j5]at h⊢;obtain⟨a,h1,h2,h3⟩:=h;exact⟨a,h1,j9.mono hm hR l _ h2,h3⟩
 |.lst z n l,y,h=>by
  simp only[j5]at h⊢;obtain⟨a,h1,h2⟩:=h;exact⟨a,h1,Rep.mono hm _ _ h2⟩
 |.ptr l o,y,h=>by
  simp only[j5]at h⊢;obtain⟨a,h1,h2⟩:=h;exact⟨a,h1,Rep.mono hm _ _ h2⟩
 |.mp l,y,h=>by
  simp only[j5]at h⊢;obtain⟨a,h1,h2⟩:=h;exact⟨a,h1,Rep.mono hm _ _ h2⟩
 |.own k o,y,h=>by simp only[j5]at h⊢;exact⟨h.1,hR _ k h.2⟩
 |.ownx k o,y,h=>by simp only[j5]at h⊢;exact⟨h.1,hR _ k h.2⟩
 |.row k z,y,h=>by simp only[j5]at h⊢;exact⟨h.1,hR _ k h.2⟩
 |.elr k z i o,y,h=>by simp only[j5]at h⊢;exact⟨h.1,hR _ k h.2⟩
 |.osl k o z n c,y,h=>by simp only[j5]at h⊢;exact⟨h.1,hR _ k h.2⟩
 |.tup l,y,h=>by
  simp only[j5]at h⊢;rcases h with⟨cs,h1,h2⟩|⟨a,h1,h2⟩
  ·exact .inl ⟨cs,h1,j9.mono hm hR l _ h2⟩
  ·exact .inr ⟨a,h1,j9.mono hm hR l _ h2⟩
 |.fn f a b,y,h=>by
  simp only[j5]at h⊢;rcases h with⟨p,q,h1,h2,h3⟩|⟨p,q,h1,h2,h3⟩
  ·exact .inl ⟨p,q,h1,j9.mono hm hR a _ h2,j9.mono hm hR b _ h3⟩
  ·exact .inr ⟨p,q,h1,j9.mono hm hR a _ h2,j9.mono hm hR b _ h3⟩
 |.und,_,h=>h
 |.bad,_,h=>h
theorem j9.mono{ok ok':Nat→Prop}{w w':World}{R R':Bool→Nat→Prop}(hm:∀b,ok b→ok' b∧w'.heap[b]?=w.heap[b]?)(hR:∀q k,R q k→R' q k):∀(l:List D) (r:List SV),j9 ok w R l r→j9 ok' w' R' l r
 |[],[],_=>trivial
 |d::l,y::r,h=>by
  simp only[j9]at h⊢;exact⟨j5.mono hm hR d y h.1,j9.mono hm hR l r h.2⟩
 |[],_::_,h=>by simp[j9]at h
 |_::_,[],h=>by simp[j9]at h
end
section
variable {ok : Nat → Prop}{w : World}{R : Bool → Nat → Prop}
mutual
theorem Rep.rel{ok:Nat→Prop}{w:World}{R:Bool→Nat→Prop}:∀(d:D) (y:Value),Rep ok w d y→j5 ok w R d (.v y)
 |.v x,y,h=>by simp only[Rep]at h;simp only[j5];exact⟨by rw[h.1],h.2⟩
 |.agg l,y,h=>by
  simp only[Rep]at h;simp only[j5];obtain⟨a,rfl,h2,h3⟩:=h;exact⟨_,rfl,l5.rel l _ h2,h3⟩
 |.lst z n l,y,h=>by simp only[j5];exact⟨y,rfl,h⟩
 |.ptr l o,y,h=>by simp only[j5];exact⟨y,rfl,h⟩
 |.mp l,y,h=>by simp only[j5];exact⟨y,rfl,h⟩
 |.fn f a b,y,h=>by
  simp only[Rep]at h;simp only[j5];obtain⟨p,q,rfl,h2,h3⟩:=h;exact .inr ⟨p,q,rfl,l5.rel a _ h2,l5.rel b _ h3⟩
 |.tup l,y,h=>by
  simp only[Rep]at h;simp only[j5];obtain⟨a,rfl,h2⟩:=h;exact .inr ⟨a,rfl,l5.rel l _ h2⟩
 |.own _ _,_,h=>by simp[Rep]at h
 |.ownx _ _,_,h=>by simp[Rep]at h
 |.row _ _,_,h=>by simp[Rep]at h
 |.elr _ _ _ _,_,h=>by simp[Rep]at h
 |.osl _ _ _ _ _,_,h=>by simp[Rep]at h
 |.und,_,h=>by simp[Rep]at h
 |.bad,_,h=>by simp[Rep]at h
theorem l5.rel{ok:Nat→Prop}{w:World}{R:Bool→Nat→Prop}:∀(l:List D) (r:List Value),l5 ok w l r→j9 ok w R l (vs r)
 |[],[],_=>trivial
 |d::l,y::r,h=>by
  simp only[l5]at h;simp only[vs,j9];exact⟨Rep.rel d y h.1,l5.rel l r h.2⟩
 |[],_::_,h=>by simp[l5]at h
 |_::_,[],h=>by simp[l5]at h
end
theorem j5.ne{d:D}{s:SV}(h:j5 ok w R d s)(hd:d≠ .bad):s≠ .bad:=by
 cases d<;>simp only[j5]at h
 ·rw[h.1];simp
 ·obtain⟨cs,h1,_⟩:=h;intro e;subst e;simp[a4Y]at h1
 ·obtain⟨y,rfl,_⟩:=h;simp
 ·obtain⟨y,rfl,_⟩:=h;simp
 ·rw[h.1];simp
 ·rw[h.1];simp
 ·rw[h.1];simp
 ·rw[h.1];simp
 ·rw[h.1];simp
 ·rcases h with⟨cs,rfl,_⟩|⟨cs,rfl,_⟩<;>simp
 ·rcases h with⟨p,q,rfl,_⟩|⟨p,q,rfl,_⟩<;>simp
 ·obtain⟨y,rfl,_⟩:=h;simp
 ·rw[h];simp
 ·exact absurd rfl hd
theorem j9.length{l:List D}{r:List SV}(h:j9 ok w R l r):l.length=r.length:=by
 induction l generalizing r with
 |nil=>cases r with
  |nil=>rfl
  |cons=>simp[j9]at h
 |cons d l ih=>cases r with
  |nil=>simp[j9]at h
  |cons y r=>simp only[j9]at h;simp[ih h.2]
theorem j9.app{l l':List D}{r r':List SV}(h:j9 ok w R l r)(h':j9 ok w R l' r'):j9 ok w R (l++l') (r++r'):=by
 induction l generalizing r with
 |nil=>cases r with
  |nil=>exact h'
  |cons=>simp[j9]at h
 |cons d l ih=>cases r with
  |nil=>simp[j9]at h
  |cons y r=>simp only[j9]at h;exact⟨h.1,ih h.2⟩
theorem j9.dropD{l:List D}{r:List SV}(h:j9 ok w R l r)(n:Nat):j9 ok w R (dropD n l) (a2z n r):=by
 induction n generalizing l r with
 |zero=>simpa[Sx.dropD,a2z]using h
 |succ n ih=>cases l with
  |nil=>cases r with
   |nil=>simp[Sx.dropD,a2z,j9]
   |cons=>simp[j9]at h
  |cons d l=>cases r with
   |nil=>simp[j9]at h
   |cons y r=>simp only[j9]at h;simpa[Sx.dropD,a2z]using ih h.2
theorem j9.takeD{l:List D}{r:List SV}(h:j9 ok w R l r){n:Nat}{x:List D}(hx:takeD n l=some x):∃y,a4n n r=some y∧j9 ok w R x y:=by
 induction n generalizing l r x with
 |zero=>simp[Sx.takeD]at hx;subst hx;exact⟨[],rfl,trivial⟩
 |succ n ih=>cases l with
  |nil=>simp[Sx.takeD]at hx
  |cons d l=>cases r with
   |nil=>simp[j9]at h
   |cons s r=>
    simp only[j9]at h;have hd:d≠ .bad:=fun e=>by subst e;simp[Sx.takeD]at hx
    have hs:=h.1.ne hd
    have hx':(match Sx.takeD n l with|some r=>some (d::r)|none=>none)=some x:=by
     cases d<;>first|exact hx|exact absurd rfl hd
    split at hx'
    ·rename_i q hq;cases hx';obtain⟨y,h1,h2⟩:=ih h.2 hq;refine⟨s::y,?_,h.1,h2⟩
     have:a4n (n+1) (s::r)=(match a4n n r with|some q=>some (s::q)|none=>none):=by
      cases s<;>first|rfl|exact absurd rfl hs
     rw[this,h1]
    ·cases hx'
theorem j9.over{l:List D}{r:List SV}(h:j9 ok w R l r){o:Nat}{x y:List D}{x':List SV}(hx:j9 ok w R x x')(hy:over o x l=some y):∃y',Sx.over o x' r=some y'∧j9 ok w R y y':=by
 induction l generalizing r o x x' y with
 |nil=>cases r with
  |cons=>simp[j9]at h
  |nil=>cases o with
   |zero=>cases x with
    |nil=>cases x' with
     |nil=>simp[Sx.over]at hy;subst hy;exact⟨[],rfl,trivial⟩
     |cons=>simp[j9]at hx
    |cons=>simp[Sx.over]at hy
   |succ o=>simp[Sx.over]at hy
 |cons d l ih=>cases r with
  |nil=>simp[j9]at h
  |cons s r=>
   simp only[j9]at h;cases o with
   |zero=>cases x with
    |nil=>cases x' with
     |nil=>simp[Sx.over]at hy;subst hy;exact⟨s::r,rfl,h⟩
     |cons=>simp[j9]at hx
    |cons a x=>cases x' with
     |nil=>simp[j9]at hx
     |cons a' x'=>
      simp only[j9]at hx;simp only[Sx.over]at hy⊢;split at hy
      ·rename_i q hq;cases hy;obtain⟨y',h1,h2⟩:=ih h.2 hx.2 hq;exact⟨a'::y',by rw[h1],hx.1,h2⟩
      ·cases hy
   |succ o=>
    simp only[Sx.over]at hy⊢;split at hy
    ·rename_i q hq;cases hy;obtain⟨y',h1,h2⟩:=ih h.2 hx hq;exact⟨s::y',by rw[h1],h.1,h2⟩
    ·cases hy
theorem c5g{agg:Bool}{l:List D}{r:List SV}{x:D}(h:j9 ok w R l r)(hx:mkD agg l=some x):∃s,mkv agg r=some s∧j5 ok w R x s:=by
 unfold mkD at hx;split at hx
 ·split at hx
  ·rename_i hf;cases hx;refine⟨.agg r,rfl,?_⟩;simp only[j5];exact⟨r,rfl,h,hf⟩
  ·cases hx
 ·split at hx
  ·cases hx;cases r with
   |nil=>simp[j9]at h
   |cons s r=>cases r with
    |nil=>simp only[j9]at h;exact⟨s,rfl,h.1⟩
    |cons=>simp[j9]at h
  ·cases hx
 ·cases hx
theorem a3L{K:a8B→Prop}{x:Option D}(h:a4I K x):∃s,x=some s∧K (.val s):=by
 cases x with
 |none=>exact h.elim
 |some s=>exact⟨s,rfl,h⟩
theorem j5.cells{d:D}{s:SV}{l:List D}(h:j5 ok w R d s)(hc:b2N d=some l):∃r,a2t s=some r∧j9 ok w R l r:=by
 have one:∀ {d:D}{s:SV},j5 ok w R d s→a2t s=some [s]→∃r,a2t s=some r∧j9 ok w R [d] r:=fun h hs=>⟨_,hs,h,trivial⟩
 cases d<;>simp only[b2N]at hc<;>first|cases hc|skip
 ·refine one h ?_;simp only[j5]at h;obtain⟨rfl,h⟩:=h;rename_i x;cases x<;>first|rfl|simp[a3T]at h
 ·simp only[j5]at h;obtain⟨cs,h1,h2,_⟩:=h;refine⟨cs,?_,h2⟩;cases s<;>simp[a4Y]at h1
  ·rename_i x;cases x<;>simp at h1;subst h1;rfl
  ·subst h1;rfl
 ·refine one h ?_;simp only[j5,Rep]at h;obtain⟨y,rfl,a,c,rfl,_⟩:=h;rfl
 ·refine one h ?_;simp only[j5,Rep]at h;obtain⟨y,rfl,a,c,xs,rfl,_⟩:=h;rfl
 ·refine one h ?_;simp only[j5]at h;rw[h.1];rfl
 ·refine one h ?_;simp only[j5]at h;rw[h.1];rfl
 ·refine one h ?_;simp only[j5]at h;rw[h.1];rfl
 ·refine one h ?_;simp only[j5]at h;rw[h.1];rfl
 ·refine one h ?_;simp only[j5]at h;rw[h.1];rfl
 ·refine one h ?_;simp only[j5]at h;rcases h with⟨p,q,rfl,_⟩|⟨p,q,rfl,_⟩<;>rfl
 ·refine one h ?_;simp only[j5,Rep]at h;obtain⟨y,rfl,r,es,c,rfl,_⟩:=h;rfl
theorem j5.one{Hp:Hp}(hR:∀k,R true k→∃e,l4 Hp k=some e∧isR e=true){d:D}{s:SV}(h:j5 ok w R d s)(hd:a6F d=true):b7n Hp s=true:=by
 cases d<;>simp[a6F]at hd<;>simp only[j5]at h
 ·rw[h.1];exact h.2
 ·obtain⟨y,rfl,h⟩:=h;exact h.one rfl
 ·obtain⟨y,rfl,h⟩:=h;exact h.one rfl
 ·rw[h.1];rfl
 ·rw[h.1];rfl
 ·obtain⟨e,hf,he⟩:=hR _ h.2;rw[h.1];cases e<;>first|(cases he;done)|simp[b7n,hf]
 ·rw[h.1];rfl
 ·rw[h.1];rfl
 ·rcases h with⟨p,q,rfl,_⟩|⟨p,q,rfl,_⟩<;>rfl
 ·obtain⟨y,rfl,h⟩:=h;exact h.one rfl
theorem j9.one{Hp:Hp}(hR:∀k,R true k→∃e,l4 Hp k=some e∧isR e=true){l:List D}{r:List SV}(h:j9 ok w R l r)(hl:B4 l=true):b0D Hp r=true:=by
 induction l generalizing r with
 |nil=>cases r with
  |nil=>rfl
  |cons=>simp[j9]at h
 |cons d l ih=>cases r with
  |nil=>simp[j9]at h
  |cons y r=>
   simp only[j9]at h;simp only[b0D,h.1.one hR (A9 hl C7)];exact ih h.2 (M3 fun d hd=>A9 hl (F6 _ hd))
theorem b5d{l:List Value}(h:∀x,x∈l→a3T x=true):j9 ok w R (vD l) (vs l):=by
 induction l with
 |nil=>trivial
 |cons x l ih=>
  refine⟨?_,ih fun y hy=>h y (F6 _ hy)⟩;simp only[j5];exact⟨trivial,h x C7⟩
theorem c3j{l:List D}(h:Z6 l=true){d:D}(hd:d∈l):b8i d=true:=by
 induction l with
 |nil=>cases hd
 |cons x l ih=>
  simp only[Z6]at h;split at h
  ·rename_i hx;rcases u9.1 hd with rfl|hd
   ·exact hx
   ·exact ih h hd
  ·cases h
theorem j9.vals{l:List D}{r:List SV}(h:j9 ok w R l r)(hl:Z6 l=true):∃xs,r=vs xs∧l5 ok w l xs:=by
 induction l generalizing r with
 |nil=>cases r with
  |nil=>exact⟨[],rfl,trivial⟩
  |cons=>simp[j9]at h
 |cons d l ih=>cases r with
  |nil=>simp[j9]at h
  |cons s r=>
   simp only[j9]at h;simp only[Z6]at hl;split at hl
   ·rename_i hd;obtain⟨xs,rfl,hx⟩:=ih h.2 hl
    have:∃y,s=.v y∧Rep ok w d y:=by
     cases d<;>simp[b8i]at hd
     ·have:=h.1;simp only[j5]at this;exact⟨_,this.1,by simp only[Rep];exact⟨trivial,this.2⟩⟩
     ·have:=h.1;simp only[j5]at this;exact this
     ·have:=h.1;simp only[j5]at this;exact this
    obtain⟨y,rfl,hy⟩:=this;exact⟨y::xs,rfl,hy,hx⟩
   ·cases hl
end
theorem b4C(k:Nat)(l:List Value):I2 k (vs l)=false:=by
 induction l with
 |nil=>rfl
 |cons x l ih=>simp only[vs,I2,ment];exact ih
mutual
theorem j5.ment{ok:Nat→Prop}{w:World}{R:Bool→Nat→Prop}{k:Nat}(hR:∀q,¬R q k):∀(d:D) (s:SV),j5 ok w R d s→Sx.ment k s=false
 |.v x,s,h=>by simp only[j5]at h;rw[h.1];rfl
 |.agg l,s,h=>by
  simp only[j5]at h;obtain⟨cs,h1,h2,_⟩:=h;have:=j9.ment hR l _ h2;cases s<;>simp[a4Y]at h1
  ·rfl
  ·subst h1;simpa[Sx.ment]using this
 |.lst z n l,s,h=>by simp only[j5]at h;obtain⟨y,rfl,_⟩:=h;rfl
 |.ptr l o,s,h=>by simp only[j5]at h;obtain⟨y,rfl,_⟩:=h;rfl
 |.own j o,s,h=>by
  simp only[j5]at h;rw[h.1];simp only[Sx.ment];cases hb:Nat.beq j k with
  |false=>rfl
  |true=>have:=z7 hb;subst this;exact absurd h.2 (hR _)
 |.ownx j o,s,h=>by
  simp only[j5]at h;rw[h.1];simp only[Sx.ment];cases hb:Nat.beq j k with
  |false=>rfl
  |true=>have:=z7 hb;subst this;exact absurd h.2 (hR _)
 |.row j z,s,h=>by
  simp only[j5]at h;rw[h.1];simp only[Sx.ment];cases hb:Nat.beq j k with
  |false=>rfl
  |true=>have:=z7 hb;subst this;exact absurd h.2 (hR _)
 |.elr j z i o,s,h=>by
  simp only[j5]at h;rw[h.1];simp only[Sx.ment];cases hb:Nat.beq j k with
  |false=>rfl
  |true=>have:=z7 hb;subst this;exact absurd h.2 (hR _)
 |.osl j o z n c,s,h=>by
  simp only[j5]at h;rw[h.1];simp only[Sx.ment];cases hb:Nat.beq j k with
  |false=>rfl
  |true=>have:=z7 hb;subst this;exact absurd h.2 (hR _)
 |.tup l,s,h=>by
  simp only[j5]at h;rcases h with⟨cs,rfl,h2⟩|⟨a,rfl,_⟩
  ·simpa[Sx.ment]using j9.ment hR l _ h2
  ·rfl
 |.fn f a b,s,h=>by
  simp only[j5]at h;rcases h with⟨p,q,rfl,h2,h3⟩|⟨p,q,rfl,_⟩
  ·simp only[Sx.ment,j9.ment hR a _ h2,j9.ment hR b _ h3]
  ·rfl
 |.mp l,s,h=>by simp only[j5]at h;obtain⟨y,rfl,_⟩:=h;rfl
 |.und,s,h=>by simp only[j5]at h;rw[h];rfl
 |.bad,s,h=>by simp only[j5]at h;rw[h];rfl
theorem j9.ment{ok:Nat→Prop}{w:World}{R:Bool→Nat→Prop}{k:Nat}(hR:∀q,¬R q k):∀(l:List D) (r:List SV),j9 ok w R l r→I2 k r=false
 |[],[],_=>rfl
 |d::l,y::r,h=>by
  simp only[j9]at h;simp only[I2,j5.ment hR d y h.1];exact j9.ment hR l r h.2
 |[],_::_,h=>by simp[j9]at h
 |_::_,[],h=>by simp[j9]at h
end
def okS(A:Nat→Prop)(st:St)(b:Nat):Prop:=((b<st.lo∨∃p,p∈st.iv∧p.1≤b∧b<p.2)∧A b)∧b<st.w.heap.size∧c1z st.H b
def B0(st:St)(q:Bool)(k:Nat):Prop:=k<st.nk∧(q=true→∃e,l4 st.H k=some e∧isR e=true)
def a3H(ok:Nat→Prop)(w:World)(R:Bool→Nat→Prop):E→Ent→Prop
 |.blk cs ty,.blk _ cs' ty'=>ty=ty'∧j9 ok w R cs cs'
 |.row z n l ty,.row _ n' xs z' ty'=>n=n'∧z=z'∧ty=ty'∧l5 ok w l xs∧B4 l=true∧l.length=n*z
 |.mp es ty,.mp _ es' ty'=>es=es'∧ty=ty'
 |_,_=>False
structure Sim(A:Nat→Prop)(st:St)(sy:Sy):Prop where
 T:∀d x,u0 sy.T d=some x→x=.bad∨∃s,A8 st.T d=some s∧j5 (okS A st) st.w (B0 st) x s
 H:∀k e,m7 sy.H k=some e→∃e',l4 st.H k=some e'∧a3H (okS A st) st.w (B0 st) e e'
 nk:sy.nk=st.nk
 fT:∀j,st.nk≤j→w8 j st.T=true
 fH:∀j,st.nk≤j→A7 j st.H=true
def b0X(H:Hp)(ok:Nat→Prop)(w:World)(R:Bool→Nat→Prop):a8B→Out→Prop
 |.val x,.val s=>j5 ok w R x s∧x≠ .bad
 |.new cs ty sl,.new cs' ty' sl'=>ty=ty'∧j9 ok w R cs cs'∧sl'=sl.map (·.2)
 |.newR l ty z n,.new cs' ty' sl'=>ty=ty'∧sl'=some n∧l.length=n*z∧n≤maxLen∧B4 l=true∧∃xs,cs'=vs xs∧l5 ok w l xs
 |.call f args,.call f' args'=>f=f'∧j9 ok w R args args'
 |.upd k cs,.upd k' cs'=>k=k'∧j9 ok w R cs cs'
 |.updR k l,.updR k' xs=>k=k'∧l5 ok w l xs∧B4 l=true∧∀v n ys z ty,l4 H k=some (.row v n ys z ty)→l.length=n*z
 |.app e z b s x,.app e' z' b' s' x'=>e=e'∧z=z'∧b=b'∧j5 ok w R s s'∧j5 ok w R x x'
 |_,_=>False
def cx(X:Cy)(w0:World)(bor:List Nat):Cx:=⟨X.P,X.tt,w0,bor,X.nt,X.pl,X.dfs,X.sv⟩
theorem c0v(n:Nat)(l:List D):dropD n l=l.drop n:=by
 induction n generalizing l with
 |zero=>rfl
 |succ n ih=>cases l with
  |nil=>rfl
  |cons x l=>simp[dropD,ih]
theorem b6B{n:Nat}{l r:List D}(h:takeD n l=some r):r.length=n∧r=l.take n∧ .bad∉r:=by
 induction n generalizing l r with
 |zero=>simp[takeD]at h;subst h;simp
 |succ n ih=>cases l with
  |nil=>simp[takeD]at h
  |cons d l=>
   have hd:d≠ .bad:=fun e=>by subst e;simp[takeD]at h
   have h':(match takeD n l with|some r=>some (d::r)|none=>none)=some r:=by
    cases d<;>first|exact h|exact absurd rfl hd
   split at h'
   ·rename_i q hq;cases h';obtain⟨h1,h2,h3⟩:=ih hq;exact⟨by simp[h1],by rw[List.take_succ_cons,←h2],by simp only[u9,not_or];exact⟨fun e=>hd e.symm,h3⟩⟩
   ·cases h'
theorem l5.part{ok:Nat→Prop}{w:World}{l r:List D}{xs:List Value}(h:l5 ok w l xs){n o:Nat}(hr:takeD n (dropD o l)=some r):l5 ok w r ((xs.drop o).take n)∧r.length=n∧(n=0∨o+n≤l.length):=by
 obtain⟨h1,h2,_⟩:=b6B hr;rw[c0v]at h2;refine⟨by rw[h2];exact(h.drop o).take n,h1,?_⟩;have:=Y7 List.length h2;simp at this;omega
theorem b7y{ok:Nat→Prop}{w:World}{R:Bool→Nat→Prop}{agg:Bool}{r:List D}{xs:List Value}{x:D}(h:l5 ok w r xs)(hx:mkD agg r=some x):∃s,a8k agg xs=some s∧j5 ok w R x s:=by
 unfold mkD at hx;split at hx
 ·split at hx
  ·rename_i hf;cases hx;refine⟨.agg (vs xs),rfl,?_⟩;simp only[j5];exact⟨vs xs,rfl,l5.rel _ _ h,hf⟩
  ·cases hx
 ·split at hx
  ·cases hx;cases xs with
   |nil=>simp[l5]at h
   |cons y xs=>cases xs with
    |nil=>simp only[l5]at h;exact⟨.v y,rfl,Rep.rel _ _ h.1⟩
    |cons=>simp[l5]at h
  ·cases hx
 ·cases hx
theorem c3E{agg:Bool}{r:List D}{x:D}(hx:mkD agg r=some x):x≠ .bad:=by
 unfold mkD at hx;split at hx
 ·split at hx<;>cases hx;simp
 ·split at hx
  ·rename_i ho;cases hx;intro e;subst e;simp[a6F]at ho
  ·cases hx
 ·cases hx
theorem a7g{l r:List D}(h:B4 l=true)(hs:∀d,d∈r→d∈l):B4 r=true:=M3 fun d hd=>A9 h (hs d hd)
theorem c3r{l:List D}{z n i:Nat}(hl:l.length=n*z)(hi:i<n):(el l z i).length=z:=by
 have:(i+1)*z≤n*z:=a1d z hi;rw[R7]at this;simp[el,hl];omega
theorem c2y{l:List D}{z i:Nat}{d:D}(h:d∈el l z i):d∈l:=a7n (a4M h)
theorem d0B{α:Type}{o:Nat}{xs l:List α}(h:o+xs.length≤l.length):over o xs l=some (l.take o++xs++l.drop (o+xs.length)):=by
 induction l generalizing o xs with
 |nil=>
  simp at h;obtain⟨rfl,rfl⟩:=h;rfl
 |cons x l ih=>cases o with
  |zero=>cases xs with
   |nil=>simp[over]
   |cons y xs=>simp only[over];rw[ih (by simp at h⊢;omega)];simp
  |succ o=>simp only[over];rw[ih (by simp at h⊢;omega)];simp[Nat.add_right_comm]
theorem b3R{α:Type}{o:Nat}{xs l r:List α}(h:over o xs l=some r):r.length=l.length:=by
 obtain⟨h1,h2⟩:=a9G h;rw[h1];simp;omega
theorem c2P{op:BinOp}{k:IntKind}{a b:Int}{K K':Out→Prop}(hK:∀o,K o→K' o)(h:b6u op k a b K):b6u op k a b K':=by
 cases op<;>simp only[b6u]at h⊢<;>first|exact hK _ h|exact⟨h.1,hK _ h.2⟩|exact h
theorem c3y{op:BinOp}{a b:ByteArray}{K K':Out→Prop}(hK:∀o,K o→K' o)(h:b6j op a b K):b6j op a b K':=by
 cases op<;>simp only[b6j]at h⊢<;>first|exact hK _ h|exact⟨h.1,hK _ h.2⟩|exact h
theorem b7O{op:BinOp}{k:IntKind}{a b:Int}{K K':Out→Prop}(hK:∀o,K o→K' o)(h:c3U op k a b K):c3U op k a b K':=by
 cases op<;>simp only[c3U]at h⊢<;>exact⟨h.1,hK _ h.2⟩
theorem a9l{op:BinOp}{e:Bool}{K K':Out→Prop}(hK:∀o,K o→K' o)(h:a5M op e K):a5M op e K':=by
 cases op<;>simp only[a5M]at h⊢<;>first|exact hK _ h|exact h
section
variable {A : Nat → Prop}{X : Cy}{w0 : World}{bor : List Nat}{st : St}{sy : Sy}{KY : a8B → Prop}{K : Out → Prop}
theorem o0(hs:Sim A st sy){x:Operand}{d:D}(h:evY sy x=some d):∃s,ev st x=some s∧j5 (okS A st) st.w (B0 st) d s∧d≠ .bad:=by
 cases x with
 |tmp t=>
  simp only[evY]at h;split at h
  ·cases h
  ·rename_i hb;have hne:d≠ .bad:=fun e=>hb (by rw[h,e])
   obtain⟨hlt,h⟩:=a4c h;rcases hs.T t d h with e|⟨s,h1,h2⟩
   ·exact absurd e hne
   ·refine⟨s,?_,h2,hne⟩;have hsb:=h2.ne hne;simp only[ev,a9r hlt,h1]
    try (cases s<;>first|rfl|exact absurd rfl hsb)
 |const v=>
  simp only[evY]at h;refine⟨.v v,rfl,?_⟩;unfold ofV at h;split at h
  ·rename_i a;split at h
   ·rename_i ha;cases h;refine⟨?_,by simp⟩;simp only[j5];refine⟨vs a.toList,rfl,?_,M3 fun d hd=>by simp at hd;obtain⟨x,_,rfl⟩:=hd;rfl⟩
    have:∀l:List Value,l.all a3T=true→j9 (okS A st) st.w (B0 st) (l.map D.v) (vs l):=by
     intro l
     induction l with
     |nil=>intro _;trivial
     |cons x l ih=>intro hl;simp at hl;exact⟨by simp only[j5];exact⟨trivial,hl.1⟩,ih (by simpa using hl.2)⟩
    exact this _ ha
   ·cases h
  ·cases h
  ·rename_i h1 h2;cases h;refine⟨?_,by simp⟩;simp only[j5];refine⟨trivial,?_⟩;unfold a3T;split
   ·exact absurd rfl (h1 _)
   ·exact absurd rfl (h2 _)
   ·rfl
 |func f=>simp only[evY]at h;cases h;exact⟨_,rfl,by simp only[j5];exact .inl ⟨[],[],rfl,trivial,trivial⟩,by simp⟩
 |global g=>simp[evY]at h
theorem a0d(hs:Sim A st sy){l:List Operand}{r:List D}(h:b0S sy l=some r):∃s,evs st l=some s∧j9 (okS A st) st.w (B0 st) r s:=by
 induction l generalizing r with
 |nil=>simp only[b0S]at h;cases h;exact⟨[],rfl,trivial⟩
 |cons x l ih=>
  simp only[b0S]at h;split at h
  ·rename_i d r' hd hr;cases h;obtain⟨s,h1,h2,_⟩:=o0 hs hd;obtain⟨s',h3,h4⟩:=ih hr;exact⟨s::s',by simp only[evs,h1,h3],h2,h4⟩
  ·cases h
theorem b8c(st:St):∀k,B0 st true k→∃e,l4 st.H k=some e∧isR e=true:=fun _ h=>h.2 rfl
variable (hK : ∀ oy o, b0X st.H (okS A st) st.w (B0 st) oy o → KY oy → K o)
include hK
theorem H4{x:D}{s:SV}(h:KY (.val x))(hr:j5 (okS A st) st.w (B0 st) x s)(hne:x≠ .bad):K (.val s):=hK (.val x) (.val s) ⟨hr,hne⟩ h
theorem a3I{o:Out}(h:b3L KY o):K o:=by
 unfold b3L at h;split at h
 ·rename_i x;split at h
  ·rename_i hx;refine hK (.val (.v x)) _ ⟨?_,by simp⟩ h;simp only[j5];exact⟨trivial,hx⟩
  ·exact h.elim
 ·exact h.elim
theorem b8X(hs:Sim A st sy){x:Operand}(h:a4I KY (evY sy x)):a9X K (ev st x):=by
 obtain⟨d,h1,h2⟩:=a3L h;obtain⟨s,h3,h4,h5⟩:=o0 hs h1;rw[h3];exact H4 hK h2 h4 h5
theorem b5K{agg:Bool}{l:List D}{r:List SV}(h:a4I KY (mkD agg l))(hr:j9 (okS A st) st.w (B0 st) l r):a9X K (mkv agg r):=by
 obtain⟨d,h1,h2⟩:=a3L h;obtain⟨s,h3,h4⟩:=c5g hr h1;rw[h3];exact H4 hK h2 h4 (c3E h1)
theorem c5z(hs:Sim A st sy){i:TI}{p:D}{s:SV}(h:c9j sy i p KY)(hr:j5 (okS A st) st.w (B0 st) p s):a9s (cx X w0 bor) st i s K:=by
 unfold c9j at h;split at h
 ·rename_i k o;simp only[j5]at hr;obtain⟨rfl,_⟩:=hr;split at h
  ·rename_i cs ty hf;obtain⟨e',hf',he⟩:=hs.H _ _ hf;cases e' with
   |row=>exact he.elim
   |mp=>exact he.elim
   |blk b cs' ty'=>
    split at h
    ·rename_i l hl;obtain⟨r,h1,h2⟩:=(he.2.dropD o).takeD hl;simp only[a9s,hf',h1];exact b5K hK h h2
    ·exact h.elim
  ·exact h.elim
 ·rename_i k o;simp only[j5]at hr;obtain⟨rfl,_⟩:=hr;split at h
  ·rename_i cs ty hf;obtain⟨e',hf',he⟩:=hs.H _ _ hf;cases e' with
   |row=>exact he.elim
   |mp=>exact he.elim
   |blk b cs' ty'=>
    obtain⟨l,hl,h⟩:=h;obtain⟨r,h1,h2⟩:=(he.2.dropD o).takeD hl;simp only[a9s,hf'];exact⟨r,h1,b5K hK h h2⟩
  ·exact h.elim
 ·rename_i k z j o;simp only[j5]at hr;obtain⟨rfl,_⟩:=hr;split at h
  ·rename_i z' n l ty hf;obtain⟨e',hf',he⟩:=hs.H _ _ hf;cases e' with
   |blk=>exact he.elim
   |mp=>exact he.elim
   |row v n' xs sz ty'=>
    obtain⟨rfl,rfl,rfl,hrep,hfl,hlen⟩:=he;split at h
    ·rename_i hz;obtain rfl:=z7 hz;obtain⟨cs,⟨rfl,hj⟩,h⟩:=h;split at h
     ·rename_i r hr hbl;have hbl:=J6 hbl;have hel:l5 (okS A st) st.w (el l z' j) ((xs.drop (j*z')).take z'):=(hrep.drop _).take _;obtain⟨h1,h2,h3⟩:=hel.part hr;obtain⟨x,hx,hkx⟩:=a3L h;obtain⟨s,h4,h5⟩:=b7y (R:=B0 st) h1 hx;simp only[a9s,hf'];have hle:=c3r hlen hj;have hjz:(j+1)*z'≤n*z':=a1d z' hj;rw[R7]at hjz;refine⟨_,⟨by rw[←h1.length,h2],by omega,fun jj hjj=>?_⟩,by rw[h4];exact H4 hK hkx h5 (c3E hx)⟩;rw[a5q,k9 hjj,b0r,a5q,k9 (by omega),b0r];congr 1;omega
     ·exact h.elim
    ·exact h.elim
  ·exact h.elim
 ·rename_i l o;simp only[j5,Rep]at hr;obtain⟨y,rfl,b,p,xs,rfl,hok,hfl,hrep,hmem⟩:=hr;split at h
  ·rename_i r hr;obtain⟨h1,h2,h3⟩:=hrep.part hr;obtain⟨x,hx,hkx⟩:=a3L h;obtain⟨s,h4,h5⟩:=b7y (R:=B0 st) h1 hx;simp only[a9s];refine⟨_,⟨by rw[←h1.length,h2],.inr ⟨hok.2.2,fun jj hjj=>?_⟩⟩,by rw[h4];exact H4 hK hkx h5 (c3E hx)⟩;rw[show p+o+jj=p+(o+jj) from by omega,hmem (o+jj) (by omega),a5q,k9 hjj,b0r]
  ·exact h.elim
 ·exact h.elim
theorem c3x(hs:Sim A st sy){i:TI}{p d:D}{s t:SV}(h:c3W sy i p d KY)(hr:j5 (okS A st) st.w (B0 st) p s)(hd:j5 (okS A st) st.w (B0 st) d t):b1g st i s t K:=by
 unfold c3W at h;split at h
 ·rename_i l hl;obtain⟨r,hc,hrl⟩:=hd.cells hl;split at h
  ·rename_i hn hfl;simp only[b1g,hc,←hrl.length,hn,hrl.one (b8c st) hfl];split at h
   ·rename_i k o;simp only[j5]at hr;obtain⟨rfl,_⟩:=hr;split at h
    ·rename_i cs ty hf;obtain⟨e',hf',he⟩:=hs.H _ _ hf;cases e' with
     |row=>exact he.elim
     |mp=>exact he.elim
     |blk b cs' ty'=>
      split at h
      ·rename_i q hq;obtain⟨q',h1,h2⟩:=he.2.over hrl hq;simp only[hf',h1];exact hK (.upd k q) _ ⟨rfl,h2⟩ h
      ·exact h.elim
    ·exact h.elim
   ·rename_i k o;simp only[j5]at hr;obtain⟨rfl,_⟩:=hr;split at h
    ·rename_i cs ty hf;obtain⟨e',hf',he⟩:=hs.H _ _ hf;cases e' with
     |row=>exact he.elim
     |mp=>exact he.elim
     |blk b cs' ty'=>
      obtain⟨q,hq,h⟩:=h;obtain⟨q',h1,h2⟩:=he.2.over hrl hq;simp only[hf'];exact⟨q',h1,hK (.upd k q) _ ⟨rfl,h2⟩ h⟩
    ·exact h.elim
   ·rename_i k z j o;simp only[j5]at hr;obtain⟨rfl,_⟩:=hr;split at h
    ·rename_i z' n q ty hf;obtain⟨e',hf',he⟩:=hs.H _ _ hf;cases e' with
     |blk=>exact he.elim
     |mp=>exact he.elim
     |row v n' xs sz ty'=>
      obtain⟨rfl,rfl,rfl,hrep,hfq,hlen⟩:=he;split at h
      ·rename_i hz hno;obtain rfl:=z7 hz;obtain⟨cs,⟨rfl,hj⟩,h⟩:=h;split at h
       ·rename_i cs' ho;obtain⟨r',rfl,h⟩:=h;obtain⟨vals,rfl,hv⟩:=hrl.vals hno;obtain⟨hcs,hle⟩:=a9G ho;have hel:=c3r hlen hj;have hjz:(j+1)*z'≤n*z':=a1d z' hj;rw[R7]at hjz;have hvl:=hv.length;have hxl:=hrep.length;have hov:over (j*z'+o) vals xs=some (xs.take (j*z'+o)++vals++xs.drop (j*z'+o+vals.length)):=d0B (by omega);simp only[hf'];refine⟨_,by rw[H9];exact hov,hK (.updR k _) _ ⟨rfl,?_,?_,fun v n ys z ty hq=>?_⟩ h⟩
        ·have e1:b1l q z' j cs'=q.take (j*z'+o)++l++q.drop (j*z'+o+l.length):=by
          rw[hcs];simp only[b1l,el]
          have a1:q.take (j*z'+o)=q.take (j*z')++((q.drop (j*z')).take z').take o:=by
           rw[List.take_add,a9w,a1Q (by omega)]
          have a2:q.drop (j*z'+o+l.length)=((q.drop (j*z')).take z').drop (o+l.length)++q.drop (j*z'+z'):=by
           rw[List.drop_take,List.drop_drop];have:q.drop (j*z'+z')=(q.drop (j*z'+(o+l.length))).drop (z'-(o+l.length)):=by rw[List.drop_drop];congr 1;omega
           rw[this,b0m];congr 1;omega
          rw[a1,a2];simp[a3z]
         rw[e1,←hvl];exact(((hrep.take _).app hv).app (hrep.drop _))
        ·refine M3 fun d hd=>?_
         simp only[b1l,hcs,E3]at hd;rcases hd with(hd|(hd|hd)|hd)|hd
         ·exact A9 hfq (a4M hd)
         ·exact A9 hfq (c2y (a4M hd))
         ·exact A9 hfl hd
         ·exact A9 hfq (c2y (a7n hd))
         ·exact A9 hfq (a7n hd)
        ·rw[hf']at hq;cases hq;have hcl:=b3R ho;simp only[b1l,O6,Z5,a7V,hcl,hel,hlen];omega
       ·exact h.elim
      ·exact h.elim
    ·exact h.elim
   ·exact h.elim
  ·exact h.elim
 ·exact h.elim
end
theorem b8p{i:Int}{f:Nat}:∀(l:List (Int×Nat)) (es:List MapEntry) (k:Nat),es.map (fun e=>(e.key,e.val))=l.map (fun p=>(Value.int .i64 p.1,Value.func (.func p.2) #[] #[]))→c0M l i=some f→
 ∃j,Instr.findNow (.int .i64) (.int .i64 i) es k=some (some (j,.func (.func f) #[] #[]))
 |[],_,_,_,h=>by simp[c0M]at h
 |(a,g)::l,[],_,he,_=>by simp at he
 |(a,g)::l,e::es,k,he,h=>by
  simp only[H7,a8w,a5l]at he;obtain⟨⟨h1,h2⟩,h3⟩:=he;have hs:Instr.sameNow (.int .i64) (.int .i64 i) e.key=some (i==a):=by rw[h1];simp[Instr.sameNow]
  simp only[c0M]at h;simp only[Instr.findNow,hs];cases hb:(i==a)with
  |true=>rw[hb]at h;cases h;exact⟨k,by rw[h2]⟩
  |false=>rw[hb]at h;exact b8p l es (k+1) h3 h
theorem c1A{ok:Nat→Prop}{w:World}{R:Bool→Nat→Prop}:∀ {l:List D}{kc:List Value}{cs:List SV},c0r l=some kc→j9 ok w R l cs→cs=vs kc
 |[],kc,cs,h,hr=>by
  simp only[c0r]at h;cases h;cases cs with
  |nil=>rfl
  |cons=>simp[j9]at hr
 |d::l,kc,cs,h,hr=>by
  cases cs with
  |nil=>simp[j9]at hr
  |cons c cs=>
   simp only[j9]at hr;cases d<;>simp only[c0r]at h<;>try cases h
   split at h
   ·rename_i r hr';cases h;have h2:=hr.1;simp only[j5]at h2;rw[h2.1,c1A hr' hr.2];rfl
   ·cases h
theorem c8C:∀ {a b:List Value},vs a=vs b→a=b
 |[],[],_=>rfl
 |x::a,y::b,h=>by simp only[vs,a8w,SV.v.injEq]at h;rw[h.1,c8C h.2]
 |[],_::_,h=>by simp[vs]at h
 |_::_,[],h=>by simp[vs]at h
theorem b1z{ok:Nat→Prop}{w:World}{R:Bool→Nat→Prop}{H:Hp}{ag:Bool}{kd:D}{kc:List Value}{s:SV}(h:a8O ag kd=some kc)(hr:j5 ok w R kd s):den H s=H3 ag kc:=by
 unfold a8O at h;split at h
 ·rename_i l;simp only[j5]at hr;obtain⟨cs,h1,h2,_⟩:=hr;have:=c1A h h2;subst this;cases s<;>simp[a4Y]at h1
  ·rename_i y;cases y<;>simp at h1;have:=c8C h1;simp[den,H3,←this]
  ·subst h1;simp[den,H3,H9]
 ·cases h;simp only[j5]at hr;rw[hr.1];simp[den,H3]
 ·cases h
section
variable {A : Nat → Prop}{ok : Nat → Prop}{w : World}{R : Bool → Nat → Prop}
theorem j5.int{k:IntKind}{a:Int}{s:SV}(h:j5 ok w R (.v (.int k a)) s):s=.v (.int k a):=by simp only[j5]at h;exact h.1
theorem j5.sc{x:Value}{s:SV}(h:j5 ok w R (.v x) s):s=.v x:=by simp only[j5]at h;exact h.1
theorem c4w{k:CK}{x y:D}{s t:SV}{e:Bool}(h:c6L k x y=some e)(h1:j5 ok w R x s)(h2:j5 ok w R y t):eqC k s t=some e:=by
 unfold c6L at h;split at h
 ·rw[h1.sc,h2.sc];exact h
 ·rw[h1.sc,h2.sc];exact h
 ·rw[h1.sc,h2.sc];exact h
 ·cases h
theorem c7m{ks : List CK}{l m : List D}{s t : List SV}{e : Bool}(h : a8v ks l m = some e)(h1 : j9 ok w R l s)(h2 : j9 ok w R m t) : a7S ks s t = some e := by
  induction ks generalizing l m s t e with
  | nil => cases l <;> cases m <;> simp[a8v] at h
           cases s <;> cases t <;> simp[j9] at h1 h2;simpa[a7S] using h
  | cons k ks ih =>
    cases l with
    | nil => cases m <;> simp[a8v] at h
    | cons x l => cases m with
      | nil => simp[a8v] at h
      | cons y m => cases s with
        | nil => simp[j9] at h1
        | cons s ss => cases t with
          | nil => simp[j9] at h2
          | cons t tt =>
            simp only[j9] at h1 h2
            have gen : ∀ {e}, (match c6L k x y, a8v ks l m with | some a, some b => some (a && b) | _, _ => none) = some e → (match eqC k s t, a7S ks ss tt with | some a, some b => some (a && b) | _, _ => none) = some e := by
              intro e h;split at h
              · rename_i a b ha hb;cases h;rw[c4w ha h1.1 h2.1, ih hb h1.2 h2.2]
              · cases h
            cases ks with
            | nil => cases l with
              | nil => cases m with
                | nil => cases ss <;> cases tt <;> simp[j9] at h1 h2
                         simp only[a8v] at h;simp only[a7S];exact c4w h h1 h2
                | cons => simp[a8v] at h
              | cons => cases m <;> simp[a8v] at h
            | cons k' ks' =>
              have e1 : a8v (k :: k' :: ks') (x :: l) (y :: m) = (match c6L k x y, a8v (k' :: ks') l m with | some a, some b => some (a && b) | _, _ => none) := by
                cases l <;> cases m <;> rfl
              have e2 : a7S (k :: k' :: ks') (s :: ss) (t :: tt) = (match eqC k s t, a7S (k' :: ks') ss tt with | some a, some b => some (a && b) | _, _ => none) := by
                cases ss <;> cases tt <;> rfl
              rw[e1] at h;rw[e2];exact gen h
theorem b5l{b:Bool}{x:D}{s:SV}{l:List D}(h:b4A b x=some l)(h1:j5 ok w R x s):(∃r,a8b b s=some r∧j9 ok w R l r)∧((b=true∧∃cs,a4Y s=some cs)∨(∃c,s=.v (.bool c))):=by
 unfold b4A at h;split at h
 ·cases h;simp only[j5]at h1;obtain⟨cs,h2,h3,_⟩:=h1;refine⟨⟨cs,?_,h3⟩,.inl ⟨rfl,cs,h2⟩⟩;cases s<;>simp[a4Y]at h2
  ·rename_i y;cases y<;>simp at h2;subst h2;rfl
  ·subst h2;rfl
 ·cases h;have:=h1.sc;subst this;exact⟨⟨_,rfl,h1,trivial⟩,.inr ⟨_,rfl⟩⟩
 ·cases h
theorem c1E{x:D}{s:SV}{l:List D}(h:c9p x=some l)(h1:j5 ok w R x s):∃r,a4Y s=some r∧j9 ok w R l r:=by
 unfold c9p at h;split at h
 ·cases h;simp only[j5]at h1;obtain⟨cs,h2,h3,_⟩:=h1;exact⟨cs,h2,h3⟩
 ·cases h
theorem b5i{x y:D}{s:SV}{off:Nat}(h:b4x x off=some y)(h1:j5 ok w R x s):∃t,b2O s off=some t∧j5 ok w R y t∧y≠ .bad:=by
 unfold b4x at h;split at h
 ·cases h;simp only[j5]at h1;obtain⟨rfl,h1⟩:=h1;exact⟨_,rfl,by simp only[j5];exact⟨trivial,h1⟩,by simp⟩
 ·cases h;simp only[j5]at h1;obtain⟨rfl,h1⟩:=h1;exact⟨_,rfl,by simp only[j5];exact⟨trivial,h1⟩,by simp⟩
 ·cases h;simp only[j5]at h1;obtain⟨rfl,h1⟩:=h1;exact⟨_,rfl,by simp only[j5];exact⟨by rw[Nat.add_assoc],h1⟩,by simp⟩
 ·cases h;simp only[j5,Rep]at h1;obtain⟨y,rfl,b,p,xs,rfl,h2,h3,h4,h5⟩:=h1;refine⟨_,rfl,?_,by simp⟩;simp only[j5,Rep];exact⟨_,rfl,b,p,xs,by rw[Nat.add_assoc],h2,h3,h4,h5⟩
 ·cases h
theorem c0T{x y:D}{s:SV}{off:Nat}(h:b5P x off=some y)(h1:j5 ok w R x s):∃t,b4H s off=some t∧j5 ok w R y t∧y≠ .bad:=by
 unfold b5P at h;split at h
 ·cases h;simp only[j5]at h1;obtain⟨rfl,h1⟩:=h1;exact⟨_,rfl,by simp only[j5];exact⟨trivial,h1⟩,by simp⟩
 ·cases h;simp only[j5]at h1;obtain⟨rfl,h1⟩:=h1;exact⟨_,rfl,by simp only[j5];exact⟨trivial,h1⟩,by simp⟩
 ·cases h;simp only[j5,Rep]at h1;obtain⟨y,rfl,b,p,xs,rfl,h2,h3,h4,h5⟩:=h1;refine⟨_,rfl,?_,by simp⟩;simp only[j5,Rep];exact⟨_,rfl,b,p,xs,by rw[Nat.add_assoc],h2,h3,h4,h5⟩
 ·cases h
theorem j9.one1{d:D}{s:List SV}(h:j9 ok w R [d] s):∃s1,s=[s1]∧j5 ok w R d s1:=by
 match s,h with
 |[s1],h=>exact⟨s1,rfl,h.1⟩
theorem j9.three{a b c:D}{s:List SV}(h:j9 ok w R [a,b,c] s):∃s1 s2 s3,s=[s1,s2,s3]∧j5 ok w R a s1∧j5 ok w R b s2∧j5 ok w R c s3:=by
 match s,h with
 |[s1,s2,s3],h=>exact⟨s1,s2,s3,rfl,h.1,h.2.1,h.2.2.1⟩
theorem j9.two{d e:D}{s:List SV}(h:j9 ok w R [d,e] s):∃s1 s2,s=[s1,s2]∧j5 ok w R d s1∧j5 ok w R e s2:=by
 match s,h with
 |[s1,s2],h=>exact⟨s1,s2,rfl,h.1,h.2.1⟩
theorem d1Q{l:List D}{z n b o:Nat}{i:Int}{xs:List Value}(hlen:l.length=n*z)(hfl:B4 l=true)(hok:ok b)(hrep:l5 ok w l xs)(hcell:∀j,j<n*z→w.cell? ⟨b,o+j,none⟩=xs[j]?)(h0:0≤i)(hlt:i<n):
 Rep ok w (.ptr (el l z i.toNat) 0) (.pointer (some ⟨b,o+i.toNat*z,none⟩)):=by
 have hj:i.toNat<n:=by omega
 have hel:=c3r hlen hj;have hjz:(i.toNat+1)*z≤n*z:=a1d z hj;rw[R7]at hjz;simp only[Rep];refine⟨b,o+i.toNat*z,(xs.drop (i.toNat*z)).take z,rfl,hok,a7g hfl fun d hd=>c2y hd,(hrep.drop _).take _,fun j hj=>?_⟩;rw[hel]at hj;rw[show o+i.toNat*z+j=o+(i.toNat*z+j) from by omega,hcell _ (by omega),a5q,k9 hj,b0r]
theorem c4q{l:List D}{z n p q c':Nat}{a a':Option Addr}{m:Nat}{xs:List Value}(hlen:l.length=n*z)(hmx:(n:Int)≤9223372036854775807)(hfl:B4 l=true)
 (hmem:c'=0∨∃b o xs,a=some ⟨b,o,none⟩∧ok b∧l5 ok w l xs∧∀j,j<n*z→w.cell? ⟨b,o+j,none⟩=xs[j]?) (hpq:p≤q) (hqn:q≤n) (hqc:q≤c') (ha':a'=c7r a p c' z):
 Rep ok w (.lst z (q-p) ((l.drop (p*z)).take ((q-p)*z))) (.slice a' (q-p) (c'-p)):=by
 simp only[Rep];have hqz:q*z≤n*z:=a1d z hqn;have hpz:p*z≤q*z:=a1d z hpq;refine⟨a',c'-p,rfl,by omega,by omega,by simp[hlen,Nat.sub_mul];omega,a7g hfl fun d hd=>a7n (a4M hd),?_⟩;rcases hmem with rfl|⟨b,o,xs,rfl,hok,hrep,hcell⟩
 ·left;omega
 ·right;have hq:(q-p)*z=q*z-p*z:=Nat.sub_mul ..;by_cases hpc:c'=p
  ·refine⟨b,o,(xs.drop (p*z)).take ((q-p)*z),?_,hok,(hrep.drop _).take _,fun j hj=>?_⟩
   ·rw[ha'];unfold c7r;rw[k9 hpc]
   ·have:q=p:=by omega
    subst this;simp at hj
  ·refine⟨b,o+p*z,(xs.drop (p*z)).take ((q-p)*z),?_,hok,(hrep.drop _).take _,fun j hj=>?_⟩
   ·rw[ha'];unfold c7r;rw[j6 hpc];simp[O8]
   ·rw[show o+p*z+j=o+(p*z+j) from by omega,hcell _ (by omega),a5q,k9 hj,b0r]
theorem c6K{X:Cx}{st:St}{x y:Operand}{s t:SV}{op:BinOp}{ty yt:TypeId}{K:Out→Prop}{n:Nat}{agg:Bool}{z:List Value}{ks:List CK}{d:TD}{l m:List SV}{e:Bool}(hs:ev st x=some s)(ht:ev st y=some t)
 (n1:∀k a,s≠ .v (.int k a)) (n2:∀a,s≠ .v (.string a)) (hi:D4 X.tt ty=some ⟨n,agg,z,some ks,d⟩) (hl:a8b agg s=some l) (hm:a8b agg t=some m) (he:a7S ks l m=some e) (h:a5M op e K):ev1 X st (.binOp op ty x y yt) K:=by
 simp only[ev1,hs,ht];split
 ·rename_i e1 _;cases e1;exact absurd rfl (n1 _ _)
 ·rename_i e1 _;cases e1;exact absurd rfl (n2 _)
 ·rename_i e1 e2;cases e1;cases e2;rw[hi];simp only[hl,hm,he];exact h
 ·rename_i hno;exact hno _ _ rfl rfl
theorem b8I{z:Nat}{st:Sy}:∀ {ps:List (Nat×Operand)}{l l':List D},a6B z st ps l=some l'→l'.length=l.length
 |[],l,l',h=>by simp only[a6B]at h;cases h;rfl
 |(i,x)::ps,l,l',h=>by
  simp only[a6B]at h;split at h
  ·split at h
   ·split at h
    ·split at h
     ·rename_i q hq;rw[b8I h,b3R hq]
     ·cases h
    ·cases h
   ·cases h
  ·cases h
theorem c7k(l:List Value):(vD l).length=l.length:=by
 induction l with
 |nil=>rfl
 |cons x l ih=>simp[vD,ih]
theorem c1X(n:Nat)(l:List D):(b4k n l).length=n*l.length:=by
 induction n with
 |zero=>simp[b4k]
 |succ n ih=>simp[b4k,ih,R7,Nat.add_comm]
theorem d2k(l:List Value):Z6 (vD l)=true:=by
 induction l with
 |nil=>rfl
 |cons x l ih=>simp only[vD,Z6,b8i];exact ih
theorem c5w{l r:List D}(h:Z6 l=true)(h':Z6 r=true):Z6 (l++r)=true:=by
 induction l with
 |nil=>exact h'
 |cons x l ih=>
  simp only[Z6]at h;simp only[a1l,Z6];cases hx:b8i x with
  |true=>rw[hx]at h;exact ih h
  |false=>rw[hx]at h;cases h
theorem d0h(n:Nat){l:List D}(h:Z6 l=true):Z6 (b4k n l)=true:=by
 induction n with
 |zero=>rfl
 |succ n ih=>exact c5w h ih
theorem a9L{l:List D}(h:Z6 l=true):B4 l=true:=M3 fun d hd=>by
 have:=c3j h hd;cases d<;>simp[b8i]at this<;>rfl
theorem c0O{l:List D}{r:List SV}(h:j9 ok w R l r)(n:Nat):j9 ok w R (b4k n l) (a6r n r):=by
 induction n with
 |zero=>trivial
 |succ n ih=>exact h.app ih
end
section
variable {A : Nat → Prop}{X : Cy}{w0 : World}{bor : List Nat}{st : St}{sy : Sy}{KY : a8B → Prop}{K : Out → Prop}
theorem b8w(hs:Sim A st sy){fs:List (Nat×Nat×Nat)}:∀ {ps:List (Nat×Operand)}{l l':List D}{r:List SV},b6b fs sy ps l=some l'→j9 (okS A st) st.w (B0 st) l r→
 ∃r',b4X fs st ps r=some r'∧j9 (okS A st) st.w (B0 st) l' r'
 |[],l,l',r,h,hr=>by simp only[b6b]at h;cases h;exact⟨r,rfl,hr⟩
 |(i,x)::ps,l,l',r,h,hr=>by
  simp only[b6b]at h;split at h
  ·rename_i a off n d hn hd;obtain⟨s,h1,h2,_⟩:=o0 hs hd;split at h
   ·rename_i cs hc;obtain⟨cs',h3,h4⟩:=h2.cells hc;split at h
    ·rename_i hl hf;split at h
     ·rename_i q hq;obtain⟨q',h5,h6⟩:=hr.over h4 hq;obtain⟨r',h7,h8⟩:=b8w hs h h6;refine⟨r',?_,h8⟩;simp only[b4X,hn,h1,h3,←h4.length,hl,h4.one (b8c st) hf,h5];exact h7
     ·cases h
    ·cases h
   ·cases h
  ·cases h
theorem b2Q(hs:Sim A st sy){z:Nat}:∀ {ps:List (Nat×Operand)}{l l':List D}{r:List SV},a6B z sy ps l=some l'→j9 (okS A st) st.w (B0 st) l r→
 ∃r',b1R z st ps r=some r'∧j9 (okS A st) st.w (B0 st) l' r'
 |[],l,l',r,h,hr=>by simp only[a6B]at h;cases h;exact⟨r,rfl,hr⟩
 |(i,x)::ps,l,l',r,h,hr=>by
  simp only[a6B]at h;split at h
  ·rename_i d hd;obtain⟨s,h1,h2,_⟩:=o0 hs hd;split at h
   ·rename_i cs hc;obtain⟨cs',h3,h4⟩:=h2.cells hc;split at h
    ·rename_i hl hf;split at h
     ·rename_i q hq;obtain⟨q',h5,h6⟩:=hr.over h4 hq;obtain⟨r',h7,h8⟩:=b2Q hs h h6;refine⟨r',?_,h8⟩;simp only[b1R,h1,h3,←h4.length,hl,h4.one (b8c st) hf,h5];exact h7
     ·cases h
    ·cases h
   ·cases h
  ·cases h
theorem b9r(hs:Sim A st sy){len cap cap':Nat}{lo hi mx:Option Operand}{B:Nat→Nat→Nat→Prop}{B':Nat→Nat→Nat→Prop}(hc:cap≤cap')(hlc:len≤cap)(h:c2D sy len cap lo hi mx B)
 (hB:∀a b m,a≤b→b≤cap→B a b m→B' a b cap'):bnd st len cap' lo hi mx B':=by
 unfold c2D at h;split at h
 ·split at h
  ·split at h
   ·exact hB _ _ _ (L0 _) hlc h
   ·split at h
    ·rename_i hl;obtain⟨s,h1,h2,_⟩:=o0 hs hl;have:=h2.sc;subst this;simp only[bnd,h1];refine⟨h.1,hB _ _ _ (by omega) hlc h.2⟩
    ·exact h.elim
  ·split at h
   ·rename_i hl;obtain⟨s,h1,h2,_⟩:=o0 hs hl;have:=h2.sc;subst this;simp only[bnd,h1];refine⟨⟨h.1.1,by omega⟩,?_⟩;replace h:=h;obtain⟨h0,h⟩:=h;split at h
    ·exact hB _ _ _ (L0 _) (by omega) h
    ·split at h
     ·rename_i hl2;obtain⟨s,h3,h4,_⟩:=o0 hs hl2;have:=h4.sc;subst this;simp only[h3];exact⟨h.1,hB _ _ _ (by omega) (by omega) h.2⟩
     ·exact h.elim
   ·exact h.elim
 ·exact h.elim
theorem c8S(hs:Sim A st sy){len cap cap':Nat}{lo hi:Option Operand}{m:Operand}{B:Nat→Nat→Prop}{B':Nat→Nat→Nat→Prop}(hc:cap≤cap')(h:d2b sy cap lo hi m B)
 (hB:∀a b x,a≤b→b≤x→x≤cap→B a b→B' a b x):bnd st len cap' lo hi (some m) B':=by
 unfold d2b at h;split at h
 ·rename_i hm;obtain⟨s,h1,h2,_⟩:=o0 hs hm;have:=h2.sc;subst this;obtain⟨h0,h⟩:=h;simp only[bnd,h1];refine⟨⟨h0.1,by omega⟩,?_⟩;split at h
  ·rename_i hh;obtain⟨s,h3,h4,_⟩:=o0 hs hh;have:=h4.sc;subst this;obtain⟨h5,h⟩:=h;simp only[h3];refine⟨h5,?_⟩;split at h
   ·exact hB _ _ _ (L0 _) (by omega) (by omega) h
   ·split at h
    ·rename_i hl;obtain⟨s,h6,h7,_⟩:=o0 hs hl;have:=h7.sc;subst this;simp only[h6];exact⟨h.1,hB _ _ _ (by omega) (by omega) (by omega) h.2⟩
    ·exact h.elim
  ·exact h.elim
 ·exact h.elim
variable (hK : ∀ oy o, b0X st.H (okS A st) st.w (B0 st) oy o → KY oy → K o)
include hK
theorem a3D{x:Value}(h:KY (.val (.v x)))(ho:a3T x=true):K (.val (.v x)):=H4 hK h (by simp only[j5];exact⟨trivial,ho⟩) (by simp)
theorem c0V(hs:Sim A st sy){b:Builtin}{args:List Operand}{tys:List TypeId}(h:b6C X sy b args tys KY):Q7 (cx X w0 bor) st b args tys K:=by
 unfold b6C at h;split at h
 ·split at h
  ·rename_i ht he;obtain⟨s,h1,h2⟩:=a0d hs he;obtain⟨s1,rfl,h3⟩:=h2.one1;have:=h3.sc;subst this;simp only[Q7,cx,ht,h1];exact a3D hK h rfl
  ·rename_i ht he;obtain⟨s,h1,h2⟩:=a0d hs he;obtain⟨s1,rfl,h3⟩:=h2.one1;simp only[j5,Rep]at h3;obtain⟨y,rfl,a,c,rfl,_⟩:=h3;simp only[Q7,cx,ht,h1];exact a3D hK h rfl
  ·rename_i ht he;obtain⟨s,h1,h2⟩:=a0d hs he;obtain⟨s1,rfl,h3⟩:=h2.one1;simp only[j5]at h3;obtain⟨rfl,_⟩:=h3;simp only[Q7,cx,ht,h1];exact a3D hK h rfl
  ·rename_i ht he;obtain⟨s,h1,h2⟩:=a0d hs he;obtain⟨s1,rfl,h3⟩:=h2.one1;simp only[j5]at h3;obtain⟨rfl,_⟩:=h3;split at h
   ·rename_i hf;obtain⟨e',hf',he⟩:=hs.H _ _ hf;cases e' with
    |blk=>exact he.elim
    |mp=>exact he.elim
    |row v n' xs z' ty'=>
     obtain⟨rfl,_⟩:=he;simp only[Q7,cx,ht,h1,hf'];exact a3D hK h rfl
   ·exact h.elim
  ·rename_i ht he;obtain⟨s,h1,h2⟩:=a0d hs he;obtain⟨s1,rfl,h3⟩:=h2.one1;have:=h3.sc;subst this;simp only[Q7,cx,ht,h1];exact a3D hK h rfl
  ·exact h.elim
 ·split at h
  ·rename_i he;obtain⟨s,h1,h2⟩:=a0d hs he;obtain⟨s1,s2,rfl,h3,h4⟩:=h2.two;have:=h3.sc;subst this;have:=h4.sc;subst this;simp only[Q7,h1];exact a3D hK h rfl
  ·rename_i he;obtain⟨s,h1,h2⟩:=a0d hs he;obtain⟨s1,s2,s3,rfl,h3,h4,h5⟩:=h2.three;have:=h3.sc;subst this;have:=h4.sc;subst this;have:=h5.sc;subst this;simp only[Q7,h1];exact a3D hK h rfl
  ·exact h.elim
 ·split at h
  ·rename_i he;obtain⟨s,h1,h2⟩:=a0d hs he;obtain⟨s1,s2,rfl,h3,h4⟩:=h2.two;have:=h3.sc;subst this;have:=h4.sc;subst this;simp only[Q7,h1];exact a3D hK h rfl
  ·exact h.elim
 ·split at h
  ·rename_i hb ht he;obtain⟨s,h1,h2⟩:=a0d hs he;obtain⟨s1,s2,rfl,h3,h4⟩:=h2.two;split at h
   ·rename_i i hi;split at h
    ·rename_i hn;simp only[Q7,cx,hb,ht,h1,hi,hn];exact hK _ _ (by exact⟨rfl,rfl,rfl,h3,h4⟩) h
    ·exact h.elim
   ·exact h.elim
  ·exact h.elim
 ·exact h.elim
theorem c5C{fs:List (Nat×Nat×Nat)}{f:Nat}{x:D}{s:SV}(h:c2X X fs f x KY)(hr:j5 (okS A st) st.w (B0 st) x s):b1u (cx X w0 bor) fs f s K:=by
 unfold c2X at h;split at h
 ·rename_i hn ha;obtain⟨r,h1,h2⟩:=c1E ha hr;split at h
  ·rename_i hi hq;obtain⟨q,h3,h4⟩:=(h2.dropD _).takeD hq;split at h
   ·rename_i hb;simp only[b1u,cx,hn,h1,hi,h3,hb];exact b5K hK h h4
   ·exact h.elim
  ·exact h.elim
 ·exact h.elim
theorem b7a(hz:∀t i,D4 X.tt t=some i→(∀x,x∈i.z→a3T x=true)∧i.z.length=i.n)(hs:Sim A st sy){t:TypeId}{l c:Operand}(h:y1 X sy (.makeSlice t l c) KY):ev1 (cx X w0 bor) st (.makeSlice t l c) K:=by
 simp only[y1]at h;split at h
 ·rename_i n0 agg0 z0 eq0 e esz bytes k1 p k2 q hi hl hc;obtain⟨s,h1,h2,_⟩:=o0 hs hl;obtain⟨u,h3,h4,_⟩:=o0 hs hc;have:=h2.sc;subst this;have:=h4.sc;subst this;split at h
  ·rename_i i hie;split at h
   ·rename_i hn;obtain⟨h0,l',n',⟨rfl,rfl⟩,h⟩:=h;simp only[ev1,cx,hi,h1,h3,hie,hn];have hzi:=hz _ _ hie;have hrel:j9 (okS A st) st.w (B0 st) (b4k p.toNat (vD i.z)) (a6r p.toNat (vs i.z)):=c0O (b5d hzi.1) _;have hno:Z6 (b4k p.toNat (vD i.z))=true:=d0h _ (d2k i.z);obtain⟨xs,hx,h5⟩:=hrel.vals hno;refine⟨h0,hK (.newR (b4k p.toNat (vD i.z)) e esz p.toNat) _ (by exact⟨rfl,rfl,by rw[c1X,c7k,hzi.2,z7 hn],by simp only[maxLen];omega,a9L hno,xs,hx,h5⟩) h⟩
   ·exact h.elim
  ·exact h.elim
 ·exact h.elim
theorem c0W(hs:Sim A st sy){x:Operand}{n:Nat}(h:y1 X sy (.extract x n) KY):ev1 (cx X w0 bor) st (.extract x n) K:=by
 simp only[y1]at h;cases hx:evY sy x with
 |none=>rw[hx]at h;exact h.elim
 |some d=>
  rw[hx]at h;obtain⟨s,h1,h2,_⟩:=o0 hs hx;cases d with
  |tup l=>
   simp only at h;simp only[j5]at h2;cases hq:dropD n l with
   |nil=>rw[hq]at h;exact h.elim
   |cons d r=>
    rw[hq]at h;have hne:d≠ .bad:=fun e=>by subst e;exact h.elim
    have hk:KY (.val d):=by cases d<;>first|exact h|exact absurd rfl hne
    rcases h2 with⟨cs,rfl,h2⟩|⟨a,rfl,h2⟩
    ·have h3:=h2.dropD n;rw[hq]at h3;simp only[ev1,h1];cases hq2:a2z n cs with
     |nil=>rw[hq2]at h3;simp[j9]at h3
     |cons q qs=>
      rw[hq2]at h3;have hqb:=h3.1.ne hne;have:=H4 hK hk h3.1 hne;cases q<;>first|exact this|exact absurd rfl hqb
    ·have h3:=h2.dropD n;rw[hq]at h3;simp only[ev1,h1];cases hq2:a2z n (vs a.toList)with
     |nil=>rw[hq2]at h3;simp[j9]at h3
     |cons q qs=>rw[hq2]at h3;exact H4 hK hk h3.1 hne
  |_=>exact h.elim
theorem b5I(hz:∀t i,D4 X.tt t=some i→(∀x,x∈i.z→a3T x=true)∧i.z.length=i.n)(hs:Sim A st sy){t:TypeId}{n:Nat}{ps:Array (Nat×Operand)}(h:y1 X sy (.buildSlice t n ps) KY):ev1 (cx X w0 bor) st (.buildSlice t n ps) K:=by
 simp only[y1]at h;cases hi:D4 X.tt t with
 |none=>rw[hi]at h;exact h.elim
 |some i=>
  rw[hi]at h;obtain⟨in_,agg,iz,ieq,d⟩:=i;cases d with
  |slice e esz bytes=>
   simp only at h;cases hie:D4 X.tt e with
   |none=>rw[hie]at h;exact h.elim
   |some i=>
    rw[hie]at h;simp only at h;cases hb:Nat.ble (n*esz) 16777216 with
    |false=>rw[hb]at h;exact h.elim
    |true=>
     rw[hb]at h;cases hn:Nat.beq i.n esz with
     |false=>rw[hn]at h;exact h.elim
     |true=>
      rw[hn]at h;cases hl:a6B esz sy ps.toList (b4k n (vD i.z))with
      |none=>rw[hl]at h;exact h.elim
      |some l=>
       rw[hl]at h;simp only at h;obtain⟨r,h1,h2⟩:=b2Q hs hl (c0O (b5d (hz _ _ hie).1) _);simp only[ev1,cx,hi,hie,hb,hn,h1];have hlen:l.length=n*esz:=by rw[b8I hl,c1X,c7k,(hz _ _ hie).2,z7 hn]
       cases hno:Z6 l with
       |false=>rw[hno]at h;exact hK (.new l e (some (esz,n))) _ (by exact⟨rfl,h2,rfl⟩) (by cases Nat.ble n 16777216<;>exact h)
       |true=>
        rw[hno]at h;cases hbn:Nat.ble n 16777216 with
        |false=>rw[hbn]at h;exact hK (.new l e (some (esz,n))) _ (by exact⟨rfl,h2,rfl⟩) h
        |true=>
         rw[hbn]at h;obtain⟨l',n',⟨rfl,rfl⟩,h⟩:=h;obtain⟨xs,rfl,h3⟩:=h2.vals hno;exact hK (.newR l e esz n) _ (by exact⟨rfl,rfl,hlen,(by have:=J6 hbn;simp only[maxLen];omega),a9L hno,xs,rfl,h3⟩) h
  |_=>exact h.elim
theorem c3C(hs:Sim A st sy){t:TypeId}{x ix:Operand}{ok:Bool}(h:y1 X sy (.lookup t x ix ok) KY):ev1 (cx X w0 bor) st (.lookup t x ix ok) K:=by
 simp only[y1]at h;split at h
 ·rename_i l hx;obtain⟨s,h1,h2,_⟩:=o0 hs hx;split at h
  ·rename_i i hi;obtain⟨hT,f,hf,hk⟩:=h;obtain⟨s',h3,h4,_⟩:=o0 hs hi;have:=h4.sc;subst this;simp only[j5,Rep]at h2;obtain⟨y,rfl,r,es,c,rfl,hok,hb,he⟩:=h2;obtain⟨j,hj⟩:=b8p l es.toList 0 he hf;simp only[ev1,h1,h3];exact⟨hT,es,c,j,_,.inr ⟨hok.2.2,hb⟩,hj,H4 hK hk (by simp only[j5];exact .inr ⟨#[], #[],rfl,trivial,trivial⟩) (by simp)⟩
  ·exact h.elim
 ·rename_i k z0 hx;obtain⟨s,h1,h2,_⟩:=o0 hs hx;simp only[j5]at h2;obtain⟨rfl,_⟩:=h2;split at h
  ·rename_i kd es m hi hf;obtain⟨hm,kc,v,b,⟨hkc,hty,hv,hb,hpl⟩,hk⟩:=h;obtain⟨s',h3,h4,_⟩:=o0 hs hi;obtain⟨e',hf',he⟩:=hs.H _ _ hf;cases e' with
   |blk=>exact he.elim
   |row=>exact he.elim
   |mp bl es' m'=>
    obtain⟨rfl,rfl⟩:=he;simp only[ev1,h1,h3,hf'];have h1v:a3T v=true:=by cases v<;>first|rfl|simp[plV]at hpl
    refine⟨hm,kc,v,b,⟨b1z hkc h4,hty,hv,hb⟩,H4 hK hk ?_ (by cases ok<;>simp)⟩;cases ok with
    |true=>
     simp only[j5];exact .inl ⟨_,rfl,by simp only[j9,j5];exact⟨⟨trivial,h1v⟩,⟨trivial,rfl⟩,trivial⟩⟩
    |false=>simp only[j5];exact⟨trivial,h1v⟩
  ·exact h.elim
 ·exact h.elim
theorem c6V(hs:Sim A st sy){c:Call}(h:y1 X sy (.call c) KY):ev1 (cx X w0 bor) st (.call c) K:=by
 obtain⟨callee,args,tys⟩:=c;cases callee with
 |value f=>
  simp only[y1]at h;cases hf:evY sy f with
  |none=>rw[hf]at h;exact h.elim
  |some d=>
   rw[hf]at h;cases d with
   |fn g l caps=>
    try simp only at h
    cases ha:b0S sy args.toList with
    |none=>rw[ha]at h;exact h.elim
    |some as=>
     rw[ha]at h
     try simp only at h
     obtain⟨s,h1,h2,_⟩:=o0 hs hf;obtain⟨t,h3,h4⟩:=a0d hs ha;simp only[j5]at h2;rcases h2 with⟨p,q,rfl,h5,h6⟩|⟨p,q,rfl,h5,h6⟩
     ·simp only[ev1,h1,h3];exact hK (.call g _) _ (by exact⟨rfl,h5.app (h4.app h6)⟩) h
     ·simp only[ev1,h1,h3];exact hK (.call g _) _ (by exact⟨rfl,h5.app (h4.app h6)⟩) h
   |_=>exact h.elim
 |builtin b=>
  simp only[y1]at h;simp only[ev1];exact c0V hK hs h
 |_=>exact h.elim
theorem c3A(hz:∀t i,D4 X.tt t=some i→(∀x,x∈i.z→a3T x=true)∧i.z.length=i.n)(hs:Sim A st sy){op:Op}(h:y1 X sy op KY):ev1 (cx X w0 bor) st op K:=by
 unfold y1 at h;split at h
 ·exact b8X hK hs h
 ·exact b8X hK hs h
 ·split at h
  ·rename_i hc;obtain⟨s,h1,h2,_⟩:=o0 hs hc;have:=h2.sc;subst this;simp only[ev1,h1];rename_i t _;cases t
   ·exact b8X hK hs h
   ·exact b8X hK hs h
  ·exact h.elim
 ·split at h
  ·rename_i i hi;simp only[ev1,cx,hi];exact hK _ _ (by exact⟨rfl,b5d (hz _ _ hi).1,rfl⟩) h
  ·exact h.elim
 ·split at h
  ·rename_i i d hi hd;obtain⟨s,h1,h2,_⟩:=o0 hs hd;split at h
   ·rename_i l hl;obtain⟨r,h3,h4⟩:=h2.cells hl;split at h
    ·rename_i hf;simp only[ev1,cx,hi,h1,h3,h4.one (b8c st) hf];exact hK _ _ (by exact⟨rfl,h4,rfl⟩) h
    ·exact h.elim
   ·exact h.elim
  ·exact h.elim
 ·split at h
  ·rename_i i d hi hd;obtain⟨s,h1,h2,_⟩:=o0 hs hd;simp only[ev1,h1];simp only[cx,hi];exact c5z (X:=X) (w0:=w0) (bor:=bor) hK hs h h2
  ·exact h.elim
 ·split at h
  ·rename_i i d e hi hd he;obtain⟨s,h1,h2,_⟩:=o0 hs hd;obtain⟨t,h3,h4,_⟩:=o0 hs he;simp only[ev1,cx,hi,h1,h3];exact c3x hK hs h h2 h4
  ·exact h.elim
 ·split at h
  ·rename_i hd;obtain⟨s,h1,h2,h3⟩:=o0 hs hd;have h2':=h2;simp only[j5]at h2;obtain⟨rfl,_⟩:=h2;simp only[ev1,h1];exact H4 hK h h2' h3
  ·rename_i hd;obtain⟨s,h1,h2,h3⟩:=o0 hs hd;have h2':=h2;simp only[j5]at h2;obtain⟨rfl,_⟩:=h2;simp only[ev1,h1];exact H4 hK h h2' h3
  ·rename_i hd;obtain⟨s,h1,h2,h3⟩:=o0 hs hd;have h2':=h2;simp only[j5]at h2;obtain⟨rfl,_⟩:=h2;simp only[ev1,h1];exact H4 hK h h2' h3
  ·rename_i hd;obtain⟨s,h1,h2,h3⟩:=o0 hs hd;have h2':=h2;simp only[j5,Rep]at h2;obtain⟨y,rfl,b,p,xs,rfl,_⟩:=h2;simp only[ev1,h1];exact H4 hK h h2' h3
  ·exact h.elim
 ·split at h
  ·rename_i hi hd;obtain⟨s,h1,h2,_⟩:=o0 hs hd;split at h
   ·rename_i hn;obtain⟨y,h3,h4⟩:=a3L h;obtain⟨t,h5,h6,h7⟩:=b5i h3 h2;simp only[ev1,cx,hi,h1,hn,h5];exact H4 hK h4 h6 h7
   ·exact h.elim
  ·exact h.elim
 ·split at h
  ·rename_i hi hd;obtain⟨s,h1,h2,_⟩:=o0 hs hd;simp only[ev1,h1];simp only[cx,hi];exact c5C (X:=X) (w0:=w0) (bor:=bor) hK h h2
  ·exact h.elim
 ·--indexAddr
  split at h
  ·rename_i hi hd hx;obtain⟨s,h1,h2,_⟩:=o0 hs hd;obtain⟨t,h3,h4,_⟩:=o0 hs hx;have:=h4.sc;subst this;split at h
   ·rename_i hz;obtain rfl:=z7 hz;obtain⟨cs,⟨rfl,h0,hlt⟩,h⟩:=h;simp only[j5,Rep]at h2;obtain⟨y,rfl,a,c,rfl,hnc,hmx,hlen,hfl,hmem⟩:=h2;simp only[ev1,cx,hi,h1,h3];rcases hmem with rfl|⟨b,o,xs,rfl,hok,hrep,hcell⟩
    ·omega
    ·refine⟨b,o,⟨rfl,h0,hlt⟩,H4 hK h ?_ (by simp)⟩;simp only[j5];exact⟨_,rfl,d1Q hlen hfl hok hrep hcell h0 hlt⟩
   ·exact h.elim
  ·rename_i hi hd hx;obtain⟨s,h1,h2,_⟩:=o0 hs hd;obtain⟨t,h3,h4,_⟩:=o0 hs hx;have:=h4.sc;subst this;simp only[j5]at h2;obtain⟨rfl,h2⟩:=h2;split at h
   ·rename_i hz;obtain rfl:=z7 hz;simp only[ev1,cx,hi,h1,h3];exact⟨h.1,H4 hK h.2 (by simp only[j5];exact⟨trivial,h2⟩) (by simp)⟩
   ·exact h.elim
  ·rename_i hi hd hx;obtain⟨s,h1,h2,_⟩:=o0 hs hd;obtain⟨t,h3,h4,_⟩:=o0 hs hx;have:=h4.sc;subst this;simp only[j5]at h2;obtain⟨rfl,h2⟩:=h2;split at h
   ·rename_i hz hf;obtain rfl:=z7 hz;obtain⟨e',hf',he⟩:=hs.H _ _ hf;cases e' with
    |blk=>exact he.elim
    |mp=>exact he.elim
    |row v n' xs z' ty'=>
     obtain⟨rfl,_⟩:=he;split at h
     ·rename_i hz2;simp only[ev1,cx,hi,h1,h3,hf'];exact⟨h.1,H4 hK h.2 (by simp only[j5];exact⟨rfl,h2⟩) (by simp)⟩
     ·exact h.elim
   ·exact h.elim
  ·omega
  ·rename_i hi hd hx;obtain⟨s,h1,h2,_⟩:=o0 hs hd;obtain⟨t,h3,h4,_⟩:=o0 hs hx;have:=h4.sc;subst this;obtain⟨h0,h⟩:=h;obtain⟨y,h5,h6⟩:=a3L h;simp only[ev1,cx,hi,h1,h3];refine⟨h0,?_⟩;split at h5
   ·obtain⟨u,h7,h8,h9⟩:=b5i h5 h2;rename_i hc;simp only[hc,h7];exact H4 hK h6 h8 h9
   ·obtain⟨u,h7,h8,h9⟩:=c0T h5 h2;rename_i hc;simp only[hc,h7];exact H4 hK h6 h8 h9
  ·exact h.elim
 ·--index
  split at h
  ·rename_i hi hd hx;obtain⟨s,h1,h2,_⟩:=o0 hs hd;obtain⟨t,h3,h4,_⟩:=o0 hs hx;have:=h4.sc;subst this;have:=h2.sc;subst this;obtain⟨c,h0,h⟩:=h;simp only[ev1,cx,hi,h1,h3];exact⟨c,h0,a3D hK h rfl⟩
  ·rename_i hi hd hx;obtain⟨s,h1,h2,_⟩:=o0 hs hd;obtain⟨t,h3,h4,_⟩:=o0 hs hx;have:=h4.sc;subst this;split at h
   ·rename_i ha hti;obtain⟨r,h5,h6⟩:=c1E ha h2;obtain⟨h0,h⟩:=h;simp only[ev1,cx,hi,h1,h3,h5,hti];refine⟨h0,?_⟩;split at h
    ·rename_i _ hb;split at h
     ·rename_i hq;obtain⟨q,h7,h8⟩:=(h6.dropD _).takeD hq;simp only[hb,h7];exact b5K hK h h8
     ·exact h.elim
    ·rename_i _ hb;obtain⟨r,hq,h⟩:=h;obtain⟨q,h7,h8⟩:=(h6.dropD _).takeD hq;simp only[hb,h7];exact b5K hK h h8
    ·exact h.elim
   ·exact h.elim
  ·exact h.elim
 ·--binOp
  split at h
  ·rename_i hx hy;obtain⟨s,h1,h2,_⟩:=o0 hs hx;obtain⟨t,h3,h4,_⟩:=o0 hs hy;have:=h2.sc;subst this;have:=h4.sc;subst this;simp only[ev1,h1,h3];generalize hb1:d1R _=b1 at h⊢;generalize hb2:kEq _ _=b2 at h⊢;cases b1<;>cases b2<;>simp only at h⊢
   ·exact c2P (fun o ho=>a3I hK ho) h
   ·exact b7O (fun o ho=>a3I hK ho) h
   ·exact b7O (fun o ho=>a3I hK ho) h
  ·rename_i hx hy;obtain⟨s,h1,h2,_⟩:=o0 hs hx;obtain⟨t,h3,h4,_⟩:=o0 hs hy;have:=h2.sc;subst this;have:=h4.sc;subst this;simp only[ev1,h1,h3];exact c3y (fun o ho=>a3I hK ho) h
  ·rename_i hx hy;obtain⟨s,h1,h2,_⟩:=o0 hs hx;obtain⟨t,h3,h4,_⟩:=o0 hs hy;split at h
   ·rename_i hi;split at h
    ·rename_i hl hm;obtain⟨⟨l',h5,h6⟩,h7⟩:=b5l hl h2;obtain⟨⟨m',h8,h9⟩,h10⟩:=b5l hm h4;split at h
     ·rename_i e he;have he':=c7m he h6 h9
      have nots:(∀k a,s≠ .v (.int k a))∧(∀a,s≠ .v (.string a)):=by
       rcases h7 with⟨_,cs,hcs⟩|⟨c,rfl⟩
       ·exact⟨fun k a e=>by subst e;simp[a4Y]at hcs,fun a e=>by subst e;simp[a4Y]at hcs⟩
       ·exact⟨fun k a e=>(by cases e),fun a e=>(by cases e)⟩
      exact c6K h1 h3 nots.1 nots.2 hi h5 h8 he' (a9l (fun o ho=>a3I hK ho) h)
     ·exact h.elim
    ·exact h.elim
   ·rename_i hi;split at h
    ·simp only[j5,Rep]at h2;obtain⟨y,rfl,a,c,rfl,hnc,hmx,hlen,hfl,hmem⟩:=h2;have:=h4.sc;subst this;simp only[ev1,cx,h1,h3,hi];refine a9l (fun o ho=>a3I hK ho) (h a.isNone fun hb=>?_);rcases hmem with rfl|⟨b,o,xs,rfl,_⟩
     ·omega
     ·cases hb
    ·have:=h2.sc;subst this;have:=h4.sc;subst this;simp only[ev1,cx,h1,h3,hi];exact a9l (fun o ho=>a3I hK ho) h
    ·exact h.elim
   ·exact h.elim
  ·exact h.elim
 ·split at h
  ·rename_i hx;obtain⟨s,h1,h2,_⟩:=o0 hs hx;have:=h2.sc;subst this;simp only[ev1,h1];exact a3D hK h rfl
  ·rename_i hx;obtain⟨s,h1,h2,_⟩:=o0 hs hx;have:=h2.sc;subst this;simp only[ev1,h1];exact a3D hK h rfl
  ·exact h.elim
 ·split at h
  ·rename_i h1 h2 hx;obtain⟨s,g1,g2,_⟩:=o0 hs hx;have:=g2.sc;subst this;simp only[ev1,cx,h1,h2,g1];exact a3D hK h rfl
  ·exact h.elim
 ·exact c0W hK hs (by simpa only[y1]using h)
 ·split at h
  ·rename_i hl hc;obtain⟨l',h1,h2⟩:=a0d hs hl;obtain⟨c',h3,h4⟩:=a0d hs hc;simp only[ev1,h1,h3];exact H4 hK h (by simp only[j5];exact .inl ⟨_,_,rfl,h2,h4⟩) (by simp)
  ·exact h.elim
 ·split at h
  ·rename_i hi;split at h
   ·rename_i l hl;have hzz:=(hz _ _ hi).1;obtain⟨r,h1,h2⟩:=b8w hs hl (b5d hzz);split at h
    ·rename_i hf;simp only[ev1,cx,hi,h1];exact H4 hK h (by simp only[j5];exact⟨r,rfl,h2,hf⟩) (by simp)
    ·exact h.elim
   ·exact h.elim
  ·rename_i hi;split at h
   ·rename_i l hl;have hzz:=(hz _ _ hi).1;obtain⟨r,h1,h2⟩:=b2Q hs hl (b5d hzz);split at h
    ·rename_i hf;simp only[ev1,cx,hi,h1];exact H4 hK h (by simp only[j5];exact⟨r,rfl,h2,hf⟩) (by simp)
    ·exact h.elim
   ·exact h.elim
  ·exact h.elim
 ·exact b5I hK hz hs (by simpa only[y1]using h)
 ·exact b7a hK hz hs (by simpa only[y1]using h)
 ·split at h
  ·rename_i hi hd;obtain⟨s,h1,h2,_⟩:=o0 hs hd;split at h
   ·rename_i hzz;obtain rfl:=z7 hzz;simp only[j5,Rep]at h2;obtain⟨y,rfl,a,c,rfl,hnc,hmx,hlen,hfl,hmem⟩:=h2;simp only[ev1,cx,hi,h1];split at h
    ·refine b9r hs hnc (y6 _) h fun p q m hpq hqn hk a' ha'=>?_
     obtain⟨r,rfl,hk⟩:=hk;refine H4 hK hk ?_ (by simp);simp only[j5];exact⟨_,rfl,c4q (xs:=[]) (m:=0) hlen hmx hfl hmem hpq hqn (z6 hqn hnc) ha'⟩
    ·refine c8S hs hnc h fun p q x hpq hqx hxn hk a' ha'=>?_
     obtain⟨r,rfl,hk⟩:=hk;refine H4 hK hk ?_ (by simp);simp only[j5];exact⟨_,rfl,c4q (xs:=[]) (m:=0) hlen hmx hfl (hmem.imp (fun e=>by omega) id) hpq (z6 hqx hxn) hqx ha'⟩
   ·exact h.elim
  ·rename_i mx _ _ _ _ _ _ _ esz _ k z hi hd;obtain⟨s,h1,h2,_⟩:=o0 hs hd;simp only[j5]at h2;obtain⟨rfl,hkey⟩:=h2;split at h
   ·rename_i hzz hf;obtain rfl:=z7 hzz;obtain⟨h0,h⟩:=h
    have hmx:mx=none:=by
     cases mx with
     |none=>rfl
     |some m=>simp[c2D]at h
    subst hmx;obtain⟨e',hf',he⟩:=hs.H _ _ hf;cases e' with
    |blk=>exact he.elim
    |mp=>exact he.elim
    |row v n' xs z' ty'=>
     obtain⟨rfl,rfl,rfl,_⟩:=he;simp only[ev1,cx,hi,h1,hf'];refine⟨h0,fun c hnc=>b9r hs hnc (y6 _) h fun p q m hpq hqn hk=>?_⟩;refine H4 hK (hk (if c=p then 0 else p*z) ⟨?_,fun hp=>by subst hp;simp⟩) ?_ (by simp)
     ·by_cases hc:c=p
      ·left;omega
      ·right;rw[j6 hc]
     ·simp only[j5];exact⟨trivial,hkey.1,by simp⟩
   ·exact h.elim
  ·rename_i hi hd;obtain⟨s,h1,h2,_⟩:=o0 hs hd;have:=h2.sc;subst this;simp only[ev1,cx,hi,h1];rename_i mx _ _ _ _ _ _ _ _
   have hmx:mx=none:=by
    cases mx with
    |none=>rfl
    |some m=>simp[c2D]at h
   subst hmx;exact b9r hs (y6 _) (y6 _) h fun p q m _ _ hk=>a3D hK hk rfl
  ·rename_i len ety esz k hi hd;obtain⟨s,h1,h2,_⟩:=o0 hs hd;simp only[j5]at h2;obtain⟨rfl,hkey⟩:=h2;split at h
   ·split at h
    ·rename_i hf;obtain⟨e',hf',he⟩:=hs.H _ _ hf;cases e' with
     |row=>exact he.elim
     |mp=>exact he.elim
     |blk b cs ty=>
      simp only[ev1,cx,hi,h1,hf'];exact H4 hK h (by simp only[j5];exact⟨trivial,hkey⟩) (by simp)
    ·exact h.elim
   ·exact h.elim
  ·exact h.elim
 ·exact c3C hK hs (by simpa only[y1]using h)
 ·exact c6V hK hs (by simpa only[y1]using h)
 ·exact h.elim
end
mutual
def a3A(k:Nat):D→Bool
 |.own j _=>Nat.beq j k
 |.ownx j _=>Nat.beq j k
 |.row j _=>Nat.beq j k
 |.elr j _ _ _=>Nat.beq j k
 |.osl j _ _ _ _=>Nat.beq j k
 |.agg l=>a8M k l
 |.tup l=>a8M k l
 |.fn _ f c=>match a8M k f with|true=>true|false=>a8M k c
 |_=>false
def a8M(k:Nat):List D→Bool
 |[]=>false
 |s::l=>match a3A k s with|true=>true|false=>a8M k l
end
def b0g(k:Nat)(s:D):D:=match a3A k s with|true=>.bad|false=>s
def b6Q(k:Nat):List D→List D
 |[]=>[]
 |s::l=>b0g k s::b6Q k l
def b6s(k:Nat):E→E
 |.blk cs ty=>.blk (b6Q k cs) ty
 |e=>e
def a8g(k:Nat):Hy→Hy
 |[]=>[]
 |(j,e)::H=>(j,b6s k e)::a8g k H
def b5O(k:Nat):List D→(List D→Prop)→Prop
 |[],K=>K []
 |s::l,K=>match a3A k s with
  |true=>b5O k l fun l'=>K (.bad::l')
  |false=>b5O k l fun l'=>K (s::l')
def b1e(k:Nat):Hy→(Hy→Prop)→Prop
 |[],K=>K []
 |(j,.blk cs ty)::H,K=>b5O k cs fun cs'=>b1e k H fun H'=>K ((j,.blk cs' ty)::H')
 |(j,e)::H,K=>b1e k H fun H'=>K ((j,e)::H')
theorem b7E{k:Nat}:∀(l:List D) (K:List D→Prop),b5O k l K=K (b6Q k l)
 |[],K=>rfl
 |s::l,K=>by
  simp only[b5O,b6Q,b0g];cases a3A k s<;>simp only[b7E l]
theorem a9H{k:Nat}:∀(H:Hy) (K:Hy→Prop),b1e k H K=K (a8g k H)
 |[],K=>rfl
 |(j,e)::H,K=>by
  cases e<;>simp only[b1e,a8g,b6s,b7E,a9H H]
def b0B(k:Nat)(T:List (Nat×D))(K:List (Nat×D)→Prop):Prop:=match T with
 |[]=>K []
 |(d,s)::T=>match a3A k s with
  |true=>b0B k T fun T'=>K ((d,.bad)::T')
  |false=>b0B k T fun T'=>K ((d,s)::T')
def b6Z:Hy→Nat→E→(Hy→Prop)→Prop
 |[],_,_,_=>False
 |(k',e')::H,k,e,K=>match Nat.beq k' k with
  |true=>K ((k',e)::H)
  |false=>b6Z H k e fun H'=>K ((k',e')::H')
mutual
def fzO(k:Nat)(e:E):D→Option D
 |.own j o=>match Nat.beq j k with
  |false=>some (.own j o)
  |true=>match e with|.blk cs _=>some (.ptr cs o)|_=>none
 |.ownx j o=>match Nat.beq j k with|false=>some (.ownx j o)|true=>none
 |.row j z=>match Nat.beq j k with
  |false=>some (.row j z)
  |true=>match e with|.row z' n l _=>some (.lst z' n l)|_=>none
 |.elr j z i o=>match Nat.beq j k with|false=>some (.elr j z i o)|true=>none
 |.osl j o z n c=>match Nat.beq j k with
  |false=>some (.osl j o z n c)
  |true=>match e with
   |.blk cs _=>match takeD (n*z) (dropD o cs),Nat.ble n c,Nat.ble n 9223372036854775807 with|some l,true,true=>some (.lst z n l)|_,_,_=>none
   |_=>none
 |.agg l=>match fzL k e l with|some l'=>some (.agg l')|none=>none
 |.tup l=>match fzL k e l with|some l'=>some (.tup l')|none=>none
 |.fn f a b=>match fzL k e a,fzL k e b with|some a',some b'=>some (.fn f a' b')|_,_=>none
 |.v x=>some (.v x)
 |.lst z n l=>some (.lst z n l)
 |.ptr l o=>some (.ptr l o)
 |.mp l=>some (.mp l)
 |.und=>some .und
 |.bad=>none
def fzL(k:Nat)(e:E):List D→Option (List D)
 |[]=>some []
 |x::l=>match fzO k e x,fzL k e l with|some y,some r=>some (y::r)|_,_=>none
end
def fzG(k:Nat)(e:E)(x:D):D:=match fzO k e x with|some y=>y|none=>.bad
def fzT(k:Nat)(e:E):List (Nat×D)→List (Nat×D)
 |[]=>[]
 |(d,x)::T=>(d,fzG k e x)::fzT k e T
def fzC(k:Nat)(e:E):List D→List D
 |[]=>[]
 |x::l=>fzG k e x::fzC k e l
def fzE(k:Nat)(e:E):E→E
 |.blk cs ty=>.blk (fzC k e cs) ty
 |x=>x
def fzH(k:Nat)(e:E):Hy→Hy
 |[]=>[]
 |(j,x)::H=>match Nat.beq j k with
  |true=>fzH k e H
  |false=>(j,fzE k e x)::fzH k e H
mutual
def a0T:D→Bool
 |.v _=>true
 |.lst _ _ _=>true
 |.ptr _ _=>true
 |.mp _=>true
 |.agg l=>match U3 l with|true=>B4 l|false=>false
 |.tup l=>U3 l
 |.fn _ a b=>match U3 a with|true=>U3 b|false=>false
 |_=>false
def U3:List D→Bool
 |[]=>true
 |x::l=>match a0T x with|true=>U3 l|false=>false
end
def okE:E→Bool
 |.blk cs _=>match U3 cs with|true=>B4 cs|false=>false
 |.row _ _ _ _=>true
 |.mp _ _=>false
def c8w(k:Nat)(e:E):List (Nat×D)→Option (List (Nat×D))
 |[]=>some []
 |(d,x)::T=>match fzO k e x with
  |some y=>match c8w k e T with
   |some T'=>some ((d,y)::T')
   |none=>none
  |none=>match c8w k e T with
   |some T'=>some ((d,.bad)::T')
   |none=>none
def c9m(k:Nat)(e:E):List D→Option (List D)
 |[]=>some []
 |x::l=>match fzO k e x with
  |some y=>match c9m k e l with
   |some l'=>some (y::l')
   |none=>none
  |none=>match c9m k e l with
   |some l'=>some (.bad::l')
   |none=>none
def c3Q(k:Nat)(e:E):Hy→Option Hy
 |[]=>some []
 |(j,x)::H=>match Nat.beq j k with
  |true=>c3Q k e H
  |false=>match x with
   |.blk cs ty=>match c9m k e cs with
    |some cs'=>match c3Q k e H with
     |some H'=>some ((j,.blk cs' ty)::H')
     |none=>none
    |none=>none
   |.row t c n m=>match c3Q k e H with
    |some H'=>some ((j,.row t c n m)::H')
    |none=>none
   |.mp es ty=>match c3Q k e H with
    |some H'=>some ((j,.mp es ty)::H')
    |none=>none
theorem c4F(k:Nat)(e:E):∀T,c8w k e T=some (fzT k e T)
 |[]=>rfl
 |(d,x)::T=>by
  simp only[c8w,c4F k e T,fzT,fzG];cases fzO k e x<;>rfl
theorem c5q(k:Nat)(e:E):∀l,c9m k e l=some (fzC k e l)
 |[]=>rfl
 |x::l=>by
  simp only[c9m,c5q k e l,fzC,fzG];cases fzO k e x<;>rfl
theorem c4M(k:Nat)(e:E):∀H,c3Q k e H=some (fzH k e H)
 |[]=>rfl
 |(j,x)::H=>by
  simp only[c3Q,c4M k e H,fzH];cases Nat.beq j k with
  |true=>rfl
  |false=>cases x<;>simp only[c5q,fzE]
def a5f:List Nat→Sy→List D→Option (Sy×List D)
 |[],st,l=>some (st,l)
 |k::ks,⟨T,H,nk⟩,l=>match m7 H k with
  |some e=>match okE e,fzL k e l with
   |true,some l'=>match c8w k e T with
    |some T'=>match c3Q k e H with
     |some H'=>a5f ks ⟨T',H',nk⟩ l'
     |none=>none
    |none=>none
   |_,_=>none
  |none=>none
mutual
def d3m:Nat→Hy→List Nat→D→List Nat
 |0,_,acc,_=>acc
 |n+1,H,acc,.own j _=>b5k n H acc j
 |n+1,H,acc,.ownx j _=>b5k n H acc j
 |n+1,H,acc,.row j _=>b5k n H acc j
 |n+1,H,acc,.elr j _ _ _=>b5k n H acc j
 |n+1,H,acc,.osl j _ _ _ _=>b5k n H acc j
 |n+1,H,acc,.agg l=>a7J n H acc l
 |n+1,H,acc,.tup l=>a7J n H acc l
 |n+1,H,acc,.fn _ a b=>match a7J n H acc a with
  |[]=>a7J n H [] b
  |y::r=>a7J n H (y::r) b
 |_,_,acc,_=>acc
def b5k:Nat→Hy→List Nat→Nat→List Nat
 |0,_,acc,_=>acc
 |n+1,H,acc,j=>match O2 j acc with
  |true=>acc
  |false=>match m7 H j with
   |some (.blk cs _)=>match a7J n H acc cs with
    |[]=>[j]
    |y::r=>j::y::r
   |_=>j::acc
def a7J:Nat→Hy→List Nat→List D→List Nat
 |0,_,acc,_=>acc
 |_+1,_,acc,[]=>acc
 |n+1,H,acc,x::l=>match d3m n H acc x with
  |[]=>a7J n H [] l
  |y::r=>a7J n H (y::r) l
end
def d3f:List Nat→List Nat→List Nat
 |[],acc=>acc
 |x::l,acc=>d3f l (x::acc)
def c4D(H:Hy)(l:List D):List Nat:=d3f (a7J 40 H [] l) []
mutual
def a6H:D→Bool
 |.v _=>true
 |.agg l=>c2n l
 |.tup l=>c2n l
 |_=>false
def c2n:List D→Bool
 |[]=>true
 |x::l=>match a6H x with|true=>c2n l|false=>false
end
def GN(nm:String)(o:Option Obj):Prop:=
 (nm= "internal/strconv.uint64pow10" →∃ty fr,o=some (.cells ((List.range 20).map fun i=>Value.int .u64 ((10^i:Nat):Int)).toArray ty fr))∧
 (nm= "strconv.ErrSyntax" ∨nm= "strconv.ErrRange" →∃tp p ty fr,o=some (.cells #[.iface tp p] ty fr))
structure GIW(P:Program)(w:World):Prop where
 size:P.globals.size≤w.heap.size
 var:∀(b:Nat) (g:Global),P.globals[b]?=some g→GN g.name w.heap[b]?
theorem GIW.pow10 {P:Program}{w:World} (h:GIW P w) {b:Nat}{g:Global} (hb:P.globals[b]?=some g) (hn:g.name= "internal/strconv.uint64pow10") (hg:P.globalNamed "internal/strconv.uint64pow10" =some b):
 w.var? P "internal/strconv.uint64pow10" =some ((List.range 20).map fun i=>Value.int .u64 ((10^i:Nat):Int)).toArray:=by
 obtain⟨ty,fr,h⟩:=(h.var b g hb).1 hn;unfold World.var?;rw[hg,j7,h]
theorem GIW.err {P:Program}{w:World} (h:GIW P w) {b:Nat}{g:Global} (hb:P.globals[b]?=some g) (hn:g.name= "strconv.ErrSyntax" ∨g.name= "strconv.ErrRange"):∃tp p,w.cell? ⟨b,0,none⟩=some (.iface tp p):=by
 obtain⟨tp,p,ty,fr,h⟩:=(h.var b g hb).2 hn;exact⟨tp,p,by simp[World.cell?,h]⟩
theorem GIW.same{P:Program}{w w':World}(h:GIW P w)(hs:w.heap.size≤w'.heap.size)(hb:∀b,b<P.globals.size→w'.heap[b]?=w.heap[b]?):GIW P w':=
 ⟨z6 h.size hs,fun b g hg=>by rw[hb b (Z8.1 hg).1];exact h.var b g hg⟩
theorem GIW.below{P:Program}{w w':World}(h:GIW P w)(hb:Below w.heap.size w w'):GIW P w':=h.same hb.size fun b hg=>hb.block b (C5 hg h.size)
structure AG(A:Nat→Prop)(P:Program)(w0:World)(bor:List Nat):Prop where
 a:∀b,(w0.heap.size≤b∨b∈bor)→A b
 g:GIW P w0
 n:∀b,b∈bor→P.globals.size≤b
theorem AG.fx{A:Nat→Prop}{P:Program}{w0 w:World}{bor:List Nat}(h:AG A P w0 bor)(hf:Fx bor w0 w):GIW P w:=
 h.g.same hf.size fun b hb=>hf.block b (C5 hb h.g.size) fun c hc e=>by have:=h.n c hc;omega
theorem AG.giw{A:Nat→Prop}{X:Cy}{w0 wc w:World}{bor:List Nat}{H:Hp}{nk:Nat}(h:AG A X.P w0 bor)(hc:Cls (cx X w0 bor) H nk w wc):GIW X.P wc:=h.fx hc.fx0
theorem AG.nil{P:Program}{w:World}(ok:Nat→Prop)(h:GIW P w):AG (fun b=>b<w.heap.size→ok b) P w []:=
 ⟨fun b hb hl=>(by
  rcases hb with hb|hb
  ·omega
  ·cases hb),h,fun b hb=>by cases hb⟩
theorem AG.lent{P:Program}{w:World}{v:Value}{ok:Nat→Prop}(h:GIW P w)(hn:∀b,b∈r6 v→¬ok b∧P.globals.size≤b):AG (fun b=>b<w.heap.size→ok b∨b∈r6 v) P w (r6 v):=
 ⟨fun b hb hl=>(by
  rcases hb with hb|hb
  ·omega
  ·exact .inr hb),h,fun b hb=>(hn b hb).2⟩
theorem AG.lb{A:Nat→Prop}{X:Cy}{w0 wc w:World}{bor:List Nat}{H:Hp}{nk b:Nat}(h:AG A X.P w0 bor)(hc:Cls (cx X w0 bor) H nk w wc)(hb:b∈bs H):X.P.globals.size≤b:=
 (hc.lb b hb).elim (h.n b) fun hb=>z6 h.g.size hb
def p0(P:Program)(f:FuncId)(args:List D)(Q:D→Prop):Prop:=
 ∀(ok:Nat→Prop) (w:World) (vs:List Value),l5 ok w args vs→(∀b,ok b→b<w.heap.size)→GIW P w→
  Calls P f vs.toArray w fun e w'=>∃v r,e=.returned v∧Q r∧Rep (fun b=>ok b∨(w.heap.size≤b∧b<w'.heap.size)) w' r v∧Below w.heap.size w w'
def O5(X:Cy)(st:Sy)(dst:Option Nat)(s:D)(K:Sy→Prop):Prop:=
 match dst with
 |none=>K st
 |some d=>match Nat.blt d X.nt,st with
  |true,⟨T,H,nk⟩=>K ⟨(d,s)::T,H,nk⟩
  |false,_=>False
mutual
def leD:D→D→Prop
 |.v x,y=>y=.v x∨(x=.slice none 0 0∧∃z,y=.lst z 0 [])
 |.agg l,y=>∃r,y=.agg r∧a4V l r
 |.tup l,y=>∃r,y=.tup r∧a4V l r
 |x,y=>x=y
def a4V:List D→List D→Prop
 |[],[]=>True
 |x::l,y::r=>leD x y∧a4V l r
 |_,_=>False
end
mutual
def a2w(n:Nat):D→D
 |.row k z=>match Nat.blt k n with|true=>.row k z|false=>.v (.slice none 0 0)
 |.agg l=>.agg (a3o n l)
 |.tup l=>.tup (a3o n l)
 |.fn f a b=>.fn f (a3o n a) (a3o n b)
 |x=>x
def a3o(n:Nat):List D→List D
 |[]=>[]
 |x::l=>a2w n x::a3o n l
end
mutual
def inK(n:Nat)(ks:List Nat):D→Bool
 |.own j _=>match Nat.blt j n with|true=>O2 j ks|false=>false
 |.ownx j _=>match Nat.blt j n with|true=>O2 j ks|false=>false
 |.row j _=>O2 j ks
 |.elr j _ _ _=>match Nat.blt j n with|true=>O2 j ks|false=>false
 |.osl j _ _ _ _=>match Nat.blt j n with|true=>O2 j ks|false=>false
 |.agg l=>c3g n ks l
 |.tup l=>c3g n ks l
 |.fn _ a b=>match c3g n ks a with|true=>c3g n ks b|false=>false
 |.bad=>false
 |_=>true
def c3g(n:Nat)(ks:List Nat):List D→Bool
 |[]=>true
 |x::l=>match inK n ks x with|true=>c3g n ks l|false=>false
end
def c9R(n:Nat)(ks:List Nat):List (Nat×D)→Bool
 |[]=>true
 |(_,x)::T=>match inK n ks x with|true=>c9R n ks T|false=>false
def c0j(n:Nat)(ks:List Nat):List D→Bool
 |[]=>true
 |.bad::l=>c0j n ks l
 |x::l=>match inK n ks x,a6F x with|true,true=>c0j n ks l|_,_=>false
def b4g(n:Nat)(ks:List Nat):Hy→Bool
 |[]=>true
 |(k,.blk cs _)::H=>match Nat.blt k n,c0j n ks cs with|true,true=>b4g n ks H|_,_=>false
 |(_,.row _ _ _ _)::H=>b4g n ks H
 |(k,.mp _ _)::H=>match Nat.blt k n with|true=>b4g n ks H|false=>false
def a0A:Hy→List Nat
 |[]=>[]
 |(k,_)::H=>k::a0A H
def ltY(n:Nat):Hy→Bool
 |[]=>true
 |(k,_)::H=>match Nat.blt k n with|true=>ltY n H|false=>false
def a7E(n:Nat)(st:Sy):Bool:=match ndB (a0A st.H),ltY st.nk st.H,c9R n (a0A st.H) st.T,b4g n (a0A st.H) st.H with|true,true,true,true=>true|_,_,_,_=>false
def b1y:List D→List D→Prop
 |[],[]=>True
 |_::l,.bad::r=>b1y l r
 |x::l,y::r=>leD x y∧b1y l r
 |_,_=>False
def b1r(n:Nat)(T:List (Nat×D)):List (Nat×D)→Prop
 |[]=>True
 |(d,s)::r=>(∃y,u0 T d=some y∧leD y (a2w n s))∧b1r n T r
def b8j(n:Nat)(H:Hy)(k:Nat):E→Prop
 |.blk cs ty=>∃cs0,m7 H k=some (.blk cs0 ty)∧b1y cs0 (a3o n cs)
 |.row z m l ty=>match Nat.blt k n with
  |true=>∃m0 l0,m7 H k=some (.row z m0 l0 ty)∧m0=m∧l0=l
  |false=>m=0∧l=[]
 |.mp es ty=>∃es0,m7 H k=some (.mp es0 ty)∧es0=es
def b0q(n:Nat)(H:Hy):Hy→Prop
 |[]=>True
 |(k,e)::r=>b8j n H k e∧b0q n H r
structure c7g(st st':Sy):Prop where
 ex:∃n,a7E n st'=true∧b1r n st.T st'.T∧b0q n st.H st'.H
def swN(a b k:Nat):Nat:=match Nat.beq k a with|true=>b|false=>(match Nat.beq k b with|true=>a|false=>k)
mutual
def swD(a b:Nat):D→D
 |.own k o=>.own (swN a b k) o
 |.ownx k o=>.ownx (swN a b k) o
 |.row k z=>.row (swN a b k) z
 |.elr k z i o=>.elr (swN a b k) z i o
 |.osl k o z n c=>.osl (swN a b k) o z n c
 |.agg l=>.agg (b2E a b l)
 |.tup l=>.tup (b2E a b l)
 |.fn f p q=>.fn f (b2E a b p) (b2E a b q)
 |x=>x
def b2E(a b:Nat):List D→List D
 |[]=>[]
 |x::l=>swD a b x::b2E a b l
end
def swE(a b:Nat):E→E
 |.blk cs ty=>.blk (b2E a b cs) ty
 |e=>e
def b7i(a b:Nat):List (Nat×D)→List (Nat×D)
 |[]=>[]
 |(d,x)::T=>(d,swD a b x)::b7i a b T
def b7b(a b:Nat):Hy→Hy
 |[]=>[]
 |(k,e)::H=>(swN a b k,swE a b e)::b7b a b H
structure d1o(st st':Sy):Prop where
 ex:c7g st st'∨∃a b m,(Nat.blt a m=true∧Nat.blt b m=true)∧c7g st ⟨b7i a b st'.T,b7b a b st'.H,m⟩∧c7g ⟨st'.T,st'.H,m⟩ st'
structure I1(st st':Sy):Prop where
 ex:∃ks st1,a5f ks st []=some (st1,[])∧d1o st1 st'
def a1G(X:Cy)(st:Sy):List ResultVar→Option (List D)
 |[]=>some []
 |.tmp t::r=>match b2G st.T t,a1G X st r with
  |some .bad,_=>none
  |some s,some l=>some (s::l)
  |_,_=>none
 |.cell a t::r=>match D4 X.tt t,b2G st.T a,a1G X st r with
  |some i,some (.own k o),some l=>match m7 st.H k with
   |some (.blk cs _)=>match takeD i.n (dropD o cs)with
    |some c=>match mkD i.agg c with
     |some s=>some (s::l)
     |none=>none
    |none=>none
   |_=>none
  |_,_,_=>none
def a1Y:Nat→List D→List (Nat×D)
 |_,[]=>[]
 |n,s::l=>(n,s)::a1Y (n+1) l
def a0p{α:Type}(nt:Nat):List (Nat×α)→List (Nat×α)
 |[]=>[]
 |(d,x)::T=>match Nat.blt d nt with
  |true=>(Nat.add 1000000 d,x)::a0p nt T
  |false=>match Nat.blt d 1000000 with
   |true=>a0p nt T
   |false=>(Nat.add d nt,x)::a0p nt T
def N7{α:Type}(nt:Nat):List (Nat×α)→List (Nat×α)
 |[]=>[]
 |(d,x)::T=>match Nat.blt d 1000000 with
  |true=>N7 nt T
  |false=>match Nat.blt d (Nat.add 1000000 nt)with
   |true=>(Nat.mod d 1000000,x)::N7 nt T
   |false=>(Nat.sub d nt,x)::N7 nt T
def c6p:List D→D
 |[x]=>x
 |l=>.tup l
def c8A(X X':Cy)(rs:List ResultVar)(dst:Option Nat)(K:Sy→Prop)(e:Exit)(st:Sy):Prop:=
 match e,st with
 |.normal,⟨T,H,nk⟩=>match a1G X' ⟨T,H,nk⟩ rs with
  |some l=>O5 X ⟨N7 X.nt T,H,nk⟩ dst (c6p l) K
  |none=>False
 |.ret,⟨T,H,nk⟩=>match a1G X' ⟨T,H,nk⟩ rs with
  |some l=>O5 X ⟨N7 X.nt T,H,nk⟩ dst (c6p l) K
  |none=>False
 |_,_=>False
def c8v(X:Cy)(c:Code)(st0:Sy)(K:Exit→Sy→Prop):Prop:=
 ∀(A:Nat→Prop) (w0:World) (bor:List Nat) (sv:List Value) (st:St) (a:Act) (w:World) (Q:Exit→Act→World→Prop),AG A X.P w0 bor→Sim A st st0→Rel (cx { X with sv:=sv} w0 bor) st a w→
  (∀e st' sy' a' w',plain e→K e sy'→Sim A st' sy'→Lv (cx { X with sv:=sv} w0 bor) st.H w st' a' w'→Q e a' w')→c.wp X.P Q a w
structure a3r(X:Cy)(f:FuncId)(args:List D)(dst:Option Nat)(st:Sy)(K:Sy→Prop):Prop where
 ex:∃(nt:Nat) (pl:List (Nat×PT)) (ln un inl:List Nat) (fn:Func) (c:Code) (st0 st1:Sy),
  (X.P.funcs[f]?=some fn∧fn.body=some c∧nt=fn.ntmps∧Nat.ble nt 1000000=true∧Nat.ble args.length nt=true)∧
  I1 ⟨a1Y 0 args++a0p X.nt st.T,st.H,st.nk⟩ st0∧c8v ⟨X.P,X.tt,nt,pl,ln,un,[],inl,[]⟩ c st0 (c8A X ⟨X.P,X.tt,nt,pl,ln,un,[],inl,[]⟩ fn.results.toList dst fun sy=>I1 sy st1)∧K st1
structure b1O(P:Program)(seq:Bool)(f:FuncId)(fa:List D)(st st':Sy)(K:Sy→D→Prop):Prop where
 ex:∃Q,p0 P f fa Q∧∀r,Q r→match a6H r,seq with
  |true,_=>K st r
  |false,true=>K st' r
  |false,false=>False
structure b0t(P:Program)(f:FuncId)(args:List D)(st:Sy)(K:Sy→D→Prop):Prop where
 ex:∃Q,p0 P f args Q∧∀r,Q r→K st r
def b1X(ok:Nat→Prop)(w:World)(z n:Nat)(l:List D)(ty:TypeId)(v:Value):Prop:=
 ∃xs,w.ownsRow 0 ty z v n xs∧l5 ok w l xs∧B4 l=true∧l.length=n*z
def b8M(P:Program)(f:FuncId)(args:List D)(z n:Nat)(l:List D)(ty:TypeId):Prop:=
 ∀(ok:Nat→Prop) (w:World) (vs:List Value),l5 ok w args vs→(∀b,ok b→b<w.heap.size)→GIW P w→
  Calls P f vs.toArray w fun e w'=>∃v,e=.returned v∧(∀b,b∈r6 v→w.heap.size≤b)∧b1X (fun b=>(ok b∨(w.heap.size≤b∧b<w'.heap.size))∧b∉r6 v) w' z n l ty v∧Below w.heap.size w w'
def b5E(P:Program)(f:FuncId)(z n:Nat)(l:List D)(ty:TypeId)(args:List D)(z' n':Nat)(l':List D):Prop:=
 ∀(ok:Nat→Prop) (w:World) (v:Value) (vs:List Value),b1X ok w z n l ty v→(∀b,b∈r6 v→¬ok b∧P.globals.size≤b)→l5 ok w args vs→(∀b,ok b→b<w.heap.size)→GIW P w→
  Calls P f (v::vs).toArray w fun e w'=>∃v',e=.returned v'∧(∀b,b∈r6 v'→b∈r6 v∨w.heap.size≤b)∧
   b1X (fun b=>(ok b∨b∈r6 v∨(w.heap.size≤b∧b<w'.heap.size))∧b∉r6 v') w' z' n' l' ty v'∧Fx (r6 v) w w'
structure a5X(P:Program)(f:FuncId)(args:List D)(st:Sy)(K:Sy→D→Prop):Prop where
 ex:∃z n l ty,b8M P f args z n l ty∧K ⟨st.T,(st.nk,.row z n l ty)::st.H,st.nk+1⟩ (.row st.nk z)
def U5(ok:Nat→Prop)(w:World)(rv:List Value):List D→List Value→Prop
 |[],[]=>True
 |.row i _::l,y::r=>rv[i]?=some y∧U5 ok w rv l r
 |d::l,y::r=>Rep ok w d y∧U5 ok w rv l r
 |_,_=>False
def a4d(ok:Nat→Prop)(w:World):List (Nat×Nat×List D×TypeId)→List Value→Prop
 |[],[]=>True
 |(z,n,l,ty)::rs,v::vs=>b1X ok w z n l ty v∧a4d ok w rs vs
 |_,_=>False
def b8m(P:Program)(f:FuncId)(args:List D)(rows:List (Nat×Nat×List D×TypeId))(cells:List D):Prop:=
 B4 cells=true∧∀(ok:Nat→Prop) (w:World) (vs:List Value),l5 ok w args vs→(∀b,ok b→b<w.heap.size)→GIW P w→
  Calls P f vs.toArray w fun e w'=>∃(a rv:List Value),e=.returned (.agg a.toArray)∧(∀b,b∈rv.flatMap r6→w.heap.size≤b∧b<w'.heap.size)∧(rv.flatMap r6).Nodup∧
   a4d (fun b=>(ok b∨(w.heap.size≤b∧b<w'.heap.size))∧b∉rv.flatMap r6) w' rows rv∧U5 (fun b=>(ok b∨(w.heap.size≤b∧b<w'.heap.size))∧b∉rv.flatMap r6) w' rv cells a∧Below w.heap.size w w'
def c2d:Nat→List (Nat×Nat×List D×TypeId)→Hy→Hy
 |_,[],H=>H
 |k,(z,n,l,ty)::rs,H=>c2d (k+1) rs ((k,.row z n l ty)::H)
def shC(nk:Nat):List D→List D
 |[]=>[]
 |.row i z::l=>.row (nk+i) z::shC nk l
 |d::l=>d::shC nk l
structure b3r(P:Program)(f:FuncId)(args:List D)(st:Sy)(K:Sy→D→Prop):Prop where
 ex:∃rows cells,b8m P f args rows cells∧K ⟨st.T,c2d st.nk rows st.H,st.nk+rows.length⟩ (.agg (shC st.nk cells))
structure c4p(P:Program)(f:FuncId)(k:Nat)(e:E)(fa:List D)(st:Sy)(K:Sy→D→Prop):Prop where
 ex:∃z n l ty z' n' l',e=.row z n l ty∧b5E P f z n l ty fa z' n' l'∧b1e k st.H fun H0=>b6Z H0 k (.row z' n' l' ty) fun H'=>b0B k st.T fun T'=>K ⟨T',H',st.nk⟩ (.row k z')
def d3a(P:Program)(f:FuncId)(z n:Nat)(l:List D)(ty:TypeId)(args:List D)(n':Nat)(l':List D):Prop:=
 n'=n∧∀(ok:Nat→Prop) (w:World) (v:Value) (vs:List Value),b1X ok w z n l ty v→(∀b,b∈r6 v→¬ok b∧P.globals.size≤b)→l5 ok w args vs→(∀b,ok b→b<w.heap.size)→GIW P w→
  Calls P f (v::vs).toArray w fun e w'=>e=.returned (.tuple #[])∧b1X (fun b=>ok b∧b∉r6 v) w' z n l' ty v∧Fx (r6 v) w w'
structure d0K(P:Program)(f:FuncId)(k:Nat)(e:E)(fa:List D)(st:Sy)(K:Sy→D→Prop):Prop where
 ex:∃z n l ty n' l',e=.row z n l ty∧d3a P f z n l ty fa n' l'∧b6Z st.H k (.row z n' l' ty) fun H'=>K ⟨st.T,H',st.nk⟩ (.tup [])
def b3M(X:Cy)(seq:Bool)(f:FuncId)(args:List D)(st:Sy)(K:Sy→D→Prop):Prop:=
 match O2 f X.ln,O2 f X.un with
 |true,_=>match seq,args with
  |true,x::rest=>match a5f (c4D st.H rest) st (x::rest)with
   |some (st',.row k _::fa)=>match U3 fa,m7 st'.H k with
    |true,some e=>c4p X.P f k e fa st' K∨d0K X.P f k e fa st' K
    |_,_=>False
   |_=>False
  |_,_=>False
 |false,true=>match seq,U3 args with
  |true,true=>a5X X.P f args st K∨b3r X.P f args st K
  |_,_=>False
 |false,false=>match U3 args with
  |true=>b0t X.P f args st K
  |false=>match a5f (c4D st.H args) st args with
   |some (st',fa)=>match U3 fa with
    |true=>b1O X.P seq f fa st st' K
    |false=>False
   |none=>False
def c7X(st:Sy)(esz:Nat)(x:D)(K:Nat→List D→Prop):Prop:=
 match x with
 |.osl k o z n _=>match Nat.beq z esz,m7 st.H k with
  |true,some (.blk cs _)=>match takeD (n*z) (dropD o cs)with
   |some l=>match Z6 l with|true=>K n l|false=>False
   |none=>False
  |true,some (.row z' N r _)=>match Nat.beq z' z with
   |true=>(n=0∨o+n*z≤N*z)∧K n ((r.drop o).take (n*z))
   |false=>False
  |_,_=>False
 |.row k _=>match m7 st.H k with
  |some (.row z n l _)=>match Nat.beq z esz with|true=>K n l|false=>False
  |_=>False
 |.v (.slice none 0 0)=>K 0 []
 |.lst z n l=>match Nat.beq z esz with|true=>K n l|false=>False
 |_=>False
def d2a(e esz bytes:Nat)(s x:D)(st:Sy)(K:Sy→D→Prop):Prop:=
 match Nat.ble 1 esz with
 |false=>False
 |true=>c7X st esz x fun m l=>match s,st with
  |.v (.slice none 0 0),⟨T,H,nk⟩=>(m*bytes≤140737488355328∧m≤9223372036854775807)∧∃r' n',(l=r'∧m=n')∧K ⟨T,(nk,.row esz n' r' e)::H,nk+1⟩ (.row nk esz)
  |.row k _,⟨T,H,nk⟩=>match m7 H k with
   |some (.row z n r ty)=>match Nat.beq z esz,Nat.beq ty e with
    |true,true=>((n+m)*bytes≤140737488355328∧n+m≤9223372036854775807)∧∃r' n',(r++l=r'∧n+m=n')∧b1e k H fun H0=>b6Z H0 k (.row esz n' r' e) fun H'=>b0B k T fun T'=>K ⟨T',H',nk⟩ (.row k esz)
    |_,_=>False
   |_=>False
  |.osl k o z0 n c,⟨T,H,nk⟩=>match Nat.beq o 0,Nat.beq c 0,Nat.beq z0 esz,m7 H k with
   |true,true,true,some (.row z N r ty)=>match Nat.beq z esz,Nat.beq ty e with
    |true,true=>(0<N∧n≤N∧(n+m)*bytes≤140737488355328∧n+m≤9223372036854775807)∧∃r' n',(r.take (n*z)++l=r'∧n+m=n')∧b1e k H fun H0=>b6Z H0 k (.row esz n' r' e) fun H'=>b0B k T fun T'=>K ⟨T',H',nk⟩ (.row k esz)
    |_,_=>False
   |_,_,_,_=>False
  |_,_=>False
def a9k(X:Cy)(seq:Bool)(st:Sy)(dst:Option Nat)(K:Sy→Prop)(o:a8B):Prop:=
 match o with
 |.val s=>O5 X st dst s K
 |.new cs ty sl=>match st with
  |⟨T,H,nk⟩=>O5 X ⟨T,(nk,.blk cs ty)::H,nk+1⟩ dst (match sl with|none=>.own nk 0|some (z,n)=>.osl nk 0 z n n) K
 |.newR l ty z n=>match st with
  |⟨T,H,nk⟩=>O5 X ⟨T,(nk,.row z n l ty)::H,nk+1⟩ dst (.row nk z) K
 |.call f args=>match O2 f X.inl with
  |true=>match seq with
   |true=>a3r X f args dst st K
   |false=>False
  |false=>b3M X seq f args st fun st' s=>O5 X st' dst s K
 |.upd k cs=>match st,m7 st.H k with
  |⟨T,H,nk⟩,some (.blk _ ty)=>b6Z H k (.blk cs ty) fun H'=>O5 X ⟨T,H',nk⟩ dst .und K
  |_,_=>False
 |.updR k l=>match st,m7 st.H k with
  |⟨T,H,nk⟩,some (.row z n _ ty)=>b6Z H k (.row z n l ty) fun H'=>O5 X ⟨T,H',nk⟩ dst .und K
  |_,_=>False
 |.app e esz bytes s x=>d2a e esz bytes s x st fun st' s=>O5 X st' dst s K
def a3M(ops:List Oper)(g:Option (Nat×Bool))(st:Sy)(yes no:Sy→Prop):Prop:=
 match g with
 |none=>yes st
 |some (j,want)=>match b6x ops j with
  |some d=>match b2G st.T d with
   |some (.v (.bool b))=>match st with
    |⟨T,H,nk⟩=>VIf b
     (match want with|true=>yes ⟨(d,.v (.bool true))::T,H,nk⟩|false=>no ⟨(d,.v (.bool true))::T,H,nk⟩)
     (match want with|true=>no ⟨(d,.v (.bool false))::T,H,nk⟩|false=>yes ⟨(d,.v (.bool false))::T,H,nk⟩)
   |some .und=>no st
   |_=>False
  |none=>False
def b3c(s:ByteArray):List D:=s.data.toList.map fun b=>.v (.int .u8 b.toNat)
def a4y(xs:List Int):ByteArray:=⟨(xs.map fun n=>UInt8.ofNat n.toNat).toArray⟩
def xk(st:Sy):Op→Bool
 |.makeMap _ _=>true
 |.mapUpdate _ _ _ _=>true
 |.convert _ _ x=>match evY st x with|some (.v (.string _))=>true|some (.lst _ _ _)=>true|some (.row _ _)=>true|_=>false
 |_=>false
def xop(X:Cy)(st:Sy)(dst:Option Nat)(op:Op)(K:Sy→Prop):Prop:=
 match op with
 |.makeMap t r=>match r,st with
  |none,⟨T,H,nk⟩=>∃m:MTy,(m.t=t∧b1q X.P X.tt m)∧O5 X ⟨T,(nk,.mp [] m)::H,nk+1⟩ dst (.row nk 0) K
  |_,_=>False
 |.mapUpdate t m k x=>match evY st m,evY st k,evY st x with
  |some (.row j _),some kd,some (.v xv)=>match m7 st.H j with
   |some (.mp es mt)=>(b1q X.P X.tt mt∧mt.t=t∧plV xv=true)∧∃kc es',(a8O mt.ag kd=some kc∧s8 mt.ks kc∧a8N (H3 mt.ag kc) xv es kc=es')∧
    b6Z st.H j (.mp es' mt) fun H'=>match st with|⟨T,_,nk⟩=>O5 X ⟨T,H',nk⟩ dst .und K
   |_=>False
  |_,_,_=>False
 |.convert src dt x=>match evY st x with
  |some (.v (.string s))=>(∃e u,X.P.underlying src=some u∧X.P.underlying dt=some (.slice e)∧X.P.underlying e=some (.int .u8))∧s.size≤9223372036854775807∧∃l n,(b3c s=l∧s.size=n)∧O5 X st dst (.lst 1 n l) K
  |some (.lst z n l)=>(z=1∧∃e,X.P.underlying src=some (.slice e)∧X.P.underlying e=some (.int .u8)∧X.P.underlying dt=some .string)∧∃xs:List Int,l=xs.map (fun x=>.v (.int .u8 x))∧O5 X st dst (.v (.string (a4y xs))) K
  |some (.row j _)=>match m7 st.H j with
   |some (.row z n l _)=>(z=1∧∃e,X.P.underlying src=some (.slice e)∧X.P.underlying e=some (.int .u8)∧X.P.underlying dt=some .string)∧∃xs:List Int,l=xs.map (fun x=>.v (.int .u8 x))∧O5 X st dst (.v (.string (a4y xs))) K
   |_=>False
  |_=>False
 |_=>False
def slR(st:Sy):Op→Option Nat
 |.slice _ x _ _ _=>match evY st x with|some (.row k _)=>some k|_=>none
 |_=>none
def b3y(X:Cy)(st:Sy)(o:Oper)(K:Sy→Prop):Prop:=
 match xk st o.op with
 |true=>xop X st o.dst o.op K
 |false=>match slR st o.op with
  |none=>y1 X st o.op (a9k X true st o.dst K)
  |some k=>y1 X st o.op (a9k X true st o.dst K)∨∃st1,a5f [k] st []=some (st1,[])∧y1 X st1 o.op (a9k X true st1 o.dst K)
def c0a(X:Cy)(ops:List Oper):List Oper→Sy→(Sy→Prop)→Prop
 |[],st,K=>K st
 |o::rest,st,K=>a3M ops o.guard st
  (fun st=>b3y X st o fun st=>c0a X ops rest st K)
  (fun st=>O5 X st o.dst .und fun st=>c0a X ops rest st K)
def d2R:D→Option Nat
 |.own k _=>some k
 |.ownx k _=>some k
 |.elr k _ _ _=>some k
 |_=>none
def b6i:a8B→Option Nat
 |.upd k _=>some k
 |.updR k _=>some k
 |.app _ _ _ (.row k _) _=>some k
 |.app _ _ _ (.osl k _ _ _ _) _=>some k
 |_=>none
def rdY(fl:Bool)(i:Nat)(op:Op)(st:Sy)(pr:List (Nat×Option Nat))(K:List (Nat×Option Nat)→Prop):Prop:=
 match op with
 |.load _ p=>match evY st p with
  |some s=>match d2R s with
   |some k=>K ((i,some k)::pr)
   |none=>match s with
    |.ptr _ _=>K ((i,none)::pr)
    |_=>False
  |none=>False
 |.lookup _ m _ _=>match evY st m with
  |some (.row k _)=>K ((i,some k)::pr)
  |_=>False
 |_=>K pr
def c0D(X:Cy)(i:Nat)(S:List Nat)(fl:Bool)(pr:List (Nat×Option Nat))(o:Oper)(st:Sy)(K:Sy→List (Nat×Option Nat)→Prop)(out:a8B):Prop:=
 match a6e o with
 |true=>(match out with|.val s=>rdY fl i o.op st pr fun pr=>O5 X st o.dst s fun st=>K st pr|_=>False)
 |false=>match A1 o with
  |true=>(match out with|.new _ _ none=>a9k X false st o.dst (fun st=>K st pr) out|.newR _ _ _ _=>a9k X false st o.dst (fun st=>K st pr) out|_=>False)
  |false=>match a2p o with
   |true=>(match out with|.call _ _=>a9k X false st o.dst (fun st=>K st pr) out|_=>False)
   |false=>(match out with
    |.call _ _=>False
    |out=>match b6i out with
     |some k=>match c0o pr S k with|true=>a9k X false st o.dst (fun st=>K st pr) out|false=>False
     |none=>a9k X false st o.dst (fun st=>K st pr) out)
def c1F(X:Cy)(S:List Nat)(st:Sy)(dst:Option Nat)(K:Sy→Prop)(o:a8B):Prop:=
 match S with
 |[]=>a9k X true st dst K o
 |_::_=>match o with
  |.call f args=>match O2 f X.inl,O2 f X.ln with
   |false,false=>b3M X true f args st fun st' s=>O5 X st' dst s K
   |_,_=>False
  |_=>False
def b7z(ops:List Oper):List Nat→List (Nat×D)→(List (Nat×D)→Prop)→Prop
 |[],T,K=>K T
 |i::r,T,K=>match b4b ops i with
  |some o=>match A1 o,o.dst with
   |true,some d=>b7z ops r T fun T'=>K ((d,.bad)::T')
   |_,_=>b7z ops r T K
  |none=>b7z ops r T K
theorem b6I{ops:List Oper}{T:List (Nat×D)}:∀(l:List Nat) (K:List (Nat×D)→Prop),b7z ops l T K=K (a2Z .bad ops l T)
 |[],K=>rfl
 |i::r,K=>by
  simp only[b7z,a2Z];cases b4b ops i with
  |none=>exact b6I r K
  |some o=>
   simp only;cases A1 o<;>cases o.dst<;>simp only[b6I r]
def b8D(X:Cy)(ops:List Oper)(rest:PT)(i:Nat)(S:List Nat)(fl:Bool)(pr:List (Nat×Option Nat))(o:Oper)(st:Sy)(K:Sy→List (Nat×Option Nat)→Prop):Prop:=
 match a2p o,fl with
 |true,true=>y1 X st o.op (c1F X S st o.dst fun st=>match st with|⟨T,H,nk⟩=>b7z ops (b6U rest) T fun T'=>K ⟨T',H,nk⟩ pr)
 |_,_=>y1 X st o.op (c0D X i S fl pr o st K)
def a8r(X:Cy)(ops:List Oper):PT→Sy→List (Nat×Option Nat)→(Sy→Prop)→Prop
 |.nil,st,_,K=>K st
 |.op i S fl rest,st,pr,K=>match b4b ops i with
  |some o=>a3M ops o.guard st
   (fun st=>b8D X ops rest i S fl pr o st fun st pr=>a8r X ops rest st pr K)
   (fun st=>O5 X st o.dst .und fun st=>a8r X ops rest st pr K)
  |none=>False
 |.fork a b,st,pr,K=>a8r X ops a st pr K∧a8r X ops b st pr K
def b2d:List Oper→List (Nat×D)→List (Nat×D)
 |[],T=>T
 |o::l,T=>match A1 o,o.dst with
  |true,some d=>(d,.bad)::b2d l T
  |_,_=>b2d l T
def a7P:List Oper→List (Nat×D)→(List (Nat×D)→Prop)→Prop
 |[],T,K=>K T
 |o::l,T,K=>match A1 o,o.dst with
  |true,some d=>a7P l T fun T'=>K ((d,.bad)::T')
  |_,_=>a7P l T K
theorem b2R{T:List (Nat×D)}:∀(l:List Oper) (K:List (Nat×D)→Prop),a7P l T K=K (b2d l T)
 |[],K=>rfl
 |o::l,K=>by
  simp only[a7P,b2d];cases A1 o<;>cases o.dst<;>simp only[b2R l]
structure B1(body:Sy→(Exit→Sy→Prop)→Prop)(st:Sy)(K:Exit→Sy→Prop):Prop where
 ex:∃(α:Type) (f:α→Sy) (inv:α→Prop) (μ:α→Nat),
  (∃x,I1 st (f x)∧inv x)∧
  ∀x,inv x→body (f x) fun e st2=>match e with
   |.normal=>∃y,I1 st2 (f y)∧inv y∧μ y<μ x
   |e=>K e st2
def S0(X:Cy):Code→Sy→(Exit→Sy→Prop)→Prop
 |.skip,st,K=>K .normal st
 |.region id ops draw,st,K=>match draw with
  |false=>c0a X ops.toList ops.toList st (K .normal)
  |true=>match c0K X.pl id with
   |some p=>a7C X.tt X.nt ops p=true∧(match st with|⟨T,H,nk⟩=>a8r X ops.toList p ⟨b2d ops.toList T,H,nk⟩ [] (K .normal))
   |none=>False
 |.seq a b,st,K=>S0 X a st fun e st'=>match e with
  |.normal=>S0 X b st' K
  |e=>K e st'
 |.cond c t e,st,K=>match evY st c with
  |some (.v (.bool b))=>VIf b (S0 X t st K) (S0 X e st K)
  |_=>False
 |.block id c,st,K=>S0 X c st fun e st'=>match e with
  |.exit j=>match Nat.beq j id with
   |true=>K .normal st'
   |false=>K (.exit j) st'
  |e=>K e st'
 |.loop c,st,K=>B1 (S0 X c) st K
 |.exit id,st,K=>K (.exit id) st
 |.ret,st,K=>K .ret st
 |.scope c,st,K=>S0 X c st K
 |.label _,st,K=>K .normal st
 |_,_,_=>False
structure n8(r:D)(Q:D→Prop):Prop where
 ex:∃r',leD r r'∧Q r'
def a2Q(st:Sy)(r:D)(Q:D→Prop):Prop:=
 match a0T r with
 |true=>n8 r Q
 |false=>match a5f (c4D st.H [r]) st [r]with
  |some (_,[r'])=>match a0T r' with
   |true=>n8 r' Q
   |false=>False
  |_=>False
def c3z(X:Cy)(rs:List ResultVar)(Q:D→Prop)(e:Exit)(st:Sy):Prop:=
 match e with
 |.normal=>match a1G X st rs with
  |some [s]=>a2Q st s Q
  |some l=>a2Q st (.tup l) Q
  |none=>False
 |.ret=>match a1G X st rs with
  |some [s]=>a2Q st s Q
  |some l=>a2Q st (.tup l) Q
  |none=>False
 |_=>False
mutual
theorem j5.mentE{ok:Nat→Prop}{w:World}{R:Bool→Nat→Prop}(k:Nat):∀(d:D) (s:SV),j5 ok w R d s→ment k s=a3A k d
 |.v x,s,h=>by simp only[j5]at h;rw[h.1];rfl
 |.agg l,s,h=>by
  simp only[j5]at h;obtain⟨cs,h1,h2,_⟩:=h;have:=j9.mentE k l _ h2;cases s<;>simp[a4Y]at h1
  ·rename_i x;cases x<;>simp at h1;subst h1;rw[b4C]at this;simp only[a3A,←this];rfl
  ·subst h1;simpa[ment,a3A]using this
 |.lst z n l,s,h=>by simp only[j5]at h;obtain⟨y,rfl,_⟩:=h;rfl
 |.ptr l o,s,h=>by simp only[j5]at h;obtain⟨y,rfl,_⟩:=h;rfl
 |.own j o,s,h=>by simp only[j5]at h;rw[h.1];rfl
 |.ownx j o,s,h=>by simp only[j5]at h;rw[h.1];rfl
 |.row j z,s,h=>by simp only[j5]at h;rw[h.1];rfl
 |.elr j z i o,s,h=>by simp only[j5]at h;rw[h.1];rfl
 |.osl j o z n c,s,h=>by simp only[j5]at h;rw[h.1];rfl
 |.tup l,s,h=>by
  simp only[j5]at h;rcases h with⟨cs,rfl,h2⟩|⟨a,rfl,h2⟩
  ·have:=j9.mentE k l _ h2;simpa[ment,a3A]using this
  ·have:=j9.mentE k l _ h2;rw[b4C]at this;simp only[a3A,←this];rfl
 |.fn f a b,s,h=>by
  simp only[j5]at h;rcases h with⟨p,q,rfl,h2,h3⟩|⟨p,q,rfl,h2,h3⟩
  ·have e1:=j9.mentE k a _ h2;have e2:=j9.mentE k b _ h3;simp only[ment,a3A,e1,e2];cases a8M k a<;>rfl
  ·have e1:=j9.mentE k a _ h2;have e2:=j9.mentE k b _ h3;rw[b4C]at e1 e2;simp only[a3A,←e1,←e2];rfl
 |.mp l,s,h=>by simp only[j5]at h;obtain⟨y,rfl,_⟩:=h;rfl
 |.und,s,h=>by simp only[j5]at h;rw[h];rfl
 |.bad,s,h=>by simp only[j5]at h;rw[h];rfl
theorem j9.mentE{ok:Nat→Prop}{w:World}{R:Bool→Nat→Prop}(k:Nat):∀(l:List D) (r:List SV),j9 ok w R l r→I2 k r=a8M k l
 |[],[],_=>rfl
 |d::l,y::r,h=>by
  simp only[j9]at h;simp only[I2,a8M,j5.mentE k d y h.1,j9.mentE k l r h.2];cases a3A k d<;>rfl
 |[],_::_,h=>by simp[j9]at h
 |_::_,[],h=>by simp[j9]at h
end
theorem b5C{ok:Nat→Prop}{w:World}{R:Bool→Nat→Prop}{k:Nat}{l:List D}{r:List SV}(h:j9 ok w R l r):j9 ok w R (b6Q k l) (b3k k r):=by
 induction l generalizing r with
 |nil=>cases r with
  |nil=>trivial
  |cons=>simp[j9]at h
 |cons d l ih=>cases r with
  |nil=>simp[j9]at h
  |cons s r=>
   simp only[j9]at h;refine⟨?_,ih h.2⟩;simp only[b0g,b2D,h.1.mentE k];cases a3A k d
   ·exact h.1
   ·simp only[j5]
theorem b6m{k:Nat}{T:List (Nat×SV)}{d:Nat}{s:SV}(h:A8 T d=some s):A8 (a1T k T) d=some (b2D k s):=by
 induction T with
 |nil=>simp[A8]at h
 |cons x T ih=>
  obtain⟨d',s'⟩:=x;simp only[A8,a1T]at h⊢;split at h
  ·cases h;rfl
  ·exact ih h
def a7D(k:Nat):List (Nat×D)→List (Nat×D)
 |[]=>[]
 |(d,s)::T=>(d,b0g k s)::a7D k T
theorem b2S{k:Nat}{T:List (Nat×D)}{K:List (Nat×D)→Prop}:b0B k T K=K (a7D k T):=by
 induction T generalizing K with
 |nil=>rfl
 |cons x T ih=>
  obtain⟨d,s⟩:=x;simp only[b0B,a7D,b0g];split<;>rw[ih]
theorem b6z{k:Nat}{T:List (Nat×D)}{d:Nat}{x:D}(h:u0 (a7D k T) d=some x):∃y,u0 T d=some y∧x=b0g k y:=by
 induction T with
 |nil=>simp[u0,a7D]at h
 |cons q T ih=>
  obtain⟨d',s'⟩:=q;simp only[u0,a7D]at h⊢;split at h
  ·cases h;exact⟨_,rfl,rfl⟩
  ·exact ih h
theorem b3K{j k:Nat}{T:List (Nat×SV)}(h:w8 j T=true):w8 j (a1T k T)=true:=by
 induction T with
 |nil=>rfl
 |cons x T ih=>
  obtain⟨d,s⟩:=x;simp only[w8,a1T]at h⊢;split at h
  ·cases h
  ·rename_i hm;have:ment j (b2D k s)=false:=by unfold b2D;split;rfl;exact hm
   rw[this];exact ih h
theorem c2G{j k:Nat}{l:List SV}(h:I2 j l=false):I2 j (b3k k l)=false:=by
 induction l with
 |nil=>rfl
 |cons s l ih=>
  simp only[I2,b3k]at h⊢;split at h
  ·cases h
  ·rename_i hm;have:ment j (b2D k s)=false:=by unfold b2D;split;rfl;exact hm
   rw[this];exact ih h
theorem b3q{j k:Nat}{H:Hp}(h:A7 j H=true):A7 j (C4 k H)=true:=by
 induction H with
 |nil=>rfl
 |cons x H ih=>
  obtain⟨i,e⟩:=x;cases e with
  |blk b cs ty=>
   simp only[A7,C4,a1P]at h⊢;split at h
   ·cases h
   ·rename_i hm;rw[c2G hm];exact ih h
  |row v n xs sz ty=>simp only[A7,C4,a1P]at h⊢;exact ih h
  |mp b es ty=>simp only[A7,C4,a1P]at h⊢;exact ih h
def a1F:Hp→Nat→Ent→Hp
 |[],_,_=>[]
 |(k',e')::H,k,e=>match Nat.beq k' k with|true=>(k',e)::H|false=>(k',e')::a1F H k e
def b1B:Hy→Nat→E→Hy
 |[],_,_=>[]
 |(k',e')::H,k,e=>match Nat.beq k' k with|true=>(k',e)::H|false=>(k',e')::b1B H k e
theorem a8c{H:Hp}{k:Nat}{e e0:Ent}{K:Hp→Prop}(h:l4 H k=some e0)(hK:K (a1F H k e)):b1o H k e K:=by
 induction H generalizing K with
 |nil=>simp[l4]at h
 |cons x H ih=>
  obtain⟨k',e'⟩:=x;simp only[l4,b1o,a1F]at h hK⊢;split
  ·rename_i hb;rw[hb]at hK;exact hK
  ·rename_i hb;rw[hb]at hK h;exact ih h hK
theorem a3V{H:Hy}{k:Nat}{e:E}{K:Hy→Prop}(h:b6Z H k e K):K (b1B H k e):=by
 induction H generalizing K with
 |nil=>exact h.elim
 |cons x H ih=>
  obtain⟨k',e'⟩:=x;simp only[b6Z,b1B]at h⊢;split at h
  ·rename_i hb
   try rw[hb]
   exact h
  ·rename_i hb
   try rw[hb]
   exact ih h
theorem a1L{H:Hp}{k j:Nat}{e e0:Ent}(h:l4 H k=some e0):l4 (a1F H k e) j=if j=k then some e else l4 H j:=by
 induction H with
 |nil=>simp[l4]at h
 |cons x H ih=>
  obtain⟨k',e'⟩:=x;simp only[l4,a1F]at h⊢;cases hb:Nat.beq k' k with
  |true=>
   have:=z7 hb;subst this;simp only[l4];by_cases hj:j=k'
   ·subst hj;simp
   ·rw[j6 hj,S9 (Ne.symm hj)]
  |false=>
   rw[hb]at h;simp only[l4];by_cases hj:j=k
   ·subst hj;rw[hb];simp only;rw[ih h];simp
   ·cases hb2:Nat.beq k' j with
    |true=>simp[hj]
    |false=>simp only;rw[ih h]
theorem b3b{H:Hy}{k j:Nat}{e x:E}(h:m7 (b1B H k e) j=some x):(j=k∧x=e)∨(j≠k∧m7 H j=some x):=by
 induction H with
 |nil=>simp[m7,b1B]at h
 |cons q H ih=>
  obtain⟨k',e'⟩:=q;simp only[b1B]at h;cases hb:Nat.beq k' k with
  |true=>
   have:=z7 hb;subst this;rw[hb]at h;simp only[m7]at h⊢;cases hb2:Nat.beq k' j with
   |true=>rw[hb2]at h;cases h;exact .inl ⟨(z7 hb2).symm,rfl⟩
   |false=>rw[hb2]at h;exact .inr ⟨fun e=>a3y hb2 e.symm,h⟩
  |false=>
   rw[hb]at h;simp only[m7]at h⊢;cases hb2:Nat.beq k' j with
   |true=>rw[hb2]at h;cases h;exact .inr ⟨fun e=>by subst e;exact a3y hb (z7 hb2),rfl⟩
   |false=>rw[hb2]at h;exact ih h
theorem b2A{H:Hp}{k c:Nat}{e:Ent}(h:c∈bs (a1F H k e)):c∈bs H∨c∈bsE e:=by
 induction H with
 |nil=>simp[a1F,bs]at h
 |cons x H ih=>
  obtain⟨k',e'⟩:=x;simp only[a1F]at h;split at h
  ·simp only[bs,E3]at h⊢;rcases h with h|h
   ·exact .inr h
   ·exact .inl (.inr h)
  ·simp only[bs,E3]at h⊢;rcases h with h|h
   ·exact .inl (.inl h)
   ·rcases ih h with h|h
    ·exact .inl (.inr h)
    ·exact .inr h
def a7T(j:Nat):Ent→Bool
 |.blk _ cs _=> !I2 j cs
 |.row _ _ _ _ _=>true
 |.mp _ _ _=>true
theorem Q1{j k:Nat}{e:Ent}{H:Hp}(he:a7T j e=true)(h:A7 j H=true):A7 j ((k,e)::H)=true:=by
 cases e with
 |blk b cs ty=>simp only[a7T,a5J]at he;simp only[A7,he];exact h
 |row v n xs sz ty=>exact h
 |mp b es ty=>exact h
theorem c3q{j k:Nat}{e:Ent}{H:Hp}(h:A7 j ((k,e)::H)=true):a7T j e=true∧A7 j H=true:=by
 cases e with
 |blk b cs ty=>
  simp only[A7]at h;split at h
  ·cases h
  ·rename_i hm;exact⟨by simp[a7T,hm],h⟩
 |row v n xs sz ty=>exact⟨rfl,h⟩
 |mp b es ty=>exact⟨rfl,h⟩
theorem b0Q{j k:Nat}{e:Ent}{H:Hp}(he:a7T j e=true)(h:A7 j H=true):A7 j (a1F H k e)=true:=by
 induction H with
 |nil=>rfl
 |cons x H ih=>
  obtain⟨k',e'⟩:=x;obtain⟨h1,h2⟩:=c3q h;simp only[a1F];split
  ·exact Q1 he h2
  ·exact Q1 h1 (ih h2)
theorem b5u{H:Hy}{k j:Nat}{x:E}(h:m7 (a8g k H) j=some x):∃y,m7 H j=some y∧x=b6s k y:=by
 induction H with
 |nil=>simp[m7,a8g]at h
 |cons q H ih=>
  obtain⟨k',e'⟩:=q;simp only[m7,a8g]at h⊢;split at h
  ·cases h;exact⟨_,rfl,rfl⟩
  ·exact ih h
section
variable {A : Nat → Prop}{X : Cy}{w0 : World}{bor : List Nat}{st : St}{sy : Sy}{KY : Sy → Prop}
theorem b1h{st:St}{j:Nat}(h:st.nk≤j)(q:Bool):¬B0 st q j:=fun hk=>by have:=hk.1;omega
theorem Sim.mono{st st':St}{T:List (Nat×D)}{H:Hy}{nk:Nat}(hs:Sim A st ⟨T,H,nk⟩)(hok:∀b,okS A st b→okS A st' b∧st'.w.heap[b]?=st.w.heap[b]?)(hk:∀q k,B0 st q k→B0 st' q k)
 (hT:∀d s,A8 st.T d=some s→A8 st'.T d=some s) (hH:∀k e,l4 st.H k=some e→l4 st'.H k=some e) (hn:st'.nk=st.nk) (fT:∀j,st'.nk≤j→w8 j st'.T=true) (fH:∀j,st'.nk≤j→A7 j st'.H=true):Sim A st' ⟨T,H,nk⟩:=by
 refine⟨fun d x hx=>?_,fun k e he=>?_,by rw[hn];exact hs.nk,fT,fH⟩
 ·rcases hs.T d x hx with h|⟨s,h1,h2⟩
  ·exact .inl h
  ·exact .inr ⟨s,hT d s h1,j5.mono hok hk _ _ h2⟩
 ·obtain⟨e',h1,h2⟩:=hs.H k e he;refine⟨e',hH k e' h1,?_⟩;cases e<;>cases e'<;>simp only[a3H]at h2⊢
  ·exact⟨h2.1,j9.mono hok hk _ _ h2.2⟩
  ·exact⟨h2.1,h2.2.1,h2.2.2.1,l5.mono hok _ _ h2.2.2.2.1,h2.2.2.2.2⟩
  ·exact h2
theorem a3H.mono{ok ok':Nat→Prop}{w w':World}{R R':Bool→Nat→Prop}(hok:∀b,ok b→ok' b∧w'.heap[b]?=w.heap[b]?)(hk:∀q k,R q k→R' q k){e:E}{e':Ent}(h:a3H ok w R e e'):a3H ok' w' R' e e':=by
 cases e<;>cases e'<;>simp only[a3H]at h⊢
 ·exact⟨h.1,j9.mono hok hk _ _ h.2⟩
 ·exact⟨h.1,h.2.1,h.2.2.1,l5.mono hok _ _ h.2.2.2.1,h.2.2.2.2⟩
 ·exact h
theorem D3{dst:Option Nat}{x:D}{s:SV}(h:O5 X sy dst x KY)(hs:Sim A st sy)(hr:j5 (okS A st) st.w (B0 st) x s):put (cx X w0 bor) st dst s fun st'=>∃sy',KY sy'∧Sim A st' sy':=by
 unfold O5 at h;cases dst with
 |none=>exact⟨sy,h,hs⟩
 |some d=>
  obtain⟨T,H,nk⟩:=sy;obtain⟨T',H',nk',w,lo,iv⟩:=st;simp only at h;simp only[put,cx];split at h
  ·rename_i hd heq;cases heq;rw[hd];refine⟨_,h,fun d' x' hx'=>?_,hs.H,hs.nk,fun j hj=>?_,hs.fH⟩
   ·simp only[u0]at hx';simp only[A8];cases hb:Nat.beq d d' with
    |true=>rw[hb]at hx';cases hx';exact .inr ⟨s,rfl,hr⟩
    |false=>rw[hb]at hx';exact hs.T d' x' hx'
   ·simp only[w8,hr.ment (fun q=>b1h hj q)];exact hs.fT j hj
  ·exact h.elim
theorem d0i{T:List (Nat×D)}{H:Hy}{nk:Nat}{T':List (Nat×SV)}{H':Hp}{nk':Nat}{w:World}{lo:Nat}{iv:List (Nat×Nat)}{b:Nat}{cs:List D}{cs':List SV}{ty:TypeId}
 (hs:Sim A ⟨T',H',nk',w,lo,iv⟩ ⟨T,H,nk⟩) (hr:j9 (okS A ⟨T',H',nk',w,lo,iv⟩) w (B0 ⟨T',H',nk',w,lo,iv⟩) cs cs') (hb:lo≤b) (hiv:a7b iv b):
 Sim A ⟨T',(nk',.blk b cs' ty)::H',nk'+1,w,lo,iv⟩ ⟨T,(nk,.blk cs ty)::H,nk+1⟩:=by
 have hnk:nk=nk':=hs.nk;subst hnk
 have hok:∀c,okS A ⟨T',H',nk,w,lo,iv⟩ c→okS A ⟨T',(nk,.blk b cs' ty)::H',nk+1,w,lo,iv⟩ c∧w.heap[c]?=w.heap[c]?:=by
  intro c ⟨h1,h2,h3⟩;refine⟨⟨h1,h2,fun x hx=>?_⟩,rfl⟩;simp only[bs,bsE,E3,a1V]at hx;rcases hx with rfl|hx
  ·intro e;subst e;rcases h1 with h1|⟨p,hp,h4,h5⟩
   ·simp only at h1;omega
   ·simp only at hp;clear hr hs h2 h3
    induction iv with
    |nil=>cases hp
    |cons y l ih=>
     simp only[a7b]at hiv;rcases u9.1 hp with rfl|hp
     ·omega
     ·exact ih hiv.2 hp
  ·exact h3 x hx
 have hk:∀q k,B0 ⟨T',H',nk,w,lo,iv⟩ q k→B0 ⟨T',(nk,.blk b cs' ty)::H',nk+1,w,lo,iv⟩ q k:=by
  intro q k ⟨h1,h2⟩;simp only at h1;refine⟨by simp only;omega,fun hq=>?_⟩;simp only;rw[Q5 (by omega)];exact h2 hq
 refine⟨fun d x hx=>?_,fun k e he=>?_,rfl,fun j hj=>hs.fT j (by simp only at hj⊢;omega),fun j hj=>?_⟩
 ·rcases hs.T d x hx with h|⟨s,h1,h2⟩
  ·exact .inl h
  ·exact .inr ⟨s,h1,j5.mono hok hk _ _ h2⟩
 ·simp only[m7]at he;simp only[l4];cases hb:Nat.beq nk k with
  |true=>
   rw[hb]at he;cases he;exact⟨_,rfl,by exact⟨rfl,j9.mono hok hk _ _ hr⟩⟩
  |false=>
   rw[hb]at he;obtain⟨e',h1,h2⟩:=hs.H k e he;exact⟨e',h1,a3H.mono hok hk h2⟩
 ·simp only at hj;refine Q1 ?_ (hs.fH j (by simp only;omega));simp only[a7T,a5J];exact j9.ment (fun q=>b1h (st:=⟨T',H',nk,w,lo,iv⟩) (by simp only;omega) q) _ _ hr
theorem c7W{T:List (Nat×D)}{H:Hy}{nk:Nat}{T':List (Nat×SV)}{H':Hp}{nk':Nat}{w:World}{lo:Nat}{iv:List (Nat×Nat)}{b:Nat}{l:List D}{xs:List Value}{z n:Nat}{ty:TypeId}
 (hs:Sim A ⟨T',H',nk',w,lo,iv⟩ ⟨T,H,nk⟩) (hr:l5 (okS A ⟨T',H',nk',w,lo,iv⟩) w l xs) (hfl:B4 l=true) (hlen:l.length=n*z) (hb:lo≤b) (hiv:a7b iv b):
 Sim A ⟨T',(nk',.row (.slice (some ⟨b,0,none⟩) n n) n xs z ty)::H',nk'+1,w,lo,iv⟩ ⟨T,(nk,.row z n l ty)::H,nk+1⟩:=by
 have hnk:nk=nk':=hs.nk;subst hnk
 have hok:∀c,okS A ⟨T',H',nk,w,lo,iv⟩ c→okS A ⟨T',(nk,.row (.slice (some ⟨b,0,none⟩) n n) n xs z ty)::H',nk+1,w,lo,iv⟩ c∧w.heap[c]?=w.heap[c]?:=by
  intro c ⟨h1,h2,h3⟩;refine⟨⟨h1,h2,fun x hx=>?_⟩,rfl⟩;simp only[bs,bsE,r6,E3,a1V]at hx;rcases hx with rfl|hx
  ·intro e;subst e;rcases h1 with h1|⟨p,hp,h4,h5⟩
   ·simp only at h1;omega
   ·simp only at hp;clear hr hs h2 h3
    induction iv with
    |nil=>cases hp
    |cons y l ih=>
     simp only[a7b]at hiv;rcases u9.1 hp with rfl|hp
     ·omega
     ·exact ih hiv.2 hp
  ·exact h3 x hx
 have hk:∀q k,B0 ⟨T',H',nk,w,lo,iv⟩ q k→B0 ⟨T',(nk,.row (.slice (some ⟨b,0,none⟩) n n) n xs z ty)::H',nk+1,w,lo,iv⟩ q k:=by
  intro q k ⟨h1,h2⟩;simp only at h1;refine⟨by simp only;omega,fun hq=>?_⟩;simp only;rw[Q5 (by omega)];exact h2 hq
 refine⟨fun d x hx=>?_,fun k e he=>?_,rfl,fun j hj=>hs.fT j (by simp only at hj⊢;omega),fun j hj=>?_⟩
 ·rcases hs.T d x hx with h|⟨s,h1,h2⟩
  ·exact .inl h
  ·exact .inr ⟨s,h1,j5.mono hok hk _ _ h2⟩
 ·simp only[m7]at he;simp only[l4];cases hb:Nat.beq nk k with
  |true=>
   rw[hb]at he;cases he;exact⟨_,rfl,by exact⟨rfl,rfl,rfl,l5.mono hok _ _ hr,hfl,hlen⟩⟩
  |false=>
   rw[hb]at he;obtain⟨e',h1,h2⟩:=hs.H k e he;exact⟨e',h1,a3H.mono hok hk h2⟩
 ·simp only at hj;exact Q1 rfl (hs.fH j (by simp only;omega))
theorem b4w{T:List (Nat×D)}{H:Hy}{nk:Nat}{T':List (Nat×SV)}{H':Hp}{nk':Nat}{w:World}{lo:Nat}{iv:List (Nat×Nat)}{k:Nat}{e:E}{e0 e':Ent}
 (hs:Sim A ⟨T',H',nk',w,lo,iv⟩ ⟨T,H,nk⟩) (hf:l4 H' k=some e0) (hr:a3H (okS A ⟨T',H',nk',w,lo,iv⟩) w (B0 ⟨T',H',nk',w,lo,iv⟩) e e') (hb:bsE e'=bsE e0)
 (hrow:isR e0=true→isR e'=true) (hfe:∀j,nk'≤j→a7T j e'=true):
 Sim A ⟨T',a1F H' k e',nk',w,lo,iv⟩ ⟨T,b1B H k e,nk⟩:=by
 have hok:∀c,okS A ⟨T',H',nk',w,lo,iv⟩ c→okS A ⟨T',a1F H' k e',nk',w,lo,iv⟩ c∧w.heap[c]?=w.heap[c]?:=by
  intro c ⟨h1,h2,h3⟩;refine⟨⟨h1,h2,fun x hx=>?_⟩,rfl⟩;rcases b2A hx with hx|hx
  ·exact h3 x hx
  ·rw[hb]at hx;exact h3 x (A3.2 ⟨k,e0,o7 hf,hx⟩)
 have hk:∀q j,B0 ⟨T',H',nk',w,lo,iv⟩ q j→B0 ⟨T',a1F H' k e',nk',w,lo,iv⟩ q j:=by
  intro q j ⟨h1,h2⟩;refine⟨h1,fun hq=>?_⟩;simp only;rw[a1L hf];obtain⟨e1,h3,h4⟩:=h2 hq;split
  ·rename_i hjk;subst hjk;simp only at h3;rw[hf]at h3;cases h3;exact⟨_,rfl,hrow h4⟩
  ·exact⟨_,h3,h4⟩
 refine⟨fun d x hx=>?_,fun j x hx=>?_,hs.nk,hs.fT,fun j hj=>b0Q (hfe j hj) (hs.fH j hj)⟩
 ·rcases hs.T d x hx with h|⟨s,h1,h2⟩
  ·exact .inl h
  ·exact .inr ⟨s,h1,j5.mono hok hk _ _ h2⟩
 ·simp only;rw[a1L hf];rcases b3b hx with⟨rfl,rfl⟩|⟨hne,hx⟩
  ·exact⟨e',by simp,a3H.mono hok hk hr⟩
  ·obtain⟨e1,h1,h2⟩:=hs.H j x hx;exact⟨e1,by rw[j6 hne];exact h1,a3H.mono hok hk h2⟩
end
section
variable {A : Nat → Prop}{X : Cy}{w0 : World}{bor : List Nat}{st : St}{sy : Sy}{KY : Sy → Prop}
theorem c7n{esz:Nat}{x:D}{s:SV}{Kn:Nat→List D→Prop}(h:c7X sy esz x Kn)(hs:Sim A st sy)(hr:j5 (okS A st) st.w (B0 st) x s):
 ∃m l news,Kn m l∧a5v (cx X w0 bor) st esz s m news∧l5 (okS A st) st.w l news∧B4 l=true∧l.length=m*esz:=by
 unfold c7X at h;split at h
 ·rename_i k o z n c;simp only[j5]at hr;obtain⟨rfl,_⟩:=hr;split at h
  ·rename_i cs ty hz hf;obtain rfl:=z7 hz;obtain⟨e',hf',he⟩:=hs.H _ _ hf;cases e' with
   |row=>exact he.elim
   |mp=>exact he.elim
   |blk b cs' ty'=>
    split at h
    ·rename_i l hl;split at h
     ·rename_i hno;obtain⟨r,h1,h2⟩:=(he.2.dropD o).takeD hl;obtain⟨xs,rfl,h3⟩:=h2.vals hno;refine⟨n,l,xs,h,?_,h3,a9L hno,(b6B hl).1⟩;simp only[a5v,hf'];exact⟨trivial,vs xs,h1,h2.one (b8c st) (a9L hno),(H9 _ _).symm⟩
     ·exact h.elim
    ·exact h.elim
  ·rename_i z' N r ty hz hf;obtain rfl:=z7 hz;obtain⟨e',hf',he⟩:=hs.H _ _ hf;cases e' with
   |blk=>exact he.elim
   |mp=>exact he.elim
   |row v n' xs z2 ty'=>
    obtain⟨rfl,rfl,rfl,hrep,hfl,hlen⟩:=he;split at h
    ·rename_i hzz;obtain rfl:=z7 hzz;obtain⟨hb,h⟩:=h;refine⟨n,_,(xs.drop o).take (n*z'),h,?_,(hrep.drop _).take _,a7g hfl fun d hd=>a7n (a4M hd),?_⟩
     ·simp only[a5v,hf'];exact⟨trivial,trivial,hb,trivial,hrep.one hfl⟩
     ·rcases hb with rfl|hb
      ·simp
      ·simp only[Z5,a7V];omega
    ·exact h.elim
  ·exact h.elim
 ·rename_i k z0;simp only[j5]at hr;obtain⟨rfl,_⟩:=hr;split at h
  ·rename_i z n l ty hf;obtain⟨e',hf',he⟩:=hs.H _ _ hf;cases e' with
   |blk=>exact he.elim
   |mp=>exact he.elim
   |row v n' xs z' ty'=>
    obtain⟨rfl,rfl,rfl,hrep,hfl,hlen⟩:=he;split at h
    ·rename_i hz;obtain rfl:=z7 hz;refine⟨n,l,xs,h,?_,hrep,hfl,hlen⟩;simp only[a5v,hf'];exact⟨trivial,trivial,trivial,hrep.one hfl⟩
    ·exact h.elim
  ·exact h.elim
 ·have:=hr.sc;subst this;exact⟨0,[],[],h,by simp[a5v],trivial,rfl,by simp⟩
 ·rename_i z n l;simp only[j5,Rep]at hr;obtain⟨y,rfl,a,c,rfl,hnc,hmx,hlen,hfl,hmem⟩:=hr;split at h
  ·rename_i hz;obtain rfl:=z7 hz;rcases hmem with rfl|⟨b,o,xs,rfl,hok,hrep,hcell⟩
   ·have hn:n=0:=by omega
    subst hn;have hl:l=[]:=a5Q (by simpa using hlen)
    subst hl;refine⟨0,[],[],h,?_,trivial,rfl,by simp⟩;cases a with
    |none=>simp[a5v]
    |some ad=>obtain⟨b,o,sp⟩:=ad;simp[a5v]
   ·refine⟨n,l,xs,h,?_,hrep,hfl,hlen⟩;simp only[a5v];have hxl:=hrep.length;exact .inr ⟨trivial,trivial,hrep.one hfl,by omega,.inr ⟨hok.2.2,fun j hj=>hcell j hj⟩⟩
  ·exact h.elim
 ·exact h.elim
theorem c1P{T:List (Nat×D)}{H:Hy}{nk:Nat}{T':List (Nat×SV)}{H':Hp}{nk':Nat}{w w1:World}{lo lo1:Nat}{iv iv1:List (Nat×Nat)}{k:Nat}{e0:Ent}{v':Value}{n z:Nat}{l:List D}{xs:List Value}{ty:TypeId}
 (hs:Sim A ⟨T',H',nk',w,lo,iv⟩ ⟨T,H,nk⟩) (hf:l4 H' k=some e0) (hv:∀b,b∈r6 v'→b∈bs H'∨w.heap.size≤b) (hfx:Fx (bs H') w w1) (hlo:(lo1=w1.heap.size)∨(lo1=lo∧iv1=iv))
 (hrep:l5 (okS A ⟨T',H',nk',w,lo,iv⟩) w l xs) (hfl:B4 l=true) (hlen:l.length=n*z):
 Sim A ⟨a1T k T',a1F (C4 k H') k (.row v' n xs z ty),nk',w1,lo1,iv1⟩ ⟨a7D k T,b1B (a8g k H) k (.row z n l ty),nk⟩:=by
 have hf2:l4 (C4 k H') k=some (a1P k e0):=by rw[M9,hf];rfl
 have hok:∀c,okS A ⟨T',H',nk',w,lo,iv⟩ c→okS A ⟨a1T k T',a1F (C4 k H') k (.row v' n xs z ty),nk',w1,lo1,iv1⟩ c∧w1.heap[c]?=w.heap[c]?:=by
  intro c ⟨h1,h2,h3⟩;refine⟨⟨⟨?_,h1.2⟩,C5 h2 hfx.size,fun x hx=>?_⟩,hfx.block c h2 h3⟩
  ·rcases hlo with rfl|⟨rfl,rfl⟩
   ·exact .inl (C5 h2 hfx.size)
   ·exact h1.1
  ·rcases b2A hx with hx|hx
   ·rw[a6f]at hx;exact h3 x hx
   ·rcases hv x hx with hx|hx
    ·exact h3 x hx
    ·intro e;simp only at h2;omega
 have hk:∀q j,B0 ⟨T',H',nk',w,lo,iv⟩ q j→B0 ⟨a1T k T',a1F (C4 k H') k (.row v' n xs z ty),nk',w1,lo1,iv1⟩ q j:=by
  intro q j ⟨h1,h2⟩;refine⟨h1,fun hq=>?_⟩;simp only;rw[a1L hf2,M9];obtain⟨e1,h3,h4⟩:=h2 hq;split
  ·exact⟨_,rfl,rfl⟩
  ·simp only at h3;rw[h3];exact⟨_,rfl,by cases e1<;>first|exact h4|rfl⟩
 refine⟨fun d x hx=>?_,fun j x hx=>?_,hs.nk,fun j hj=>b3K (hs.fT j hj),fun j hj=>b0Q rfl (b3q (hs.fH j hj))⟩
 ·obtain⟨y,hy,rfl⟩:=b6z hx;rcases hs.T d y hy with h|⟨s,h1,h2⟩
  ·subst h;exact .inl (by simp[b0g,a3A])
  ·unfold b0g;cases hm:a3A k y with
   |true=>exact .inl rfl
   |false=>
    refine .inr ⟨s,?_,j5.mono hok hk _ _ h2⟩;have:=b6m (k:=k) h1;simp only[b2D,h2.mentE k,hm]at this;exact this
 ·simp only;rw[a1L hf2,M9];rcases b3b hx with⟨rfl,rfl⟩|⟨hne,hx⟩
  ·exact⟨.row v' n xs z ty,by simp,by exact⟨rfl,rfl,rfl,l5.mono hok _ _ hrep,hfl,hlen⟩⟩
  ·obtain⟨y,hy,rfl⟩:=b5u hx;obtain⟨e1,h1,h2⟩:=hs.H j y hy;refine⟨a1P k e1,by rw[j6 hne];simp only at h1;rw[h1];rfl,?_⟩;have h3:=a3H.mono hok hk h2;cases y<;>cases e1<;>simp only[b6s,a1P,a3H]at h3⊢
   ·exact⟨h3.1,b5C h3.2⟩
   ·exact h3
   ·exact h3
theorem c3b{T:List (Nat×D)}{H:Hy}{nk:Nat}{T':List (Nat×SV)}{H':Hp}{nk':Nat}{w w1:World}{lo lo1:Nat}{iv iv1:List (Nat×Nat)}{v':Value}{n z:Nat}{l:List D}{xs:List Value}{ty:TypeId}
 (hs:Sim A ⟨T',H',nk',w,lo,iv⟩ ⟨T,H,nk⟩) (hv:∀b,b∈r6 v'→b∈bs H'∨w.heap.size≤b) (hfx:Fx (bs H') w w1) (hlo:(lo1=w1.heap.size)∨(lo1=lo∧iv1=iv))
 (hrep:l5 (okS A ⟨T',H',nk',w,lo,iv⟩) w l xs) (hfl:B4 l=true) (hlen:l.length=n*z):
 Sim A ⟨T',(nk',.row v' n xs z ty)::H',nk'+1,w1,lo1,iv1⟩ ⟨T,(nk,.row z n l ty)::H,nk+1⟩:=by
 have hnk:nk=nk':=hs.nk;subst hnk
 have hok:∀c,okS A ⟨T',H',nk,w,lo,iv⟩ c→okS A ⟨T',(nk,.row v' n xs z ty)::H',nk+1,w1,lo1,iv1⟩ c∧w1.heap[c]?=w.heap[c]?:=by
  intro c ⟨h1,h2,h3⟩;refine⟨⟨⟨?_,h1.2⟩,C5 h2 hfx.size,fun x hx=>?_⟩,hfx.block c h2 h3⟩
  ·rcases hlo with rfl|⟨rfl,rfl⟩
   ·exact .inl (C5 h2 hfx.size)
   ·exact h1.1
  ·simp only[bs,bsE,E3]at hx;rcases hx with hx|hx
   ·rcases hv x hx with hx|hx
    ·exact h3 x hx
    ·intro e;simp only at h2;omega
   ·exact h3 x hx
 have hk:∀q k,B0 ⟨T',H',nk,w,lo,iv⟩ q k→B0 ⟨T',(nk,.row v' n xs z ty)::H',nk+1,w1,lo1,iv1⟩ q k:=by
  intro q k ⟨h1,h2⟩;simp only at h1;refine⟨by simp only;omega,fun hq=>?_⟩;simp only;rw[Q5 (by omega)];exact h2 hq
 refine⟨fun d x hx=>?_,fun k e he=>?_,rfl,fun j hj=>hs.fT j (by simp only at hj⊢;omega),fun j hj=>Q1 rfl (hs.fH j (by simp only at hj⊢;omega))⟩
 ·rcases hs.T d x hx with h|⟨s,h1,h2⟩
  ·exact .inl h
  ·exact .inr ⟨s,h1,j5.mono hok hk _ _ h2⟩
 ·simp only[m7]at he;simp only[l4];cases hb:Nat.beq nk k with
  |true=>
   rw[hb]at he;cases he;exact⟨_,rfl,by exact⟨rfl,rfl,rfl,l5.mono hok _ _ hrep,hfl,hlen⟩⟩
  |false=>
   rw[hb]at he;obtain⟨e',h1,h2⟩:=hs.H k e he;exact⟨e',h1,a3H.mono hok hk h2⟩
theorem c5V{T:List (Nat×D)}{H:Hy}{nk:Nat}{T':List (Nat×SV)}{H':Hp}{nk':Nat}{w w1:World}{lo lo1:Nat}{iv iv1:List (Nat×Nat)}{k:Nat}{e0:Ent}{v':Value}{n z:Nat}{l:List D}{xs:List Value}{ty:TypeId}
 (hs:Sim A ⟨T',H',nk',w,lo,iv⟩ ⟨T,H,nk⟩) (hf:l4 H' k=some e0) (hv:∀b,b∈r6 v'→b∈bs H'∨w.heap.size≤b) (hfx:Fx (bs H') w w1) (hlo:(lo1=w1.heap.size)∨(lo1=lo∧iv1=iv))
 (hrep:l5 (okS A ⟨a1T k T',a1F (C4 k H') k (.row v' n xs z ty),nk',w1,lo1,iv1⟩) w1 l xs) (hfl:B4 l=true) (hlen:l.length=n*z):
 Sim A ⟨a1T k T',a1F (C4 k H') k (.row v' n xs z ty),nk',w1,lo1,iv1⟩ ⟨a7D k T,b1B (a8g k H) k (.row z n l ty),nk⟩:=by
 have hf2:l4 (C4 k H') k=some (a1P k e0):=by rw[M9,hf];rfl
 have hok:∀c,okS A ⟨T',H',nk',w,lo,iv⟩ c→okS A ⟨a1T k T',a1F (C4 k H') k (.row v' n xs z ty),nk',w1,lo1,iv1⟩ c∧w1.heap[c]?=w.heap[c]?:=by
  intro c ⟨h1,h2,h3⟩;refine⟨⟨⟨?_,h1.2⟩,C5 h2 hfx.size,fun x hx=>?_⟩,hfx.block c h2 h3⟩
  ·rcases hlo with rfl|⟨rfl,rfl⟩
   ·exact .inl (C5 h2 hfx.size)
   ·exact h1.1
  ·rcases b2A hx with hx|hx
   ·rw[a6f]at hx;exact h3 x hx
   ·rcases hv x hx with hx|hx
    ·exact h3 x hx
    ·intro e;simp only at h2;omega
 have hk:∀q j,B0 ⟨T',H',nk',w,lo,iv⟩ q j→B0 ⟨a1T k T',a1F (C4 k H') k (.row v' n xs z ty),nk',w1,lo1,iv1⟩ q j:=by
  intro q j ⟨h1,h2⟩;refine⟨h1,fun hq=>?_⟩;simp only;rw[a1L hf2,M9];obtain⟨e1,h3,h4⟩:=h2 hq;split
  ·exact⟨_,rfl,rfl⟩
  ·simp only at h3;rw[h3];exact⟨_,rfl,by cases e1<;>first|exact h4|rfl⟩
 refine⟨fun d x hx=>?_,fun j x hx=>?_,hs.nk,fun j hj=>b3K (hs.fT j hj),fun j hj=>b0Q rfl (b3q (hs.fH j hj))⟩
 ·obtain⟨y,hy,rfl⟩:=b6z hx;rcases hs.T d y hy with h|⟨s,h1,h2⟩
  ·subst h;exact .inl (by simp[b0g,a3A])
  ·unfold b0g;cases hm:a3A k y with
   |true=>exact .inl rfl
   |false=>
    refine .inr ⟨s,?_,j5.mono hok hk _ _ h2⟩;have:=b6m (k:=k) h1;simp only[b2D,h2.mentE k,hm]at this;exact this
 ·simp only;rw[a1L hf2,M9];rcases b3b hx with⟨rfl,rfl⟩|⟨hne,hx⟩
  ·exact⟨.row v' n xs z ty,by simp,by exact⟨rfl,rfl,rfl,hrep,hfl,hlen⟩⟩
  ·obtain⟨y,hy,rfl⟩:=b5u hx;obtain⟨e1,h1,h2⟩:=hs.H j y hy;refine⟨a1P k e1,by rw[j6 hne];simp only at h1;rw[h1];rfl,?_⟩;have h3:=a3H.mono hok hk h2;cases y<;>cases e1<;>simp only[b6s,a1P,a3H]at h3⊢
   ·exact⟨h3.1,b5C h3.2⟩
   ·exact h3
   ·exact h3
theorem c0J{T:List (Nat×D)}{H:Hy}{nk:Nat}{T':List (Nat×SV)}{H':Hp}{nk':Nat}{w w1:World}{lo lo1:Nat}{iv iv1:List (Nat×Nat)}{v':Value}{n z:Nat}{l:List D}{xs:List Value}{ty:TypeId}
 (hs:Sim A ⟨T',H',nk',w,lo,iv⟩ ⟨T,H,nk⟩) (hv:∀b,b∈r6 v'→b∈bs H'∨w.heap.size≤b) (hfx:Fx (bs H') w w1) (hlo:(lo1=w1.heap.size)∨(lo1=lo∧iv1=iv))
 (hrep:l5 (okS A ⟨T',(nk',.row v' n xs z ty)::H',nk'+1,w1,lo1,iv1⟩) w1 l xs) (hfl:B4 l=true) (hlen:l.length=n*z):
 Sim A ⟨T',(nk',.row v' n xs z ty)::H',nk'+1,w1,lo1,iv1⟩ ⟨T,(nk,.row z n l ty)::H,nk+1⟩:=by
 have hnk:nk=nk':=hs.nk;subst hnk
 have hok:∀c,okS A ⟨T',H',nk,w,lo,iv⟩ c→okS A ⟨T',(nk,.row v' n xs z ty)::H',nk+1,w1,lo1,iv1⟩ c∧w1.heap[c]?=w.heap[c]?:=by
  intro c ⟨h1,h2,h3⟩;refine⟨⟨⟨?_,h1.2⟩,C5 h2 hfx.size,fun x hx=>?_⟩,hfx.block c h2 h3⟩
  ·rcases hlo with rfl|⟨rfl,rfl⟩
   ·exact .inl (C5 h2 hfx.size)
   ·exact h1.1
  ·simp only[bs,bsE,E3]at hx;rcases hx with hx|hx
   ·rcases hv x hx with hx|hx
    ·exact h3 x hx
    ·intro e;simp only at h2;omega
   ·exact h3 x hx
 have hk:∀q k,B0 ⟨T',H',nk,w,lo,iv⟩ q k→B0 ⟨T',(nk,.row v' n xs z ty)::H',nk+1,w1,lo1,iv1⟩ q k:=by
  intro q k ⟨h1,h2⟩;simp only at h1;refine⟨by simp only;omega,fun hq=>?_⟩;simp only;rw[Q5 (by omega)];exact h2 hq
 refine⟨fun d x hx=>?_,fun k e he=>?_,rfl,fun j hj=>hs.fT j (by simp only at hj⊢;omega),fun j hj=>Q1 rfl (hs.fH j (by simp only at hj⊢;omega))⟩
 ·rcases hs.T d x hx with h|⟨s,h1,h2⟩
  ·exact .inl h
  ·exact .inr ⟨s,h1,j5.mono hok hk _ _ h2⟩
 ·simp only[m7]at he;simp only[l4];cases hb:Nat.beq nk k with
  |true=>
   rw[hb]at he;cases he;exact⟨_,rfl,by exact⟨rfl,rfl,rfl,hrep,hfl,hlen⟩⟩
  |false=>
   rw[hb]at he;obtain⟨e',h1,h2⟩:=hs.H k e he;exact⟨e',h1,a3H.mono hok hk h2⟩
theorem c9W{seq:Bool}{e esz bytes:Nat}{s x:D}{s' x':SV}{dst:Option Nat}(h:d2a e esz bytes s x sy fun st' d=>O5 X st' dst d KY)(hs:Sim A st sy)(h1:j5 (okS A st) st.w (B0 st) s s')(h2:j5 (okS A st) st.w (B0 st) x x'):
 b8G (cx X w0 bor) seq e esz bytes s' x' st fun st' d=>put (cx X w0 bor) st' dst d fun st'=>∃sy',KY sy'∧Sim A st' sy':=by
 unfold d2a at h;split at h
 ·exact h.elim
 rename_i hez;have hez:=J6 hez;have hnews:=h;clear h;obtain⟨m,l,news,h,hn,hrep,hfl,hlen⟩:=c7n (X:=X) (w0:=w0) (bor:=bor) hnews hs h2;clear hnews;obtain⟨T',H',nk',w,lo,iv⟩:=st
 have reW_of:∀ {w1:World}{K:List (Nat×SV)→Hp→Nat→World→Nat→List (Nat×Nat)→Prop},(∀lo1 iv1,(lo1=w1.heap.size∨(lo1=lo∧iv1=iv))→K T' H' nk' w1 lo1 iv1)→reW seq ⟨T',H',nk',w,lo,iv⟩ w1 K:=by
  intro w1 K hh;cases seq with
  |true=>exact hh _ _ (.inl rfl)
  |false=>exact hh _ _ (.inr ⟨rfl,rfl⟩)
 split at h
 ·rename_i T H nk;have:=h1.sc;subst this;obtain⟨hb,r',n',⟨rfl,rfl⟩,h⟩:=h;have hnk:nk=nk':=hs.nk;subst hnk;refine⟨0,0,m,.slice none 0 0,[],news,⟨hez,hn,by simpa using hb.1,by simpa[maxLen]using hb.2⟩,.inl ⟨rfl,rfl,fun v' w1 hv hz hf=>reW_of fun lo1 iv1 hlo=>?_⟩⟩
  have hsim:=c3b (ty:=e) hs hz hf hlo hrep hfl hlen;refine⟨hs.fT nk (y6 _),hs.fH nk (y6 _),D3 h hsim ?_⟩;simp only[j5];exact⟨trivial,by simp only;omega,fun _=>⟨_,by simp only[l4,Nat.beq_refl];rfl,rfl⟩⟩
 ·rename_i k z0 T H nk;have h1':=h1;simp only[j5]at h1;obtain⟨rfl,hkey⟩:=h1;split at h
  ·rename_i z n r ty hfy;split at h
   ·rename_i hzz hty;obtain rfl:=z7 hzz;obtain rfl:=z7 hty;obtain⟨hb,r',n',⟨rfl,rfl⟩,h⟩:=h;obtain⟨e',hf',he⟩:=hs.H _ _ hfy;cases e' with
    |blk=>exact he.elim
    |mp=>exact he.elim
    |row v n' xs z' ty'=>
     obtain⟨rfl,rfl,rfl,hrep0,hfl0,hlen0⟩:=he;refine⟨k,n,m,v,xs,news,⟨hez,hn,hb.1,by simpa[maxLen]using hb.2⟩,.inr (.inl ⟨rfl,hf',fun v' w1 hv hz hf=>reW_of fun lo1 iv1 hlo=>?_⟩)⟩
     rw[a9H]at h;have h:=a3V h;rw[b2S]at h
     have hsim:=c1P (k:=k) (v':=v') (n:=n+m) (z:=z) (ty:=ty) (l:=r++l) (xs:=xs++news) hs hf' hz hf hlo (hrep0.app hrep) (M3 fun d hd=>by
      rcases E3.1 hd with hd|hd
      ·exact A9 hfl0 hd
      ·exact A9 hfl hd) (by simp[hlen0,hlen,R7])
     refine a8c (e0:=a1P k _) (by rw[M9];simp only at hf';rw[hf'];rfl) ?_;rw[a5A];refine D3 h hsim ?_;simp only[j5];exact⟨trivial,hkey.1,fun _=>⟨_,by simp only;rw[a1L (e0:=a1P k _) (by rw[M9];simp only at hf';rw[hf'];rfl),k9 rfl],rfl⟩⟩
   ·exact h.elim
  ·exact h.elim
 ·rename_i k o z0 n c T H nk;simp only[j5]at h1;obtain⟨rfl,hkey⟩:=h1;split at h
  ·rename_i z N r ty ho hc hz0 hfy;obtain rfl:=z7 ho;obtain rfl:=z7 hc;split at h
   ·rename_i hzz hty;obtain rfl:=z7 hzz;obtain rfl:=z7 hty;obtain⟨⟨hN0,hnN,hb⟩,r',n',⟨rfl,rfl⟩,h⟩:=h;obtain⟨e',hf',he⟩:=hs.H _ _ hfy;cases e' with
    |blk=>exact he.elim
    |mp=>exact he.elim
    |row v N' xs z' ty'=>
     obtain⟨rfl,rfl,rfl,hrep0,hfl0,hlen0⟩:=he;have hle:n*z≤N*z:=a1d _ hnN;refine⟨k,n,m,v,xs.take (n*z),news,⟨hez,hn,hb.1,by simpa[maxLen]using hb.2⟩,.inr (.inr (.inl ⟨rfl,⟨v,N,xs,hf',hN0,hnN,rfl⟩,fun v' w1 hv hz hf=>reW_of fun lo1 iv1 hlo=>?_⟩))⟩
     rw[a9H]at h;have h:=a3V h;rw[b2S]at h
     have hsim:=c1P (k:=k) (v':=v') (n:=n+m) (z:=z) (ty:=ty) (l:=r.take (n*z)++l) (xs:=xs.take (n*z)++news) hs hf' hz hf hlo ((hrep0.take _).app hrep) (M3 fun d hd=>by
      rcases E3.1 hd with hd|hd
      ·exact A9 hfl0 (a4M hd)
      ·exact A9 hfl hd) (by simp only[O6,Z5,hlen0,hlen,a1Q hle,R7])
     refine a8c (e0:=a1P k _) (by rw[M9];simp only at hf';rw[hf'];rfl) ?_;rw[a5A];refine D3 h hsim ?_;simp only[j5];exact⟨trivial,hkey.1,fun _=>⟨_,by simp only;rw[a1L (e0:=a1P k _) (by rw[M9];simp only at hf';rw[hf'];rfl),k9 rfl],rfl⟩⟩
   ·exact h.elim
  ·exact h.elim
 ·exact h.elim
end
def Q4(k:Nat):Hp→Hp
 |[]=>[]
 |(j,e)::H=>match Nat.beq j k with|true=>Q4 k H|false=>(j,e)::Q4 k H
theorem a7H{H:Hp}{k j:Nat}(h:j≠k):l4 (Q4 k H) j=l4 H j:=by
 induction H with
 |nil=>rfl
 |cons x H ih=>
  obtain⟨i,e⟩:=x;simp only[Q4,l4];cases hb:Nat.beq i k with
  |true=>
   have:=z7 hb;subst this;rw[S9 (Ne.symm h)];exact ih
  |false=>simp only[l4];rw[ih]
theorem a5P{H:Hp}{k j:Nat}{e:Ent}(h:(j,e)∈Q4 k H):(j,e)∈H∧j≠k:=by
 induction H with
 |nil=>cases h
 |cons x H ih=>
  obtain⟨i,e'⟩:=x;simp only[Q4]at h;cases hb:Nat.beq i k with
  |true=>rw[hb]at h;obtain⟨h1,h2⟩:=ih h;exact⟨F6 _ h1,h2⟩
  |false=>
   rw[hb]at h;rcases u9.1 h with h|h
   ·cases h;exact⟨C7,a3y hb⟩
   ·obtain⟨h1,h2⟩:=ih h;exact⟨F6 _ h1,h2⟩
theorem c0L{k:Nat}(H:Hp):(Q4 k H).Sublist H:=by
 induction H with
 |nil=>exact List.Sublist.slnil
 |cons x H ih=>
  obtain⟨i,e⟩:=x;simp only[Q4];cases hb:Nat.beq i k with
  |true=>exact List.Sublist.cons _ ih
  |false=>exact List.Sublist.cons_cons _ ih
theorem d1v{H H':Hp}(h:H.Sublist H'):(bs H).Sublist (bs H'):=by
 induction h with
 |slnil=>exact List.Sublist.slnil
 |cons x _ ih=>obtain⟨i,e⟩:=x;exact ih.trans (List.sublist_append_right _ _)
 |cons_cons x _ ih=>obtain⟨i,e⟩:=x;exact List.Sublist.append (List.Sublist.refl _) ih
def a3d(g:Nat→List SV→List SV):Hp→Hp
 |[]=>[]
 |(j,.blk b cs ty)::H=>(j,.blk b (g j cs) ty)::a3d g H
 |(j,e)::H=>(j,e)::a3d g H
theorem b2z{g:Nat→List SV→List SV}{H:Hp}{j:Nat}:l4 (a3d g H) j=(l4 H j).map (fun|.blk b cs ty=>.blk b (g j cs) ty|e=>e):=by
 induction H with
 |nil=>rfl
 |cons x H ih=>
  obtain⟨i,e⟩:=x;cases e<;>simp only[a3d,l4]<;>cases hb:Nat.beq i j
  ·exact ih
  ·have:=z7 hb;subst this;rfl
  ·exact ih
  ·rfl
  ·exact ih
  ·rfl
theorem mem_map{g:Nat→List SV→List SV}{H:Hp}{j:Nat}{e:Ent}(h:(j,e)∈a3d g H):(∃b cs ty,(j,.blk b cs ty)∈H∧e=.blk b (g j cs) ty)∨((j,e)∈H∧isR e=true):=by
 induction H with
 |nil=>cases h
 |cons x H ih=>
  obtain⟨i,e'⟩:=x;cases e' with
  |blk b cs ty=>
   simp only[a3d]at h;rcases u9.1 h with h|h
   ·cases h;exact .inl ⟨b,cs,ty,C7,rfl⟩
   ·rcases ih h with⟨b,cs,ty,h1,h2⟩|⟨h1,h2⟩
    ·exact .inl ⟨b,cs,ty,F6 _ h1,h2⟩
    ·exact .inr ⟨F6 _ h1,h2⟩
  |row v n xs sz ty=>
   simp only[a3d]at h;rcases u9.1 h with h|h
   ·cases h;exact .inr ⟨C7,rfl⟩
   ·rcases ih h with⟨b,cs,ty,h1,h2⟩|⟨h1,h2⟩
    ·exact .inl ⟨b,cs,ty,F6 _ h1,h2⟩
    ·exact .inr ⟨F6 _ h1,h2⟩
  |mp b es ty=>
   simp only[a3d]at h;rcases u9.1 h with h|h
   ·cases h;exact .inr ⟨C7,rfl⟩
   ·rcases ih h with⟨b,cs,ty,h1,h2⟩|⟨h1,h2⟩
    ·exact .inl ⟨b,cs,ty,F6 _ h1,h2⟩
    ·exact .inr ⟨F6 _ h1,h2⟩
theorem c2K{g:Nat→List SV→List SV}{H:Hp}:bs (a3d g H)=bs H:=by
 induction H with
 |nil=>rfl
 |cons x H ih=>obtain⟨i,e⟩:=x;cases e<;>simp[a3d,bs,bsE,ih]
theorem c6Y{g:Nat→List SV→List SV}{H:Hp}:(a3d g H).map (·.1)=H.map (·.1):=by
 induction H with
 |nil=>rfl
 |cons x H ih=>obtain⟨i,e⟩:=x;cases e<;>simp[a3d,ih]
theorem d0g{g:Nat→List SV→List SV}{H:Hp}(j:Nat):bOf (a3d g H) j=bOf H j∧o5 (a3d g H) j=o5 H j:=by
 simp only[bOf,o5,b2z];cases l4 H j with
 |none=>exact⟨rfl,rfl⟩
 |some e=>cases e<;>exact⟨rfl,rfl⟩
section
variable {A : Nat → Prop}{Xx : Cx}{w : World}
structure c9x(ok ok':Nat→Prop)(R R':Bool→Nat→Prop)(H:Hp)(w:World)(k:Nat)(e:E):Prop where
 ok:∀b,ok b→ok' b
 R:∀q j,j≠k→R q j→R' q j
 blk:∀cs ty,e=.blk cs ty→B4 cs=true∧o5 H k=undef∧∃b xs,bOf H k=b∧ok' b∧l5 ok' w cs xs∧∀j,j<cs.length→w.cell? ⟨b,j,none⟩=xs[j]?
 row:∀z n l ty,e=.row z n l ty→Rep ok' w (.lst z n l) (o5 H k)
variable {ok ok' : Nat → Prop}{R R' : Bool → Nat → Prop}{H : Hp}{k : Nat}{e : E}
theorem a9v{s:SV}(h:ment k s=false):den (Q4 k H) s=den H s:=a9D k (fun j hj=>⟨by simp[bOf,a7H hj],by simp[o5,a7H hj]⟩) s h
theorem d0p{x x':D}(h:fzO k e x=some x')(ho:a6F x=true):a6F x'=true:=by
 cases x<;>simp[a6F]at ho<;>simp only[fzO]at h
 ·cases h;rfl
 ·cases h;rfl
 ·cases h;rfl
 ·split at h
  ·cases h;rfl
  ·split at h<;>cases h;rfl
 ·split at h<;>cases h;rfl
 ·split at h
  ·cases h;rfl
  ·split at h<;>cases h;rfl
 ·split at h<;>cases h;rfl
 ·split at h
  ·cases h;rfl
  ·split at h
   ·split at h<;>cases h;rfl
   ·cases h
 ·split at h<;>cases h;rfl
 ·cases h;rfl
theorem c8z{l l':List D}(h:fzL k e l=some l')(ho:B4 l=true):B4 l'=true:=by
 induction l generalizing l' with
 |nil=>simp[fzL]at h;subst h;rfl
 |cons x l ih=>
  simp only[fzL]at h;split at h
  ·rename_i y r hy hr;cases h;simp only[B4];rw[d0p hy (A9 ho C7)];exact ih hr (M3 fun d hd=>A9 ho (F6 _ hd))
  ·cases h
mutual
theorem c3O(hz:c9x ok ok' R R' H w k e):∀(x:D) (s:SV) (x':D),j5 ok w R x s→fzO k e x=some x'→∃s',j5 ok' w R' x' s'∧den (Q4 k H) s'=den H s∧ment k s'=false
 |.v x,s,x',h,hx=>by
  simp only[j5]at h;simp only[fzO]at hx;cases hx;obtain⟨rfl,h⟩:=h;exact⟨.v x,by simp only[j5];exact⟨trivial,h⟩,rfl,rfl⟩
 |.lst z n l,s,x',h,hx=>by
  simp only[fzO]at hx;cases hx;simp only[j5]at h;obtain⟨y,rfl,h⟩:=h;exact⟨.v y,by simp only[j5];exact⟨y,rfl,Rep.mono (fun b hb=>⟨hz.ok b hb,rfl⟩) _ _ h⟩,rfl,rfl⟩
 |.ptr l o,s,x',h,hx=>by
  simp only[fzO]at hx;cases hx;simp only[j5]at h;obtain⟨y,rfl,h⟩:=h;exact⟨.v y,by simp only[j5];exact⟨y,rfl,Rep.mono (fun b hb=>⟨hz.ok b hb,rfl⟩) _ _ h⟩,rfl,rfl⟩
 |.own j o,s,x',h,hx=>by
  simp only[j5]at h;obtain⟨rfl,h⟩:=h;simp only[fzO]at hx;cases hb:Nat.beq j k with
  |false=>
   rw[hb]at hx;cases hx;exact⟨_,by simp only[j5];exact⟨trivial,hz.R _ _ (a3y hb) h⟩,a9v (by simpa[ment]using hb),by simpa[ment]using hb⟩
  |true=>
   have:=z7 hb;subst this;rw[hb]at hx;simp only at hx;split at hx
   ·cases hx;obtain⟨hfl,hrv,b,xs,h1,h2,h3,h4⟩:=hz.blk _ _ rfl;refine⟨.v (.pointer (some ⟨b,o,none⟩)),?_,by simp[den,h1],rfl⟩;simp only[j5,Rep];exact⟨_,rfl,b,0,xs,by rw[a0k],h2,hfl,h3,fun i hi=>by rw[a0k];exact h4 i hi⟩
   ·cases hx
 |.ownx j o,s,x',h,hx=>by
  simp only[j5]at h;obtain⟨rfl,h⟩:=h;simp only[fzO]at hx;cases hb:Nat.beq j k with
  |false=>rw[hb]at hx;cases hx;exact⟨_,by simp only[j5];exact⟨trivial,hz.R _ _ (a3y hb) h⟩,a9v (by simpa[ment]using hb),by simpa[ment]using hb⟩
  |true=>rw[hb]at hx;cases hx
 |.elr j z i o,s,x',h,hx=>by
  simp only[j5]at h;obtain⟨rfl,h⟩:=h;simp only[fzO]at hx;cases hb:Nat.beq j k with
  |false=>rw[hb]at hx;cases hx;exact⟨_,by simp only[j5];exact⟨trivial,hz.R _ _ (a3y hb) h⟩,a9v (by simpa[ment]using hb),by simpa[ment]using hb⟩
  |true=>rw[hb]at hx;cases hx
 |.row j z,s,x',h,hx=>by
  simp only[j5]at h;obtain⟨rfl,h⟩:=h;simp only[fzO]at hx;cases hb:Nat.beq j k with
  |false=>rw[hb]at hx;cases hx;exact⟨_,by simp only[j5];exact⟨trivial,hz.R _ _ (a3y hb) h⟩,a9v (by simpa[ment]using hb),by simpa[ment]using hb⟩
  |true=>
   have:=z7 hb;subst this;rw[hb]at hx;simp only at hx;split at hx
   ·cases hx;exact⟨.v (o5 H j),by simp only[j5];exact⟨_,rfl,hz.row _ _ _ _ rfl⟩,rfl,rfl⟩
   ·cases hx
 |.osl j o z n c,s,x',h,hx=>by
  simp only[j5]at h;obtain⟨rfl,h⟩:=h;simp only[fzO]at hx;cases hb:Nat.beq j k with
  |false=>rw[hb]at hx;cases hx;exact⟨_,by simp only[j5];exact⟨trivial,hz.R _ _ (a3y hb) h⟩,a9v (by simpa[ment]using hb),by simpa[ment]using hb⟩
  |true=>
   have:=z7 hb;subst this;rw[hb]at hx;simp only at hx;split at hx
   ·split at hx
    ·rename_i l hl hnc hnm;cases hx;obtain⟨hfl,hrv,b,xs,h1,h2,h3,h4⟩:=hz.blk _ _ rfl;obtain⟨g1,g2,g3⟩:=h3.part hl;refine⟨.v (.slice (some ⟨b,o,none⟩) n c),?_,by simp[den,h1,hrv,b2e,undef],rfl⟩;simp only[j5,Rep];have hll:=(b6B hl).2.1;rw[c0v]at hll;refine⟨_,rfl,_,c,rfl,J6 hnc,by have:=J6 hnm;omega,g2,a7g hfl fun d hd=>a7n (a4M (hll▸hd)),.inr ⟨b,o,_,rfl,h2,g1,fun i hi=>?_⟩⟩;rw[h4 (o+i) (by omega),a5q,k9 hi,b0r]
    ·cases hx
   ·cases hx
 |.agg l,s,x',h,hx=>by
  simp only[j5]at h;obtain⟨cs,h1,h2,h3⟩:=h;simp only[fzO]at hx;split at hx
  ·rename_i l' hl;cases hx;obtain⟨cs',g1,g2,g3⟩:=a4W hz l cs l' h2 hl;refine⟨.agg cs',by simp only[j5];exact⟨cs',rfl,g1,c8z hl h3⟩,?_,by simpa[ment]using g3⟩
   cases s<;>simp[a4Y]at h1
   ·rename_i y;cases y<;>simp at h1;subst h1;rw[H9]at g2;simp[den,g2]
   ·subst h1;simp[den,g2]
  ·cases hx
 |.tup l,s,x',h,hx=>by
  simp only[j5]at h;simp only[fzO]at hx;split at hx
  ·rename_i l' hl;cases hx;rcases h with⟨cs,rfl,h2⟩|⟨a,rfl,h2⟩
   ·obtain⟨cs',g1,g2,g3⟩:=a4W hz l cs l' h2 hl;exact⟨.tup cs',by simp only[j5];exact .inl ⟨cs',rfl,g1⟩,by simp[den,g2],by simpa[ment]using g3⟩
   ·obtain⟨cs',g1,g2,g3⟩:=a4W hz l _ l' h2 hl;rw[H9]at g2;exact⟨.tup cs',by simp only[j5];exact .inl ⟨cs',rfl,g1⟩,by simp[den,g2],by simpa[ment]using g3⟩
  ·cases hx
 |.fn f a b,s,x',h,hx=>by
  simp only[j5]at h;simp only[fzO]at hx;split at hx
  ·rename_i a' b' ha hb;cases hx;rcases h with⟨p,q,rfl,h2,h3⟩|⟨p,q,rfl,h2,h3⟩
   ·obtain⟨p',g1,g2,g3⟩:=a4W hz a p a' h2 ha;obtain⟨q',g4,g5,g6⟩:=a4W hz b q b' h3 hb;exact⟨.fn f p' q',by simp only[j5];exact .inl ⟨p',q',rfl,g1,g4⟩,by simp[den,g2,g5],by simp only[ment,g3,g6]⟩
   ·obtain⟨p',g1,g2,g3⟩:=a4W hz a _ a' h2 ha;obtain⟨q',g4,g5,g6⟩:=a4W hz b _ b' h3 hb;rw[H9]at g2 g5;exact⟨.fn f p' q',by simp only[j5];exact .inl ⟨p',q',rfl,g1,g4⟩,by simp[den,g2,g5],by simp only[ment,g3,g6]⟩
  ·cases hx
 |.mp l,s,x',h,hx=>by
  simp only[fzO]at hx;cases hx;simp only[j5]at h⊢;obtain⟨y,rfl,h⟩:=h;exact⟨.v y,⟨y,rfl,Rep.mono (fun b hb=>⟨hz.ok b hb,rfl⟩) _ _ h⟩,rfl,rfl⟩
 |.und,s,x',h,hx=>by
  simp only[fzO]at hx;cases hx;simp only[j5]at h;subst h;exact⟨.v undef,by simp only[j5],rfl,rfl⟩
 |.bad,_,_,_,hx=>by simp[fzO]at hx
theorem a4W(hz:c9x ok ok' R R' H w k e):∀(l:List D) (r:List SV) (l':List D),j9 ok w R l r→fzL k e l=some l'→∃r',j9 ok' w R' l' r'∧o6 (Q4 k H) r'=o6 H r∧I2 k r'=false
 |[],[],l',_,hx=>by simp only[fzL]at hx;cases hx;exact⟨[],trivial,rfl,rfl⟩
 |d::l,y::r,l',h,hx=>by
  simp only[j9]at h;simp only[fzL]at hx;split at hx
  ·rename_i d' l'' hd hl;cases hx;obtain⟨s',g1,g2,g3⟩:=c3O hz d y d' h.1 hd;obtain⟨r',g4,g5,g6⟩:=a4W hz l r l'' h.2 hl;exact⟨s'::r',⟨g1,g4⟩,by simp[o6,g2,g5],by simp only[I2,g3,g6]⟩
  ·cases hx
 |[],_::_,_,h,_=>by simp[j9]at h
 |_::_,[],_,h,_=>by simp[j9]at h
end
theorem c4V(hz:c9x ok ok' R R' H w k e):∀(l:List D) (r:List SV),j9 ok w R l r→∃r',j9 ok' w R' (fzC k e l) r'∧I2 k r'=false∧∀xs,q8 H r xs→q8 (Q4 k H) r' xs
 |[],[],_=>⟨[],trivial,rfl,fun xs h=>by cases xs with
  |nil=>trivial
  |cons=>simp[q8]at h⟩
 |d::l,y::r,h=>by
  simp only[j9]at h;obtain⟨r',g4,g5,g6⟩:=c4V hz l r h.2;simp only[fzC,fzG];cases hd:fzO k e d with
  |none=>exact⟨.bad::r',⟨by simp only[j5],g4⟩,by simp only[I2,ment,g5],fun xs hc=>by
   cases xs with
   |nil=>simp[q8]at hc
   |cons x xs=>simp only[q8]at hc;exact⟨.inl rfl,g6 xs hc.2⟩⟩
  |some d'=>
   obtain⟨s',g1,g2,g3⟩:=c3O hz d y d' h.1 hd;have hne:d≠ .bad:=fun e=>by subst e;simp[fzO]at hd
   have hy:=h.1.ne hne;refine⟨s'::r',⟨g1,g4⟩,by simp only[I2,g3,g5],fun xs hc=>?_⟩;cases xs with
   |nil=>simp[q8]at hc
   |cons x xs=>
    simp only[q8]at hc;refine⟨?_,g6 xs hc.2⟩;rcases hc.1 with h|h
    ·exact absurd h hy
    ·exact .inr (by rw[g2];exact h)
 |[],_::_,h=>by simp[j9]at h
 |_::_,[],h=>by simp[j9]at h
theorem c8t{T:List (Nat×D)}{d:Nat}{x:D}(h:u0 (fzT k e T) d=some x):∃y,u0 T d=some y∧x=fzG k e y:=by
 induction T with
 |nil=>simp[u0,fzT]at h
 |cons q T ih=>
  obtain⟨d',s'⟩:=q;simp only[u0,fzT]at h⊢;cases hb:Nat.beq d' d with
  |true=>rw[hb]at h;cases h;exact⟨_,rfl,rfl⟩
  |false=>rw[hb]at h;exact ih h
theorem c8g{Hd:Hy}{j:Nat}{x:E}(h:m7 (fzH k e Hd) j=some x):j≠k∧∃y,m7 Hd j=some y∧x=fzE k e y:=by
 induction Hd with
 |nil=>simp[m7,fzH]at h
 |cons q Hd ih=>
  obtain⟨i,s'⟩:=q;simp only[fzH]at h;simp only[m7];cases hb:Nat.beq i k with
  |true=>
   rw[hb]at h;obtain⟨h1,y,h2,h3⟩:=ih h;have:=z7 hb;subst this;rw[S9 (Ne.symm h1)];exact⟨h1,y,h2,h3⟩
  |false=>
   rw[hb]at h;simp only[m7]at h;cases hb2:Nat.beq i j with
   |true=>rw[hb2]at h;cases h;exact⟨by have:=z7 hb2;subst this;exact a3y hb,_,rfl,rfl⟩
   |false=>rw[hb2]at h;exact ih h
end
mutual
theorem a5b{ok:Nat→Prop}{w:World}{R:Bool→Nat→Prop}{H:Hp}:∀(x:D) (s:SV),j5 ok w R x s→a0T x=true→Rep ok w x (den H s)
 |.v x,s,h,_=>by simp only[j5]at h;rw[h.1];simp only[Rep,den];exact⟨trivial,h.2⟩
 |.lst z n l,s,h,_=>by simp only[j5]at h;obtain⟨y,rfl,h⟩:=h;exact h
 |.ptr l o,s,h,_=>by simp only[j5]at h;obtain⟨y,rfl,h⟩:=h;exact h
 |.agg l,s,h,hc=>by
  simp only[j5]at h;obtain⟨cs,h1,h2,h3⟩:=h;simp only[a0T]at hc;split at hc
  ·rename_i hcl;have:=G7 (H:=H) l cs h2 hcl;simp only[Rep];cases s<;>simp[a4Y]at h1
   ·rename_i y;cases y<;>simp at h1;subst h1;rw[H9]at this;exact⟨_,rfl,this,h3⟩
   ·subst h1;exact⟨_,rfl,by simpa using this,h3⟩
  ·cases hc
 |.tup l,s,h,hc=>by
  simp only[j5]at h;simp only[a0T]at hc;simp only[Rep];rcases h with⟨cs,rfl,h⟩|⟨a,rfl,h⟩
  ·exact⟨_,rfl,by simpa using G7 (H:=H) l cs h hc⟩
  ·have:=G7 (H:=H) l _ h hc;rw[H9]at this;exact⟨_,rfl,this⟩
 |.mp l,s,h,hc=>by
  simp only[j5]at h;obtain⟨y,rfl,h⟩:=h;exact h
 |.fn f a b,s,h,hc=>by
  simp only[j5]at h;simp only[a0T]at hc;split at hc
  ·rename_i ha;simp only[Rep];rcases h with⟨p,q,rfl,h2,h3⟩|⟨p,q,rfl,h2,h3⟩
   ·exact⟨_,_,rfl,by simpa using G7 (H:=H) a p h2 ha,by simpa using G7 (H:=H) b q h3 hc⟩
   ·have g1:=G7 (H:=H) a _ h2 ha;have g2:=G7 (H:=H) b _ h3 hc;rw[H9]at g1 g2;exact⟨_,_,rfl,g1,g2⟩
  ·cases hc
 |.own _ _,_,_,h=>by simp[a0T]at h
 |.ownx _ _,_,_,h=>by simp[a0T]at h
 |.row _ _,_,_,h=>by simp[a0T]at h
 |.elr _ _ _ _,_,_,h=>by simp[a0T]at h
 |.osl _ _ _ _ _,_,_,h=>by simp[a0T]at h
 |.und,_,_,h=>by simp[a0T]at h
 |.bad,_,_,h=>by simp[a0T]at h
theorem G7{ok:Nat→Prop}{w:World}{R:Bool→Nat→Prop}{H:Hp}:∀(l:List D) (r:List SV),j9 ok w R l r→U3 l=true→l5 ok w l (o6 H r)
 |[],[],_,_=>trivial
 |d::l,y::r,h,hc=>by
  simp only[j9]at h;simp only[U3]at hc;split at hc
  ·rename_i hd;exact⟨a5b d y h.1 hd,G7 l r h.2 hc⟩
  ·cases hc
 |[],_::_,h,_=>by simp[j9]at h
 |_::_,[],h,_=>by simp[j9]at h
end
theorem b3p{ok:Nat→Prop}{w:World}{R:Bool→Nat→Prop}:∀(l:List D) (r:List SV),j9 ok w R l r→U3 l=true→ .bad∉r
 |[],[],_,_=>by simp
 |d::l,y::r,h,hc=>by
  simp only[j9]at h;simp only[U3]at hc;split at hc
  ·rename_i hd;have h2:=b3p l r h.2 hc;intro hm;rcases u9.1 hm with e|hm
   ·subst e;cases d<;>simp_all[j5,a0T,a4Y]
   ·exact h2 hm
  ·cases hc
 |[],_::_,h,_=>by simp[j9]at h
 |_::_,[],h,_=>by simp[j9]at h
section
variable {A : Nat → Prop}{Xx : Cx}{w : World}{st : St}{sy : Sy}
def c7u(st st':St):Prop:=∀d s,A8 st'.T d=some s→s=.bad∨∃s0,A8 st.T d=some s0∧s0≠ .bad∧den st'.H s=den st.H s0
theorem b7x{α:Type}{p:α→Prop}(d:α):∃x,(p x∨¬(∃y,p y)∧x=d):=by
 by_cases h:∃y,p y
 ·obtain⟨y,hy⟩:=h;exact⟨y,.inl hy⟩
 ·exact⟨d,.inr ⟨h,rfl⟩⟩
theorem b7F{g:Nat→SV→SV}{T:List (Nat×SV)}{d:Nat}:A8 (T.map fun p=>(p.1,g p.1 p.2)) d=(A8 T d).map (g d):=by
 induction T with
 |nil=>rfl
 |cons x T ih=>
  obtain⟨i,s⟩:=x;simp only[H7,A8];cases hb:Nat.beq i d with
  |true=>have:=z7 hb;subst this;rfl
  |false=>exact ih
theorem c1t{g:Nat→SV→SV}{T:List (Nat×SV)}{j:Nat}(h:∀d s,ment j (g d s)=false):w8 j (T.map fun p=>(p.1,g p.1 p.2))=true:=by
 induction T with
 |nil=>rfl
 |cons x T ih=>simp only[H7,w8,h];exact ih
theorem c1b{g:Nat→List SV→List SV}{H:Hp}{j:Nat}(h:∀i cs,I2 j (g i cs)=false):A7 j (a3d g H)=true:=by
 induction H with
 |nil=>rfl
 |cons x H ih=>
  obtain⟨i,e⟩:=x;cases e with
  |blk b cs ty=>simp only[a3d,A7,h];exact ih
  |row v n xs sz ty=>simp only[a3d,A7];exact ih
  |mp b es ty=>simp only[a3d,A7];exact ih
theorem b5U{H:Hp}:∀(xs:List Value),q8 H (xs.map fun _=>SV.bad) xs
 |[]=>trivial
 |x::xs=>⟨.inl rfl,b5U xs⟩
theorem c5K{α:Type}(k:Nat)(l:List α):I2 k (l.map fun _=>SV.bad)=false:=by
 induction l with
 |nil=>rfl
 |cons x l ih=>simp only[H7,I2,ment];exact ih
def b0a(H' H:Hp):Prop:=∀j e,(j,e)∈H'→∃e0,(j,e0)∈H∧∀b,b∈bsE e→b∈bsE e0
theorem b0a.bs{H' H:Hp}(h:b0a H' H)(b:Nat)(hb:b∈bs H'):b∈Sx.bs H:=by
 obtain⟨j,e,h1,h2⟩:=A3.1 hb;obtain⟨e0,h3,h4⟩:=h j e h1;exact A3.2 ⟨j,e0,h3,h4 b h2⟩
theorem b0a.refl(H:Hp):b0a H H:=fun _ e h=>⟨e,h,fun _ h=>h⟩
theorem b0a.trans{A B C:Hp}(h:b0a A B)(k:b0a B C):b0a A C:=fun j e hm=>by
 obtain⟨e1,h1,h2⟩:=h j e hm;obtain⟨e2,h3,h4⟩:=k j e1 h1;exact⟨e2,h3,fun b hb=>h4 b (h2 b hb)⟩
theorem c9Q(hA:∀b,(Xx.w0.heap.size≤b∨b∈Xx.bor)→A b)(hc:Cls Xx st.H st.nk w w)(hat:At st w)(hs:Sim A st sy){k:Nat}{e:E}(hf:m7 sy.H k=some e)(hok:okE e=true):
 ∃st',Cls Xx st'.H st'.nk w w∧At st' w∧Sim A st' ⟨fzT k e sy.T,fzH k e sy.H,sy.nk⟩∧b0a st'.H st.H∧st'.nk=st.nk∧c7u st st'∧
  ∀l r l',j9 (okS A st) w (B0 st) l r→fzL k e l=some l'→∃r',j9 (okS A st') w (B0 st') l' r'∧o6 st'.H r'=o6 st.H r:=by
 obtain⟨T,H,nk,ws,lo,iv⟩:=st;obtain⟨h1,h2,h3⟩:=hat;simp only at h1 h2 h3 hc;subst h1 h2 h3;obtain⟨e',hf',hr⟩:=hs.H k e hf;simp only at hf';have hmem:=o7 hf'
 have hkb:∀b,b∈bsE e'→b∉bs (Q4 k H):=by
  intro b hb hb2;obtain⟨j,x,hj,hbx⟩:=A3.1 hb2;obtain⟨hj1,hj2⟩:=a5P hj;exact a4o hc.nd hc.keys hmem hj1 (Ne.symm hj2) hb hbx
 have hsubl:=d1v (c0L (k:=k) H)
 --what is allowed now
 let ok':Nat→Prop:=fun b=>(b<ws.heap.size∧c1z (Q4 k H) b)∧A b
 let R':Bool→Nat→Prop:=fun q j=>j<nk∧(q=true→∃e,l4 (Q4 k H) j=some e∧isR e=true)
 have hz:c9x (okS A ⟨T,H,nk,ws,ws.heap.size,[]⟩) ok' (B0 ⟨T,H,nk,ws,ws.heap.size,[]⟩) R' H ws k e:=by
  have hok1:∀b,okS A ⟨T,H,nk,ws,ws.heap.size,[]⟩ b→ok' b:=fun b h=>⟨⟨h.2.1,fun c hcb=>h.2.2 c (hsubl.subset hcb)⟩,h.1.2⟩
  have hkok:∀b,b∈bsE e'→ok' b:=fun b hb=>⟨⟨c1c (hc.own k e' hmem) hb,fun c hcb e=>hkb b hb (e▸hcb)⟩,hA b (by
   rcases hc.lb b (A3.2 ⟨k,e',hmem,hb⟩)with h|h
   ·exact .inr h
   ·exact .inl h)⟩
  refine⟨hok1,fun q j hj hq=>⟨hq.1,fun h=>?_⟩,fun cs ty he=>?_,fun z n l ty he=>?_⟩
  ·rw[a7H hj];exact hq.2 h
  ·subst he;cases e' with
   |row=>exact hr.elim
   |mp=>exact hr.elim
   |blk b cs' ty'=>
    simp only[okE]at hok;split at hok
    ·rename_i hno;have hrep:=G7 (H:=H) _ _ hr.2 hno;obtain⟨ys,hy,hh⟩:=hc.blk hf';have hys:=c5T hy (b3p _ _ hr.2 hno);rw[←hys]at hrep;refine⟨hok,by simp[o5,hf'],b,ys,a7y hf',hkok b (by simp[bsE]),l5.mono (fun b hb=>⟨hok1 b hb,rfl⟩) _ _ hrep,fun j hj=>?_⟩;rw[a5g hh];simp
    ·cases hok
  ·subst he;cases e' with
   |blk=>exact hr.elim
   |mp=>exact hr.elim
   |row v n' xs z' ty'=>
    obtain⟨rfl,rfl,rfl,hrep,hfl,hlen⟩:=hr;have hown:=hc.row hf';have hrv:o5 H k=v:=by simp[o5,hf']
    rw[hrv];simp only[Rep];rcases hown.2 with⟨rfl,rfl⟩|⟨g,cap,cur,rfl,hb,hg,hnc,hcm,_⟩
    ·exact⟨none,0,rfl,y6 _,by simp,hlen,hfl,.inl rfl⟩
    ·refine⟨_,cap,rfl,hnc,by simp only[maxLen]at hcm;omega,hlen,hfl,.inr ⟨g,0,xs,rfl,hkok g (by simp[bsE,r6]),l5.mono (fun b hb=>⟨hok1 b hb,rfl⟩) _ _ hrep,fun j hj=>?_⟩⟩;have hxl:=hrep.length;have hlt:j<xs.length:=by omega
     have:=hown.cells (g:=g) rfl j (xs[j]) (by simp[hlt]);rw[O8]at this;rw[this];simp[hlt]
 --the slots
 have hg:∀d s,∃s',((∃x x',u0 sy.T d=some x∧fzO k e x=some x'∧j5 ok' ws R' x' s'∧den (Q4 k H) s'=den H s∧s≠ .bad∧ment k s'=false)∨
  ¬(∃s',∃x x',u0 sy.T d=some x∧fzO k e x=some x'∧j5 ok' ws R' x' s'∧den (Q4 k H) s'=den H s∧s≠ .bad∧ment k s'=false)∧s'=SV.bad):=fun d s=>b7x (SV.bad)
 let g:Nat→SV→SV:=fun d s=>(hg d s).choose
 have hgs:∀d s,_:=fun d s=>(hg d s).choose_spec
 --the cells
 have hq:∀j cs,∃cs',((∃dcs ty,m7 sy.H j=some (.blk dcs ty)∧j9 ok' ws R' (fzC k e dcs) cs'∧I2 k cs'=false∧∀xs,q8 H cs xs→q8 (Q4 k H) cs' xs)∨
  ¬(∃cs',∃dcs ty,m7 sy.H j=some (.blk dcs ty)∧j9 ok' ws R' (fzC k e dcs) cs'∧I2 k cs'=false∧∀xs,q8 H cs xs→q8 (Q4 k H) cs' xs)∧cs'=cs.map fun _=>SV.bad):=fun j cs=>b7x _
 let q:Nat→List SV→List SV:=fun j cs=>(hq j cs).choose
 have hqs:∀j cs,_:=fun j cs=>(hq j cs).choose_spec
 have hR'lt:∀ {p j},R' p j→j<nk:=fun h=>h.1
 have hgm:∀j,nk≤j→∀d s,ment j (g d s)=false:=by
  intro j hj d s;rcases hgs d s with⟨x,x',_,_,h3,_⟩|⟨_,h⟩
  ·exact h3.ment (fun p hp=>by have:=hR'lt hp;omega)
  ·show ment j (hg d s).choose=false;rw[h];rfl
 have hqm:∀j,nk≤j→∀i cs,I2 j (q i cs)=false:=by
  intro j hj i cs;rcases hqs i cs with⟨dcs,ty,_,h3,_⟩|⟨_,h⟩
  ·exact h3.ment (fun p hp=>by have:=hR'lt hp;omega)
  ·show I2 j (hq i cs).choose=false;rw[h];exact c5K _ _
 have hden:∀s,den (a3d q (Q4 k H)) s=den (Q4 k H) s:=fun s=>a9i (fun j=>d0g j) s
 have hcell:∀l xs,q8 (Q4 k H) l xs→q8 (a3d q (Q4 k H)) l xs:=fun l xs h=>a2T h fun s _ _=>hden s
 have hksub:b0a (a3d q (Q4 k H)) H:=fun j x hm=>by
  rcases mem_map hm with⟨b,cs,ty,h1,rfl⟩|⟨h1,_⟩
  ·exact⟨_,(a5P h1).1,fun _ h=>h⟩
  ·exact⟨_,(a5P h1).1,fun _ h=>h⟩
 have hbs:∀b,b∈bs (a3d q (Q4 k H))→b∈bs H:=hksub.bs
 have hks:∀b,okS A ⟨T.map fun p=>(p.1,g p.1 p.2),a3d q (Q4 k H),nk,ws,ws.heap.size,[]⟩ b↔ok' b:=by
  intro b;constructor
  ·intro h;exact⟨⟨h.2.1,fun c hcb=>h.2.2 c (by rw[c2K];exact hcb)⟩,h.1.2⟩
  ·intro h;exact⟨⟨.inl h.1.1,h.2⟩,h.1.1,fun c hcb=>h.1.2 c (by simp only[c2K]at hcb;exact hcb)⟩
 have hkk:∀p j,R' p j→B0 ⟨T.map fun p=>(p.1,g p.1 p.2),a3d q (Q4 k H),nk,ws,ws.heap.size,[]⟩ p j:=by
  intro p j h;refine⟨h.1,fun hp=>?_⟩;obtain⟨e1,h2,h3⟩:=h.2 hp;simp only;rw[b2z,h2];exact⟨_,rfl,by cases e1<;>first|exact h3|rfl⟩
 have up:∀x s,j5 ok' ws R' x s→j5 (okS A ⟨T.map fun p=>(p.1,g p.1 p.2),a3d q (Q4 k H),nk,ws,ws.heap.size,[]⟩) ws (B0 ⟨T.map fun p=>(p.1,g p.1 p.2),a3d q (Q4 k H),nk,ws,ws.heap.size,[]⟩) x s:=
  fun x s h=>j5.mono (fun b hb=>⟨(hks b).2 hb,rfl⟩) hkk _ _ h
 have upL:∀x s,j9 ok' ws R' x s→j9 (okS A ⟨T.map fun p=>(p.1,g p.1 p.2),a3d q (Q4 k H),nk,ws,ws.heap.size,[]⟩) ws (B0 ⟨T.map fun p=>(p.1,g p.1 p.2),a3d q (Q4 k H),nk,ws,ws.heap.size,[]⟩) x s:=
  fun x s h=>j9.mono (fun b hb=>⟨(hks b).2 hb,rfl⟩) hkk _ _ h
 refine⟨⟨T.map fun p=>(p.1,g p.1 p.2),a3d q (Q4 k H),nk,ws,ws.heap.size,[]⟩,?_,⟨rfl,rfl,rfl⟩,?_,hksub,rfl,?_,?_⟩
 ·refine⟨Fx.refl _ _,hc.fx0,fun j x hm=>?_,by simp only[c2K];exact hsubl.nodup hc.nd,fun b hb=>hc.lb b (hbs b hb),by simp only[c6Y];exact((c0L H).map _).nodup hc.keys,fun j x hm=>?_⟩
  ·rcases mem_map hm with⟨b,cs,ty,h1,rfl⟩|⟨h1,hx⟩
   ·obtain⟨h2,h3⟩:=a5P h1;obtain⟨xs,h4,h5⟩:=hc.own j _ h2;refine⟨xs,hcell _ _ ?_,h5⟩;rcases hqs j cs with⟨dcs,ty',_,_,_,h6⟩|⟨_,h6⟩
    ·exact h6 xs h4
    ·show q8 _ (hq j cs).choose xs;rw[h6];have hl:=b0p h4
     have:(cs.map fun _=>SV.bad)=(xs.map fun _=>SV.bad):=by
      simp only[List.map_const',hl]
     rw[this];exact b5U xs
   ·have:=hc.own j _ (a5P h1).1;cases x with
    |blk=>cases hx
    |row=>exact this
    |mp=>exact this
  ·rcases mem_map hm with⟨b,cs,ty,h1,rfl⟩|⟨h1,_⟩
   ·exact hc.lt j _ (a5P h1).1
   ·exact hc.lt j _ (a5P h1).1
 ·refine⟨fun d x hx=>?_,fun j x hx=>?_,hs.nk,fun j hj=>c1t (hgm j hj),fun j hj=>c1b (hqm j hj)⟩
  ·obtain⟨y,hy,rfl⟩:=c8t hx;unfold fzG;cases hfz:fzO k e y with
   |none=>exact .inl rfl
   |some x'=>
    right;have hyne:y≠ .bad:=fun e=>by subst e;simp[fzO]at hfz
    rcases hs.T d y hy with h|⟨s,h1,h2⟩
    ·exact absurd h hyne
    ·simp only at h1 h2;refine⟨g d s,by simp only[b7F,h1];rfl,up _ _ ?_⟩;rcases hgs d s with⟨y2,x2,h3,h4,h5,_⟩|⟨h3,_⟩
     ·rw[hy]at h3;cases h3;rw[hfz]at h4;cases h4;exact h5
     ·exfalso;obtain⟨s',g1,g2,g3⟩:=c3O hz y s x' h2 hfz;exact h3 ⟨s',y,x',hy,hfz,g1,g2,h2.ne hyne,g3⟩
  ·obtain⟨hjk,y,hy,rfl⟩:=c8g hx;obtain⟨e1,h1,h2⟩:=hs.H j y hy;simp only at h1 h2;simp only;rw[b2z,a7H hjk,h1];cases y with
   |blk dcs ty=>
    cases e1 with
    |row=>exact h2.elim
    |mp=>exact h2.elim
    |blk b cs ty'=>
     obtain⟨rfl,h2⟩:=h2;refine⟨_,rfl,?_⟩;simp only[fzE,a3H];refine⟨trivial,upL _ _ ?_⟩;rcases hqs j cs with⟨dcs',ty',h3,h4,_⟩|⟨h3,_⟩
     ·rw[hy]at h3;cases h3;exact h4
     ·exfalso;obtain⟨r',g1,g2,g3⟩:=c4V hz dcs cs h2;exact h3 ⟨r',dcs,ty,hy,g1,g2,g3⟩
   |row z n l ty=>
    cases e1 with
    |blk=>exact h2.elim
    |mp=>exact h2.elim
    |row v n' xs z' ty'=>
     refine⟨_,rfl,?_⟩;simp only[a3H]at h2;simp only[fzE,a3H];exact⟨h2.1,h2.2.1,h2.2.2.1,l5.mono (fun b hb=>⟨(hks b).2 (hz.ok b hb),rfl⟩) _ _ h2.2.2.2.1,h2.2.2.2.2⟩
   |mp es ty=>
    cases e1 with
    |blk=>exact h2.elim
    |row=>exact h2.elim
    |mp b es' ty'=>exact⟨_,rfl,h2⟩
 ·intro d s hd;simp only[b7F]at hd;cases hl:A8 T d with
  |none=>rw[hl]at hd;cases hd
  |some s0=>
   rw[hl]at hd;simp only[a6T,Y9]at hd;rcases hgs d s0 with⟨x,x',h3,h4,h5,h6,h7,_⟩|⟨_,h3⟩
   ·right;refine⟨s0,rfl,h7,?_⟩;simp only;rw[hden,←hd];exact h6
   ·left;rw[←hd];exact h3
 ·intro l r l' hl hfl;obtain⟨r',g1,g2,_⟩:=a4W hz l r l' hl hfl;refine⟨r',upL _ _ g1,?_⟩;simp only;rw[←g2,V7,V7];exact List.map_congr_left fun s _=>hden s
end
mutual
theorem b1J{ok ok':Nat→Prop}{w w':World}:∀(x:D) (y:Value),Rep ok w x y→a6H x=true→Rep ok' w' x y
 |.v x,y,h,_=>h
 |.agg l,y,h,hc=>by
  simp only[Rep]at h⊢;obtain⟨a,h1,h2,h3⟩:=h;exact⟨a,h1,b2Z l _ h2 (by simpa[a6H]using hc),h3⟩
 |.tup l,y,h,hc=>by
  simp only[Rep]at h⊢;obtain⟨a,h1,h2⟩:=h;exact⟨a,h1,b2Z l _ h2 (by simpa[a6H]using hc)⟩
 |.lst _ _ _,_,_,h=>by simp[a6H]at h
 |.ptr _ _,_,_,h=>by simp[a6H]at h
 |.mp _,_,_,h=>by simp[a6H]at h
 |.fn _ _ _,_,_,h=>by simp[a6H]at h
 |.own _ _,_,_,h=>by simp[a6H]at h
 |.ownx _ _,_,_,h=>by simp[a6H]at h
 |.row _ _,_,_,h=>by simp[a6H]at h
 |.elr _ _ _ _,_,_,h=>by simp[a6H]at h
 |.osl _ _ _ _ _,_,_,h=>by simp[a6H]at h
 |.und,_,_,h=>by simp[a6H]at h
 |.bad,_,_,h=>by simp[a6H]at h
theorem b2Z{ok ok':Nat→Prop}{w w':World}:∀(l:List D) (r:List Value),l5 ok w l r→c2n l=true→l5 ok' w' l r
 |[],[],_,_=>trivial
 |d::l,y::r,h,hc=>by
  simp only[l5]at h;simp only[c2n]at hc;split at hc
  ·rename_i hd;exact⟨b1J d y h.1 hd,b2Z l r h.2 hc⟩
  ·cases hc
 |[],_::_,h,_=>by simp[l5]at h
 |_::_,[],h,_=>by simp[l5]at h
end
section
variable {A : Nat → Prop}{Xx : Cx}{X : Cy}{w0 : World}{bor : List Nat}{st : St}{sy : Sy}{a : Act}{w : World}
theorem c2T{s1 s2 s3:St}(h:c7u s1 s2)(h':c7u s2 s3):c7u s1 s3:=by
 intro d s hd;rcases h' d s hd with e|⟨t,h1,h2,h3⟩
 ·exact .inl e
 ·rcases h d t h1 with e|⟨u,h4,h5,h6⟩
  ·exact absurd e h2
  ·exact .inr ⟨u,h4,h5,by rw[h3,h6]⟩
theorem a7h(hA:∀b,(Xx.w0.heap.size≤b∨b∈Xx.bor)→A b):∀(ks:List Nat) {st:St}{sy sy':Sy}{l l':List D}{r:List SV},Cls Xx st.H st.nk w w→At st w→Sim A st sy→j9 (okS A st) w (B0 st) l r→a5f ks sy l=some (sy',l')→
 ∃st' r',Cls Xx st'.H st'.nk w w∧At st' w∧Sim A st' sy'∧b0a st'.H st.H∧c7u st st'∧j9 (okS A st') w (B0 st') l' r'∧o6 st'.H r'=o6 st.H r
 |[],st,sy,sy',l,l',r,hc,hat,hs,hl,h=>by
  simp only[a5f]at h;cases h
  exact⟨st,r,hc,hat,hs,b0a.refl _,fun d s h=>by
   by_cases hb:s=.bad
   ·exact .inl hb
   ·exact .inr ⟨s,h,hb,rfl⟩,hl,rfl⟩
 |k::ks,st,sy,sy',l,l',r,hc,hat,hs,hl,h=>by
  obtain⟨T,H,nk⟩:=sy;simp only[a5f]at h;split at h
  ·rename_i e he;split at h
   ·rename_i l1 hok hfl;simp only[c4F,c4M]at h;obtain⟨st1,c1,a1,s1,b1,n1,o1,f1⟩:=c9Q hA hc hat hs he hok;obtain⟨r1,g1,g2⟩:=f1 l r l1 hl hfl;obtain⟨st2,r2,c2,a2,s2,b2,o2,g3,g4⟩:=a7h hA ks c1 a1 s1 g1 h;exact⟨st2,r2,c2,a2,s2,b2.trans b1,c2T o1 o2,g3,by rw[g4,g2]⟩
   ·cases h
  ·cases h
def now(st:St)(w:World):St:=⟨st.T,st.H,st.nk,w,w.heap.size,[]⟩
theorem Rel.now(hr:Rel Xx st a w):Rel Xx (now st w) a w:=by
 refine⟨hr.size,hr.T,hr.dfs,?_,y6 _,by simp[Sx.now]⟩;have hc:=hr.cls;exact⟨Fx.refl _ _,hc.fx0,hc.own,hc.nd,hc.lb,hc.keys,hc.lt⟩
theorem a5h(hc:Cls Xx st.H st.nk st.w w):∀b,okS A st b→okS A (now st w) b∧w.heap[b]?=st.w.heap[b]?:=fun b hb=>
 ⟨⟨⟨.inl (C5 hb.2.1 hc.fx.size),hb.1.2⟩,C5 hb.2.1 hc.fx.size,hb.2.2⟩,hc.fx.block b hb.2.1 hb.2.2⟩
theorem Sim.now(hs:Sim A st sy)(hc:Cls Xx st.H st.nk st.w w):Sim A (now st w) sy:=by
 obtain⟨T,H,nk⟩:=sy;exact hs.mono (a5h hc) (fun _ _ h=>h) (fun _ _ h=>h) (fun _ _ h=>h) rfl hs.fT hs.fH
theorem j9.now{l:List D}{r:List SV}(h:j9 (okS A st) st.w (B0 st) l r)(hc:Cls Xx st.H st.nk st.w w):j9 (okS A (now st w)) w (B0 (now st w)) l r:=j9.mono (a5h hc) (fun _ _ h=>h) _ _ h
theorem Rel.past{w':World}(hr:Rel Xx st a w)(hb:Below w.heap.size w w'):Rel Xx (Sx.now st w') a w':=by
 have hc:=hr.cls;have hown:∀b,b∈bs st.H→w'.heap[b]?=w.heap[b]?:=fun b hbm=>hb.block b (hc.lt_size hbm)
 exact⟨hr.size,hr.T,hr.dfs,⟨Fx.refl _ _,hc.fx0.of_below hb,fun k e he=>Y5 (hc.own k e he) fun b hbe=>hown b (A3.2 ⟨k,e,he,hbe⟩),hc.nd,hc.lb,hc.keys,hc.lt⟩,y6 _,by simp[Sx.now]⟩
theorem b9Q{w':World}(hc:Cls Xx st.H st.nk st.w w)(hb:Below w.heap.size w w'):∀b,okS A st b→okS A (now st w') b∧w'.heap[b]?=st.w.heap[b]?:=fun b h=>
 ⟨⟨⟨.inl (C5 h.2.1 (z6 hc.fx.size hb.size)),h.1.2⟩,C5 h.2.1 (z6 hc.fx.size hb.size),h.2.2⟩,by
  rw[hb.block b (C5 h.2.1 hc.fx.size)];exact hc.fx.block b h.2.1 h.2.2⟩
theorem Sim.past{w':World}(hs:Sim A st sy)(hc:Cls Xx st.H st.nk st.w w)(hb:Below w.heap.size w w'):Sim A (Sx.now st w') sy:=by
 obtain⟨T,H,nk⟩:=sy;exact hs.mono (b9Q hc hb) (fun _ _ h=>h) (fun _ _ h=>h) (fun _ _ h=>h) rfl hs.fT hs.fH
def LvY(A:Nat→Prop)(Xx:Cx)(H:Hp)(w:World)(KY:Sy→Prop)(a':Act)(w':World):Prop:=∃st' sy',KY sy'∧Sim A st' sy'∧Lv Xx H w st' a' w'
theorem a7R(v:Value):(r6 v).Nodup:=by unfold r6;split<;>simp
theorem b8L{k b:Nat}{e e':Ent}:∀ {H:Hp},(bs H).Nodup→l4 H k=some e→b∈bsE e→b∉bsE e'→b∉bs (a1F H k e')
 |[],_,h,_,_=>by simp[l4]at h
 |(j,ej)::H,hn,h,hb,hb'=>by
  simp only[bs,a6X]at hn;simp only[l4]at h;simp only[a1F];cases hj:Nat.beq j k with
  |true=>
   rw[hj]at h;cases h;simp only[bs,E3,not_or];exact⟨hb',fun hm=>hn.2.2 b hb b hm rfl⟩
  |false=>
   rw[hj]at h;simp only[bs,E3,not_or];exact⟨fun hm=>hn.2.2 b hm b (A3.2 ⟨k,e,o7 h,hb⟩) rfl,b8L hn.2.1 h hb hb'⟩
theorem c7R{k:Nat}{v v':Value}{n n' z z' ty ty':Nat}{xs xs':List Value}{w':World}(hr:Rel Xx st a w)(hat:At st w)(hf:l4 st.H k=some (.row v n xs z ty))(hfx:Fx (r6 v) w w')(hown:w'.ownsRow 0 ty' z' v' n' xs')
 (hb:∀b,b∈r6 v'→b∈r6 v∨w.heap.size≤b):Rel Xx ⟨a1T k st.T,a1F (C4 k st.H) k (.row v' n' xs' z' ty'),st.nk,w',w'.heap.size,[]⟩ a w':=by
 have hsplit:∃H1 H2,st.H=H1++(k,.row v n xs z ty)::H2∧(∀e',(k,e')∉H1):=by
  have:∀H:Hp,l4 H k=some (.row v n xs z ty)→∃H1 H2,H=H1++(k,.row v n xs z ty)::H2∧(∀e',(k,e')∉H1):=by
   intro H
   induction H with
   |nil=>intro h;simp[l4]at h
   |cons x H ih=>
    obtain⟨j,e⟩:=x;intro h;simp only[l4]at h;cases hb:Nat.beq j k with
    |true=>rw[hb]at h;cases h;have:=z7 hb;subst this;exact⟨[],H,rfl,by simp⟩
    |false=>
     rw[hb]at h;obtain⟨H1,H2,rfl,h1⟩:=ih h;refine⟨(j,e)::H1,H2,rfl,fun e' hm=>?_⟩;rcases u9.1 hm with hm|hm
     ·cases hm;exact a3y hb rfl
     ·exact h1 e' hm
  exact this _ hf
 obtain⟨H1,H2,hH,hk1⟩:=hsplit
 have hupd:∀e,a1F (C4 k st.H) k e=C4 k H1++(k,e)::C4 k H2:=by
  intro e;rw[hH];clear hH hf
  induction H1 with
  |nil=>simp[C4,a1F]
  |cons x H1 ih=>
   obtain⟨j,ej⟩:=x;have hj:j≠k:=fun e=>hk1 ej (by rw[e];exact C7)
   simp only[a1l,C4,a1F,S9 hj];rw[ih fun e' hm=>hk1 e' (F6 _ hm)]
 have hc:=hr.cls;have hcw:Cls Xx st.H st.nk w w:=⟨Fx.refl _ _,hc.fx0,hc.own,hc.nd,hc.lb,hc.keys,hc.lt⟩;have hnin:∀i,i∉r6 v→∀b,b∈r6 v→b≠i:=fun i hi b hb e=>hi (e▸hb)
 obtain⟨hcls,hden⟩:=hcw.grow (v':=v') (n:=n') (sz:=z') (ty:=ty') (xs:=xs') hH hk1 hown (fun i hi hn=>hfx.block i hi (hnin i (by simpa[bsE]using hn))) hfx.size hfx.os hfx.tape hfx.output (by simpa[bsE]using hb)
  (fun b hb=>hc.lb b (A3.2 ⟨k,_,o7 hf,hb⟩))
 refine⟨hr.size,fun d s hlk=>?_,hr.dfs,by rw[hupd];exact hcls,y6 _,by simp⟩;rcases b2x hlk with h|⟨h,hm⟩
 ·exact .inl h
 ·rcases hr.T d s h with h|h
  ·exact .inl h
  ·right;rw[h];simp only;rw[hupd,hden s hm]
theorem b3h{k:Nat}{e:Ent}:∀ {H:Hp},l4 H k=some e→∃H1 H2,H=H1++(k,e)::H2∧(∀e',(k,e')∉H1)∧∀e',a1F H k e'=H1++(k,e')::H2
 |[],h=>by simp[l4]at h
 |(j,ej)::H,h=>by
  simp only[l4]at h;cases hb:Nat.beq j k with
  |true=>rw[hb]at h;cases h;have:=z7 hb;subst this;exact⟨[],H,rfl,by simp,fun e'=>by simp[a1F]⟩
  |false=>
   rw[hb]at h;obtain⟨H1,H2,rfl,h1,h2⟩:=b3h h;refine⟨(j,ej)::H1,H2,rfl,fun e' hm=>?_,fun e'=>by simp only[a1F,hb,h2];rfl⟩;rcases u9.1 hm with hm|hm
   ·cases hm;exact a3y hb rfl
   ·exact h1 e' hm
theorem c5B{v:Value}{w w':World}(h:Fx (r6 v) w w')(hlt:∀b,b∈r6 v→b<w.heap.size):∃w1,Below w.heap.size w w1∧w'.heap.size=w1.heap.size∧(∀i,i∉r6 v→w'.heap[i]?=w1.heap[i]?)∧w'.os=w1.os∧w'.tape=w1.tape∧w'.output=w1.output:=by
 have hcases:r6 v=[]∨∃g,r6 v=[g]:=by
  unfold r6;split
  ·exact .inr ⟨_,rfl⟩
  ·exact .inl rfl
 rcases hcases with h0|⟨g,h0⟩
 ·rw[h0]at h⊢;exact⟨w',⟨h.os,h.tape,h.output,h.size,fun i hi=>h.block i hi (by simp)⟩,rfl,fun _ _=>rfl,rfl,rfl,rfl⟩
 ·rw[h0]at h hlt⊢;have hg:=hlt g (by simp);refine⟨{ w' with heap:=w'.heap.setIfInBounds g (w.heap[g]'hg)},⟨h.os,h.tape,h.output,by simpa using h.size,fun i hi=>?_⟩,by simp,fun i hi=>?_,rfl,rfl,rfl⟩
  ·simp only[Array.getElem?_setIfInBounds];by_cases e:g=i
   ·subst e;rw[k9 rfl,k9 (C5 hg h.size),a4t hg]
   ·rw[j6 e];exact h.block i hi (by simpa using e)
  ·simp only[Array.getElem?_setIfInBounds];rw[j6 (fun e=>hi (by simp[e]))]
theorem c7H{A:Nat→Prop}{X:Cy}{w0:World}{bor:List Nat}{st1:St}{sy1:Sy}{H0:Hp}{a:Act}{w w':World}{KY:Sy→Prop}{dst:Option Nat}{k z n ty:Nat}{v:Value}{xs:List Value}{l':List D}
 (hr1:Rel (cx X w0 bor) st1 a w) (a1:At st1 w) (s1:Sim A st1 sy1) (b1:b0a st1.H H0) (hf':l4 st1.H k=some (.row v n xs z ty)) (hk:O5 X ⟨sy1.T,b1B sy1.H k (.row z n l' ty),sy1.nk⟩ dst (.tup []) KY)
 (hrow:b1X (fun b=>okS A st1 b∧b∉r6 v) w' z n l' ty v) (hfx:Fx (r6 v) w w'):∃st' sy',KY sy'∧Sim A st' sy'∧Lv (cx X w0 bor) H0 w st' (a.put dst (.tuple #[])) w':=by
 obtain⟨T,H,nk⟩:=sy1;obtain⟨T',H',nk',ws,lo,iv⟩:=st1;obtain⟨h1,h2,h3⟩:=a1;simp only at h1 h2 h3;subst h1 h2 h3;have c1:Cls (cx X w0 bor) H' nk' ws ws:=hr1.cls;have hlt:∀b,b∈r6 v→b<ws.heap.size:=fun b hb=>c1.lt_size (A3.2 ⟨k,_,o7 hf',hb⟩)
 obtain⟨w1,hb1,hz1,hh1,ho1,ho2,ho3⟩:=c5B hfx hlt;have hr2:=hr1.past hb1;have s2:=s1.past c1 hb1;obtain⟨xs',hown',hrp,hfl',hlen'⟩:=hrow;simp only at hf';obtain⟨H1,H2,hH,hk1,hupd⟩:=b3h hf'
 have hd:∀j,bOf (H1++(k,.row v n xs' z ty)::H2) j=bOf (H1++(k,.row v n xs z ty)::H2) j∧o5 (H1++(k,.row v n xs' z ty)::H2) j=o5 (H1++(k,.row v n xs z ty)::H2) j:=by
  intro j;simp only[bOf,o5,a1x (e:=.row v n xs' z ty) (e0:=.row v n xs z ty) hk1];by_cases hj:j=k
  ·subst hj;simp[a1o hk1]
  ·simp[hj]
 have hr3:Rel (cx X w0 bor) ⟨T',H1++(k,.row v n xs' z ty)::H2,nk',w1,w1.heap.size,[]⟩ a w':=by
  have hr2':Rel (cx X w0 bor) ⟨T',H1++(k,.row v n xs z ty)::H2,nk',w1,w1.heap.size,[]⟩ a w1:=by
   have:=hr2;unfold Sx.now at this;simp only at this;rw[hH]at this;exact this
  exact hr2'.swap rfl hd hz1 hh1 ho1 ho2 ho3 hown'
 have hr4:=hr3.now
 have s3:Sim A ⟨T',a1F H' k (.row v n xs' z ty),nk',w1,w1.heap.size,[]⟩ ⟨T,b1B H k (.row z n l' ty),nk⟩:=by
  refine b4w (e0:=.row v n xs z ty) s2 hf' ?_ rfl (fun _=>rfl) fun j hj=>rfl
  refine⟨rfl,rfl,rfl,l5.mono (fun b hb=>⟨?_,(hh1 b hb.2).symm⟩) _ _ hrp,hfl',hlen'⟩;exact(b9Q c1 hb1 b hb.1).1
 rw[hupd]at s3;have s4:=s3.now hr3.cls;have hput:=D3 (w0:=w0) (bor:=bor) (s:=.v (.tuple #[])) hk s4 (by simp only[j5];exact .inr ⟨_,rfl,trivial⟩);obtain⟨st2,⟨sy2,g1,g2⟩,g3,g4⟩:=a1g hr4 hput (v:=.tuple #[]) (.inr rfl);refine⟨st2,sy2,g1,g2,g3,hfx.wide fun b hb=>b1.bs b (A3.2 ⟨k,_,o7 hf',hb⟩),fun b hb2=>.inl ?_⟩;rw[g4]at hb2;refine b1.bs b ?_;have:bs (H1++(k,Ent.row v n xs' z ty)::H2)=bs H':=by rw[hH];exact b2g rfl
 rw[←this];exact hb2
theorem c6q(hA:AG A X.P w0 bor){o:Oper}{Q:Exit→Act→World→Prop}{KY:Sy→Prop}{f:FuncId}{args:List D}{args':List SV}(hr:Rel (cx X w0 bor) st a w)(hs:Sim A st sy)(ha:j9 (okS A st) st.w (B0 st) args args')
 (h:match(generalizing:=false) true,args with
 |true,x::rest=>match a5f (c4D sy.H rest) sy (x::rest)with
  |some (st',.row k _::fa)=>match U3 fa,m7 st'.H k with
   |true,some e=>(c4p X.P f k e fa st' fun sy' x=>O5 X sy' o.dst x KY)∨(d0K X.P f k e fa st' fun sy' x=>O5 X sy' o.dst x KY)
   |_,_=>False
  |_=>False
 |_,_=>False) (hout:a2A (cx X w0 bor) st a o (.call f args')):o.wp X.P a w (LvY A (cx X w0 bor) st.H w KY) Q:=by
 have hr0:=hr.now;have hs0:=hs.now hr.cls;have ha0:=ha.now hr.cls;split at h
 ·rename_i x rest _ _;split at h
  ·rename_i sy1 k z0 fa hfz;split at h
   ·rename_i e hcl hfe;obtain⟨st1,l1,c1,a1,s1,b1,o1,g1,g2⟩:=a7h (Xx:=cx X w0 bor) hA.a _ hr0.cls ⟨rfl,rfl,rfl⟩ hs0 ha0 hfz
    have hr1:Rel (cx X w0 bor) st1 a w:=by
     refine⟨hr.size,fun d s hd=>?_,hr.dfs,?_,?_,?_⟩
     ·rcases o1 d s hd with e|⟨s0,h1,h2,h3⟩
      ·exact .inl e
      ·rcases hr0.T d s0 h1 with e|e
       ·exact absurd e h2
       ·right;rw[e,h3]
     ·rw[a1.1];exact c1
     ·rw[a1.2.1];exact y6 _
     ·rw[a1.2.2];simp
    cases l1 with
    |nil=>simp[j9]at g1
    |cons s0 fa'=>
     simp only[j9]at g1;obtain⟨g0,g1⟩:=g1;simp only[j5]at g0;obtain⟨rfl,hkey⟩:=g0;obtain⟨e',hf',he⟩:=s1.H _ _ hfe;cases e with
     |blk=>rcases h with h|h<;>(obtain⟨z,n,l,ty,_⟩:=h.ex;simp_all)
     |mp=>rcases h with h|h<;>(obtain⟨z,n,l,ty,_⟩:=h.ex;simp_all)
     |row z n l ty=>
     cases e' with
     |blk=>exact he.elim
     |mp=>exact he.elim
     |row v n1 xs z1 ty1=>
      obtain⟨rfl,rfl,rfl,hrep,hfl,hlen⟩:=he;rw[a1.1]at hrep;have hown:=c1.row hf';have hdv:den st1.H (.row k)=v:=by simp[den,o5,hf']
      have hrepA:=G7 (H:=st1.H) _ _ g1 hcl;have hnok:∀b,b∈r6 v→¬okS A st1 b∧X.P.globals.size≤b:=fun b hb=>⟨fun hok=>hok.2.2 b (A3.2 ⟨k,_,o7 hf',hb⟩) rfl,hA.lb c1 (A3.2 ⟨k,_,o7 hf',hb⟩)⟩
      have hoksz:∀b,okS A st1 b→b<w.heap.size:=fun b hb=>by have:=hb.2.1;rw[a1.1]at this;exact this
      have hargs:(o6 st.H args').toArray=(v::o6 st1.H fa').toArray:=by
       have:o6 st1.H (.row k::fa')=o6 st.H args':=g2;rw[←this];simp only[o6,hdv]
      rcases h with h|h
      rotate_left
      ·obtain⟨_,_,_,_,n',l',he1,⟨rfl,hd⟩,hk⟩:=h.ex;cases he1;have hcall:=hd (okS A st1) w v _ ⟨xs,hown,hrep,hfl,hlen⟩ hnok hrepA hoksz (hA.giw hr.cls);rw[←hargs]at hcall;have hbody:=a1p hcall fun e w' ⟨he,_⟩=>⟨_,he⟩
       unfold Oper.wp;rw[show(execOp a.eval o).run X.P w=_ from hout w hbody];simp only[Oper.upon];refine hcall.mono fun e w' ⟨he,hrow,hb⟩=>?_
       subst he;simp only;exact c7H hr1 a1 s1 b1 hf' (a3V hk) hrow hb
      obtain⟨_,_,_,_,z',n',l',he1,hd,hk⟩:=h.ex;cases he1;have hcall:=hd (okS A st1) w v _ ⟨xs,hown,hrep,hfl,hlen⟩ hnok hrepA hoksz (hA.giw hr.cls);rw[←hargs]at hcall;have hbody:=a1p hcall fun e w' ⟨v',he,_⟩=>⟨_,he⟩
      unfold Oper.wp;rw[show(execOp a.eval o).run X.P w=_ from hout w hbody];simp only[Oper.upon];refine hcall.mono fun e w' ⟨v',he,hfr,⟨xs',hown',hrp,hfl',hlen'⟩,hb⟩=>?_
      subst he;simp only;rw[a9H]at hk;have hk:=a3V hk;rw[b2S]at hk;have hrel2:=c7R hr1 a1 hf' hb hown' hfr;obtain⟨T,H,nk⟩:=sy1;obtain⟨T',H',nk',ws,lo,iv⟩:=st1;obtain⟨h1,h2,h3⟩:=a1;simp only at h1 h2 h3;subst h1 h2 h3;have hlt:∀c,c∈bs H'→c<ws.heap.size:=fun c hc=>c1.lt_size hc
      have hfxH:Fx (bs H') ws w':=hb.wide fun b hb=>A3.2 ⟨k,_,o7 hf',hb⟩
      have hsim:Sim A ⟨a1T k T',a1F (C4 k H') k (.row v' n' xs' z' ty),nk',w',w'.heap.size,[]⟩ ⟨a7D k T,b1B (a8g k H) k (.row z' n' l' ty),nk⟩:=by
       refine c5V (lo:=ws.heap.size) (iv:=[]) (w:=ws) s1 hf' (fun b hb=>?_) hfxH (.inl rfl) ?_ hfl' hlen'
       ·rcases hfr b hb with h|h
        ·exact .inl (A3.2 ⟨k,_,o7 hf',h⟩)
        ·exact .inr h
       ·refine l5.mono (fun b hbk=>⟨?_,rfl⟩) _ _ hrp;obtain⟨hb1,hb2⟩:=hbk
        have hne:∀c,c∈bs (a1F (C4 k H') k (.row v' n' xs' z' ty))→c≠b:=by
         intro c hc e;subst e;rcases hb1 with hb1|hb1|hb1
         ·rcases b2A hc with hc|hc
          ·rw[a6f]at hc;exact hb1.2.2 c hc rfl
          ·exact hb2 hc
         ·exact b8L (by rw[a6f];exact c1.nd) (show l4 (C4 k H') k=some (a1P k _) by rw[M9,hf'];rfl) (by rw[b1A];exact hb1) hb2 hc
         ·rcases b2A hc with hc|hc
          ·rw[a6f]at hc;have:=hlt c hc;omega
          ·exact hb2 hc
        rcases hb1 with hb1|hb1|hb1
        ·exact⟨⟨.inl (C5 hb1.2.1 hb.size),hb1.1.2⟩,C5 hb1.2.1 hb.size,hne⟩
        ·have hbm:b∈bs H':=A3.2 ⟨k,_,o7 hf',hb1⟩;have hlw:=C5 (hlt b hbm) hb.size;exact⟨⟨.inl hlw,hA.a b (c1.lb b hbm).symm⟩,hlw,hne⟩
        ·exact⟨⟨.inl hb1.2,hA.a b (.inl (z6 c1.fx0.size hb1.1))⟩,hb1.2,hne⟩
      have hfu:l4 (a1F (C4 k H') k (.row v' n' xs' z' ty)) k=some (.row v' n' xs' z' ty):=by
       rw[a1L (e0:=a1P k _) (by rw[M9,hf'];rfl)];simp
      have hput:=D3 (w0:=w0) (bor:=bor) (s:=.row k) hk hsim (by simp only[j5];exact⟨trivial,hkey.1,fun _=>⟨_,hfu,rfl⟩⟩);obtain⟨st2,⟨sy2,h1,h2⟩,h3,h4⟩:=a1g hrel2 hput (v:=v') (.inr (by simp[den,o5,hfu]));refine⟨st2,sy2,h1,h2,h3,hb.wide fun b hb=>b1.bs b (A3.2 ⟨k,_,o7 hf',hb⟩),fun b hb2=>?_⟩;rw[h4]at hb2;rcases b2A hb2 with hb2|hb2
      ·rw[a6f]at hb2;exact .inl (b1.bs b hb2)
      ·rcases hfr b hb2 with h|h
       ·exact .inl (b1.bs b (A3.2 ⟨k,_,o7 hf',h⟩))
       ·exact .inr h
   ·exact h.elim
  ·exact h.elim
 ·exact h.elim
def LvK(A:Nat→Prop)(Xx:Cx)(H:Hp)(w:World)(KY:Sy→Prop)(a':Act)(w':World):Prop:=∃st' sy',KY sy'∧Sim A st' sy'∧Lv Xx H w st' a' w'∧(∀i,i<w.heap.size→w'.heap[i]?=w.heap[i]?)∧KB H w st'.H
theorem c3n(hA:AG A X.P w0 bor){o:Oper}{Q:Exit→Act→World→Prop}{KY:Sy→Prop}{f:FuncId}{args:List D}{args':List SV}(hr:Rel (cx X w0 bor) st a w)(hs:Sim A st sy)(ha:j9 (okS A st) st.w (B0 st) args args')
 (hcl:U3 args=true) (h:a5X X.P f args sy fun sy' x=>O5 X sy' o.dst x KY) (hout:a2A (cx X w0 bor) st a o (.call f args')):o.wp X.P a w (LvK A (cx X w0 bor) st.H w KY) Q:=by
 have hr0:=hr.now;have hs0:=hs.now hr.cls;have ha0:=ha.now hr.cls;obtain⟨z,n,l,ty,hd,hk⟩:=h.ex;have hrep:=G7 (H:=st.H) _ _ ha0 hcl;have hcall:=hd (okS A (now st w)) w _ hrep (fun b hb=>hb.2.1) (hA.giw hr.cls);have hbody:=a1p hcall fun e w' ⟨v,he,_⟩=>⟨_,he⟩
 unfold Oper.wp;rw[show(execOp a.eval o).run X.P w=_ from hout w hbody];simp only[Oper.upon];refine hcall.mono fun e w' ⟨v,he,hfr,⟨xs,hown,hrp,hfl,hlen⟩,hb⟩=>?_
 subst he;simp only;obtain⟨T,H,nk⟩:=sy;obtain⟨T',H',nk',ws,lo,iv⟩:=st;have hnk:nk=nk':=hs.nk;subst hnk;have hownB:=a7R v;have hblk:∀i,i<w.heap.size→w'.heap[i]?=w.heap[i]?:=fun i hi=>hb.block i hi
 have hrel:=hr0.cons (w':=w') (e:=.row v n xs z ty) (hs.fT nk (y6 _)) (hs.fH nk (y6 _)) hb.size hblk hb.os hb.tape hb.output hown hfr hownB;have hrel2:=hrel.now;have hlt:∀c,c∈bs H'→c<w.heap.size:=fun c hc=>hr.cls.lt_size hc
 have hsim:Sim A ⟨T',(nk,.row v n xs z ty)::H',nk+1,w',w'.heap.size,[]⟩ ⟨T,(nk,.row z n l ty)::H,nk+1⟩:=by
  refine c0J (lo:=w.heap.size) (iv:=[]) (w:=w) hs0 (fun b hb=>.inr (hfr b hb)) ((Fx.refl _ _).of_below hb) (.inl rfl) ?_ hfl hlen;refine l5.mono (fun b hbk=>⟨?_,rfl⟩) _ _ hrp;obtain⟨hb1,hb2⟩:=hbk
  have hne:∀c,c∈bs ((nk,Ent.row v n xs z ty)::H')→c≠b:=by
   intro c hc e;subst e;simp only[bs,bsE,E3]at hc;rcases hc with hc|hc
   ·exact hb2 hc
   ·rcases hb1 with hb1|hb1
    ·exact hb1.2.2 c hc rfl
    ·have:=hlt c hc;omega
  rcases hb1 with hb1|hb1
  ·exact⟨⟨.inl (C5 hb1.2.1 hb.size),hb1.1.2⟩,C5 hb1.2.1 hb.size,hne⟩
  ·exact⟨⟨.inl hb1.2,hA.a b (.inl (z6 hr.cls.fx0.size hb1.1))⟩,hb1.2,hne⟩
 have hput:=D3 (w0:=w0) (bor:=bor) (s:=.row nk) hk hsim (by simp only[j5];exact⟨trivial,by simp only;omega,fun _=>⟨_,by simp only[l4,Nat.beq_refl];rfl,rfl⟩⟩);obtain⟨st2,⟨sy2,h1,h2⟩,h3,h4⟩:=a1g hrel2 hput (v:=v) (.inr (by simp[den,o5,now,l4]));refine⟨st2,sy2,h1,h2,⟨h3,(Fx.refl _ _).of_below hb,fun b hb2=>?_⟩,hblk,fun k e hm b hb2=>?_⟩
 rotate_left
 ·rw[h4]at hm;simp only[now]at hm;rcases u9.1 hm with hm|hm
  ·cases hm;exact .inl (hfr b hb2)
  ·exact .inr ⟨e,hm,hb2⟩
 rw[h4]at hb2;simp only[now,bs,bsE,E3]at hb2;rcases hb2 with hb2|hb2
 ·exact .inr (hfr b hb2)
 ·exact .inl hb2
abbrev b7q:=Value×Nat×List Value×Nat×TypeId
def a0F:Nat→List b7q→Hp→Hp
 |_,[],H=>H
 |k,(v,n,xs,z,ty)::rs,H=>a0F (k+1) rs ((k,.row v n xs z ty)::H)
theorem b6t:∀(rs:List b7q) (k:Nat) (H:Hp) (b:Nat),b∈bs (a0F k rs H)↔b∈bs H∨b∈rs.flatMap fun r=>r6 r.1
 |[],k,H,b=>by simp[a0F]
 |(v,n,xs,z,ty)::rs,k,H,b=>by
  rw[a0F,b6t rs];simp only[bs,bsE,E3,U0];constructor
  ·rintro((h|h)|h)
   ·exact .inr (.inl h)
   ·exact .inl h
   ·exact .inr (.inr h)
  ·rintro(h|h|h)
   ·exact .inl (.inr h)
   ·exact .inl (.inl h)
   ·exact .inr h
theorem b8z:∀(rs:List b7q) (k:Nat) (H:Hp) (j:Nat) (e:Ent),(j,e)∈a0F k rs H→(j,e)∈H∨(∀b,b∈bsE e→b∈rs.flatMap fun r=>r6 r.1)
 |[],k,H,j,e,h=>.inl h
 |(v,n,xs,z,ty)::rs,k,H,j,e,h=>by
  rw[a0F]at h;rcases b8z rs _ _ _ _ h with h|h
  ·rcases u9.1 h with h|h
   ·cases h;exact .inr fun b hb=>by simp only[U0,E3];exact .inl hb
   ·exact .inl h
  ·exact .inr fun b hb=>by simp only[U0,E3];exact .inr (h b hb)
theorem b3z{j:Nat}:∀(rs:List b7q) (k:Nat) (H:Hp),A7 j H=true→A7 j (a0F k rs H)=true
 |[],_,_,h=>h
 |(v,n,xs,z,ty)::rs,k,H,h=>b3z rs _ _ (by simpa[A7]using h)
theorem a2k{k:Nat}:∀(rs:List b7q) (nk:Nat) (H:Hp),k<nk→l4 (a0F nk rs H) k=l4 H k
 |[],_,_,_=>rfl
 |(v,n,xs,z,ty)::rs,nk,H,h=>by rw[a0F,a2k rs _ _ (by omega),Q5 (by omega)]
theorem a4E:∀(rs:List b7q) (nk:Nat) (H:Hp) (i:Nat) (v:Value) (n:Nat) (xs:List Value) (z:Nat) (ty:TypeId),rs[i]?=some (v,n,xs,z,ty)→l4 (a0F nk rs H) (nk+i)=some (.row v n xs z ty)
 |[],_,_,_,_,_,_,_,_,h=>by simp at h
 |(v',n',xs',z',ty')::rs,nk,H,i,v,n,xs,z,ty,h=>by
  rw[a0F];cases i with
  |zero=>
   simp at h;obtain⟨rfl,rfl,rfl,rfl,rfl⟩:=h;rw[a8h,a2k rs _ _ (by omega)];simp[l4]
  |succ i=>
   have:=a4E rs (nk+1) ((nk,.row v' n' xs' z' ty')::H) i v n xs z ty (by simpa using h)
   rw[show nk+(i+1)=nk+1+i by omega];exact this
theorem b3Q{k:Nat}{e:E}:∀(rs:List (Nat×Nat×List D×TypeId)) (nk:Nat) (H:Hy),(∀k e,m7 H k=some e→k<nk)→m7 (c2d nk rs H) k=some e→m7 H k=some e∧k<nk∨∃i z n l ty,k=nk+i∧rs[i]?=some (z,n,l,ty)∧e=.row z n l ty
 |[],nk,H,hl,h=>.inl ⟨h,hl _ _ h⟩
 |(z,n,l,ty)::rs,nk,H,hl,h=>by
  rw[c2d]at h
  rcases b3Q rs (nk+1) _ (fun k e hk=>by
   simp only[m7]at hk;cases hb:Nat.beq nk k with
   |true=>have:=z7 hb;omega
   |false=>rw[hb]at hk;have:=hl _ _ hk;omega) h with⟨h,hlt⟩|⟨i,z',n',l',ty',rfl,h1,h2⟩
  ·simp only[m7]at h;cases hb:Nat.beq nk k with
   |true=>
    rw[hb]at h;cases h;have:=z7 hb;subst this;exact .inr ⟨0,z,n,l,ty,rfl,rfl,rfl⟩
   |false=>
    rw[hb]at h;exact .inl ⟨h,by have:=a3y hb;omega⟩
  ·exact .inr ⟨i+1,z',n',l',ty',by omega,by simpa using h1,h2⟩
theorem Rel.consL{Xx:Cx}{a:Act}{w:World}{T:List (Nat×SV)}{ws:World}{lo:Nat}{iv:List (Nat×Nat)}:∀(rs:List b7q) (H:Hp) (nk:Nat),Rel Xx ⟨T,H,nk,ws,lo,iv⟩ a w→(∀j,nk≤j→w8 j T=true)→(∀j,nk≤j→A7 j H=true)→
 (∀v n xs z ty,(v,n,xs,z,ty)∈rs→w.ownsRow 0 ty z v n xs)→(∀b,(b∈rs.flatMap fun r=>r6 r.1)→Xx.w0.heap.size≤b∧b∉bs H)→(rs.flatMap fun r=>r6 r.1).Nodup→Rel Xx ⟨T,a0F nk rs H,nk+rs.length,ws,lo,iv⟩ a w
 |[],_,_,hr,_,_,_,_,_=>hr
 |(v,n,xs,z,ty)::rs,H,nk,hr,hT,hH,ho,hb,hn=>by
  simp only[U0,a6X]at hn;have h1:=hr.consG (e:=.row v n xs z ty) (hT nk (y6 _)) (hH nk (y6 _)) (ho v n xs z ty C7) (fun b hb'=>hb b (by simp only[U0,E3];exact .inl hb')) (a7R v)
  have h2:=Rel.consL rs _ _ h1 (fun j hj=>hT j (Nat.le_of_succ_le hj)) (fun j hj=>by simpa[A7]using hH j (Nat.le_of_succ_le hj)) (fun v n xs z ty h=>ho v n xs z ty (F6 _ h)) (fun b hb'=>by
   have h3:=hb b (by simp only[U0,E3];exact .inr hb');refine⟨h3.1,fun hc=>?_⟩;simp only[bs,bsE,E3]at hc;rcases hc with hc|hc
   ·exact hn.2.2 b hc b hb' rfl
   ·exact h3.2 hc) hn.2.1
  rw[a0F,Y0,show nk+(rs.length+1)=nk+1+rs.length by omega];exact h2
theorem a4d.choose{ok:Nat→Prop}{w:World}:∀ {rows:List (Nat×Nat×List D×TypeId)}{rv:List Value},a4d ok w rows rv→
 ∃rs:List b7q,rs.map (·.1)=rv∧rs.length=rows.length∧(∀v n xs z ty,((v,n,xs,z,ty):b7q)∈rs→w.ownsRow 0 ty z v n xs)∧
  ∀(i z n:Nat) (l:List D) (ty:TypeId),rows[i]?=some (z,n,l,ty)→∃(v:Value) (xs:List Value),rs[i]?=some ((v,n,xs,z,ty):b7q)∧l5 ok w l xs∧B4 l=true∧l.length=n*z
 |[],[],_=>⟨[],rfl,rfl,fun _ _ _ _ _ h=>by simp at h,fun _ _ _ _ _ h=>by simp at h⟩
 |(z,n,l,ty)::rows,v::rv,h=>by
  simp only[a4d]at h;obtain⟨⟨xs,h1,h2,h3,h4⟩,h5⟩:=h;obtain⟨rs,g1,g2,g3,g4⟩:=a4d.choose h5;refine⟨(v,n,xs,z,ty)::rs,by simp[g1],by simp[g2],fun v' n' xs' z' ty' hm=>?_,fun i z' n' l' ty' hi=>?_⟩
  ·rcases u9.1 hm with hm|hm
   ·cases hm;exact h1
   ·exact g3 _ _ _ _ _ hm
  ·cases i with
   |zero=>simp at hi;obtain⟨rfl,rfl,rfl,rfl⟩:=hi;exact⟨v,xs,rfl,h2,h3,h4⟩
   |succ i=>
    obtain⟨v',xs',e1,e2⟩:=g4 i z' n' l' ty' (by simpa using hi)
    exact⟨v',xs',by simpa using e1,e2⟩
 |[],_::_,h=>by simp[a4d]at h
 |_::_,[],h=>by simp[a4d]at h
theorem c3V(hA:AG A X.P w0 bor){o:Oper}{Q:Exit→Act→World→Prop}{KY:Sy→Prop}{f:FuncId}{args:List D}{args':List SV}(hr:Rel (cx X w0 bor) st a w)(hs:Sim A st sy)(ha:j9 (okS A st) st.w (B0 st) args args')
 (hcl:U3 args=true) (h:b3r X.P f args sy fun sy' x=>O5 X sy' o.dst x KY) (hout:a2A (cx X w0 bor) st a o (.call f args')):o.wp X.P a w (LvK A (cx X w0 bor) st.H w KY) Q:=by
 have hr0:=hr.now;have hs0:=hs.now hr.cls;have ha0:=ha.now hr.cls;obtain⟨rows,cells,⟨hfl,hd⟩,hk⟩:=h.ex;have hrep:=G7 (H:=st.H) _ _ ha0 hcl;have hcall:=hd (okS A (now st w)) w _ hrep (fun b hb=>hb.2.1) (hA.giw hr.cls);have hbody:=a1p hcall fun e w' ⟨v,rv,he,_⟩=>⟨_,he⟩
 unfold Oper.wp;rw[show(execOp a.eval o).run X.P w=_ from hout w hbody];simp only[Oper.upon];refine hcall.mono fun e w' hex=>?_
 obtain⟨av,rv,he,hbl,hnd,hrows,hcells,hb⟩:=hex;subst he;simp only;obtain⟨T,H,nk⟩:=sy;obtain⟨T',H',nk',ws,lo,iv⟩:=st;have hnk:nk=nk':=hs.nk;subst hnk;obtain⟨rs,e1,e2,hown,hrow⟩:=hrows.choose;have hflat:(rs.flatMap fun r=>r6 r.1)=rv.flatMap r6:=by rw[←e1,List.flatMap_map]
 have hlt:∀c,c∈bs H'→c<w.heap.size:=fun c hc=>hr.cls.lt_size hc
 have hblk:∀i,i<w.heap.size→w'.heap[i]?=w.heap[i]?:=fun i hi=>hb.block i hi
 have hrel0:=hr0.past hb
 have hrel:Rel (cx X w0 bor) ⟨T',a0F nk rs H',nk+rs.length,w',w'.heap.size,[]⟩ a w':=by
  refine Rel.consL rs H' nk hrel0 hs.fT hs.fH hown (fun b hb'=>?_) (by rw[hflat];exact hnd);rw[hflat]at hb';have h1:=hbl b hb';exact⟨z6 hr.cls.fx0.size h1.1,fun hc=>by have:=hlt b hc;omega⟩
 have hne:∀b,(∀c,c∈bs H'→c≠b)→b∉rv.flatMap r6→∀c,c∈bs (a0F nk rs H')→c≠b:=by
  intro b h1 h2 c hc;rcases(b6t rs nk H' c).1 hc with hc|hc
  ·exact h1 c hc
  ·rw[hflat]at hc;exact fun e=>h2 (e▸hc)
 have hokN:∀b,((okS A (now ⟨T',H',nk,ws,lo,iv⟩ w) b∨(w.heap.size≤b∧b<w'.heap.size))∧b∉rv.flatMap r6)→okS A ⟨T',a0F nk rs H',nk+rs.length,w',w'.heap.size,[]⟩ b:=by
  rintro b ⟨hb1,hb2⟩;rcases hb1 with hb1|hb1
  ·exact⟨⟨.inl (C5 hb1.2.1 hb.size),hb1.1.2⟩,C5 hb1.2.1 hb.size,hne b hb1.2.2 hb2⟩
  ·exact⟨⟨.inl hb1.2,hA.a b (.inl (z6 hr.cls.fx0.size hb1.1))⟩,hb1.2,hne b (fun c hc e=>by have:=hlt c hc;omega) hb2⟩
 have hokO:∀b,okS A (now ⟨T',H',nk,ws,lo,iv⟩ w) b→okS A ⟨T',a0F nk rs H',nk+rs.length,w',w'.heap.size,[]⟩ b∧w'.heap[b]?=w.heap[b]?:=fun b hb1=>
  ⟨hokN b ⟨.inl hb1,fun hc=>by have h1:=(hbl b hc).1;have h2:=hb1.2.1;simp only[now]at h2;omega⟩,hblk b hb1.2.1⟩
 have hkO:∀q k,B0 (now ⟨T',H',nk,ws,lo,iv⟩ w) q k→B0 ⟨T',a0F nk rs H',nk+rs.length,w',w'.heap.size,[]⟩ q k:=by
  intro q k ⟨h1,h2⟩;simp only[now]at h1;refine⟨by simp only;omega,fun hq=>?_⟩;simp only;rw[a2k rs _ _ h1];exact h2 hq
 have hsim:Sim A ⟨T',a0F nk rs H',nk+rs.length,w',w'.heap.size,[]⟩ ⟨T,c2d nk rows H,nk+rows.length⟩:=by
  refine⟨fun d x hx=>?_,fun k e he=>?_,by rw[e2],fun j hj=>hs.fT j (by simp only at hj⊢;omega),fun j hj=>b3z rs _ _ (hs.fH j (by simp only at hj⊢;omega))⟩
  ·rcases hs0.T d x hx with h|⟨s,h1,h2⟩
   ·exact .inl h
   ·exact .inr ⟨s,h1,j5.mono hokO hkO _ _ h2⟩
  ·have hyl:∀k e,m7 H k=some e→k<nk:=fun k e h=>by
    obtain⟨e',h1,_⟩:=hs.H k e h;exact hr.cls.lt k e' (o7 h1)
   rcases b3Q rows nk H hyl he with⟨h1,h2⟩|⟨i,z,n,l,ty,rfl,h1,rfl⟩
   ·obtain⟨e',g1,g2⟩:=hs0.H k e h1;exact⟨e',by rw[show(_:St).H=_ from rfl];simp only;rw[a2k rs _ _ h2];exact g1,a3H.mono hokO hkO g2⟩
   ·obtain⟨v,xs,g1,g2,g3,g4⟩:=hrow i z n l ty h1;exact⟨_,a4E rs nk H' i v n xs z ty g1,rfl,rfl,rfl,l5.mono (fun b hb1=>⟨hokN b hb1,rfl⟩) _ _ g2,g3,g4⟩
 have hval:∃cs:List SV,j9 (okS A ⟨T',a0F nk rs H',nk+rs.length,w',w'.heap.size,[]⟩) w' (B0 ⟨T',a0F nk rs H',nk+rs.length,w',w'.heap.size,[]⟩) (shC nk cells) cs∧o6 (a0F nk rs H') cs=av:=by
  clear hfl hk hd hcall hbody
  induction cells generalizing av with
  |nil=>cases av with
   |nil=>exact⟨[],trivial,rfl⟩
   |cons=>simp[U5]at hcells
  |cons d cells ih=>cases av with
   |nil=>cases d<;>simp[U5]at hcells
   |cons y av=>
    have gen:Rep (fun b=>(okS A (now ⟨T',H',nk,ws,lo,iv⟩ w) b∨(w.heap.size≤b∧b<w'.heap.size))∧b∉rv.flatMap r6) w' d y→U5 (fun b=>(okS A (now ⟨T',H',nk,ws,lo,iv⟩ w) b∨(w.heap.size≤b∧b<w'.heap.size))∧b∉rv.flatMap r6) w' rv cells av→
     ∃cs:List SV,j9 (okS A ⟨T',a0F nk rs H',nk+rs.length,w',w'.heap.size,[]⟩) w' (B0 ⟨T',a0F nk rs H',nk+rs.length,w',w'.heap.size,[]⟩) (d::shC nk cells) cs∧o6 (a0F nk rs H') cs=y::av:=by
     intro h1 h2;obtain⟨cs,g1,g2⟩:=ih av h2;exact⟨.v y::cs,⟨Rep.rel _ _ (Rep.mono (fun b hb1=>⟨hokN b hb1,rfl⟩) _ _ h1),g1⟩,by simp[o6,den,g2]⟩
    cases d with
    |row i z=>
     simp only[U5]at hcells;obtain⟨h1,h2⟩:=hcells;obtain⟨cs,g1,g2⟩:=ih av h2
     have h3:∃r,rs[i]?=some r∧r.1=y:=by
      rw[←e1,List.getElem?_map]at h1;cases hri:rs[i]? with
      |none=>rw[hri]at h1;cases h1
      |some r=>rw[hri]at h1;exact⟨r,rfl,E0 h1⟩
     obtain⟨⟨v,n,xs,z',ty⟩,h3,rfl⟩:=h3;have h4:=a4E rs nk H' i v n xs z' ty h3;have hi:i<rs.length:=(P3.1 h3).1;refine⟨.row (nk+i)::cs,⟨?_,g1⟩,by simp[o6,den,o5,h4,g2]⟩;simp only[j5];exact⟨trivial,by simp only;omega,fun _=>⟨_,h4,rfl⟩⟩
    |_=>simp only[U5]at hcells;exact gen hcells.1 hcells.2
 obtain⟨cs,hcs,hden⟩:=hval
 have hflS:B4 (shC nk cells)=true:=by
  clear hcs hcells hk hd hcall hbody
  induction cells with
  |nil=>rfl
  |cons d l ih=>
   have h1:=A9 hfl C7;have h2:=ih (M3 fun x hx=>A9 hfl (F6 _ hx));cases d<;>simp[a6F]at h1<;>exact h2
 have hput:=D3 (w0:=w0) (bor:=bor) (s:=.agg cs) hk hsim (by simp only[j5];exact⟨cs,rfl,hcs,hflS⟩);obtain⟨st2,⟨sy2,h1,h2⟩,h3,h4⟩:=a1g hrel hput (v:=.agg av.toArray) (.inr (by simp[den,hden]));refine⟨st2,sy2,h1,h2,⟨h3,(Fx.refl _ _).of_below hb,fun b hb2=>?_⟩,hblk,fun k e hm b hb2=>?_⟩
 ·rw[h4]at hb2;rcases(b6t rs nk H' b).1 hb2 with hb2|hb2
  ·exact .inl hb2
  ·rw[hflat]at hb2;exact .inr (hbl b hb2).1
 ·rw[h4]at hm;rcases b8z rs nk H' k e hm with hm|hm
  ·exact .inr ⟨e,hm,hb2⟩
  ·have:=hm b hb2;rw[hflat]at this;exact .inl (hbl b this).1
theorem b5A(hA:AG A X.P w0 bor){o:Oper}{Q:Exit→Act→World→Prop}{KY:Sy→Prop}{f:FuncId}{args:List D}{args':List SV}(hr:Rel (cx X w0 bor) st a w)(hs:Sim A st sy)(ha:j9 (okS A st) st.w (B0 st) args args')
 (hln:O2 f X.ln=false) (h:b3M X true f args sy fun sy' x=>O5 X sy' o.dst x KY) (hout:a2A (cx X w0 bor) st a o (.call f args')):o.wp X.P a w (LvK A (cx X w0 bor) st.H w KY) Q:=by
 have hr0:=hr.now;have hs0:=hs.now hr.cls;have ha0:=ha.now hr.cls
 --the call itself,from some state
 have main:∀(st1:St) (args1:List SV) (fa:List D) (Qr:D→Prop),Cls (cx X w0 bor) st1.H st1.nk w w→At st1 w→j9 (okS A st1) w (B0 st1) fa args1→o6 st1.H args1=o6 st.H args'→U3 fa=true→p0 X.P f fa Qr→
  (∀v r w',Below w.heap.size w w'→Qr r→Rep (fun b=>okS A st1 b∨(w.heap.size≤b∧b<w'.heap.size)) w' r v→LvK A (cx X w0 bor) st.H w KY (a.put o.dst v) w')→o.wp X.P a w (LvK A (cx X w0 bor) st.H w KY) Q:=by
  intro st1 args1 fa Qr hc hat hfa hden hcl hd hk;have hrep:=G7 (H:=st1.H) _ _ hfa hcl;rw[hden]at hrep;have hcall:=hd (okS A st1) w _ hrep (fun b hb=>by have:=hb.2.1;rw[hat.1]at this;exact this) (hA.giw hr.cls);have hbody:=a1p hcall fun e w' ⟨v,r,he,_⟩=>⟨_,he⟩
  unfold Oper.wp;rw[show(execOp a.eval o).run X.P w=_ from hout w hbody];simp only[Oper.upon];refine hcall.mono fun e w' ⟨v,r,he,hq,hrp,hb⟩=>?_
  subst he;exact hk v r w' hb hq hrp
 have done:∀(st1:St) (sy1:Sy) (v:Value) (r:D) (w':World),Rel (cx X w0 bor) st1 a w→Sim A st1 sy1→b0a st1.H st.H→Below w.heap.size w w'→j5 (okS A (now st1 w')) w' (B0 (now st1 w')) r (.v v)→O5 X sy1 o.dst r KY→LvK A (cx X w0 bor) st.H w KY (a.put o.dst v) w':=by
  intro st1 sy1 v r w' hr1 hs1 hsub hb hrd hp;have hput:=D3 (w0:=w0) (bor:=bor) hp (hs1.past hr1.cls hb) hrd;obtain⟨st2,⟨sy2,h1,h2⟩,h3,h4⟩:=a1g (hr1.past hb) hput (v:=v) (.inr rfl)
  exact⟨st2,sy2,h1,h2,⟨h3,(Fx.refl _ _).of_below hb,fun b hb2=>.inl (hsub.bs b (by rw[h4]at hb2;exact hb2))⟩,fun i hi=>hb.block i hi,fun k e hm b hb2=>by
   rw[h4]at hm;obtain⟨e0,g1,g2⟩:=hsub k e hm;exact .inr ⟨e0,g1,g2 b hb2⟩⟩
 have repOk:∀(st1:St) (w':World) (v:Value) (r:D),Cls (cx X w0 bor) st1.H st1.nk st1.w w→At st1 w→Below w.heap.size w w'→Rep (fun b=>okS A st1 b∨(w.heap.size≤b∧b<w'.heap.size)) w' r v→j5 (okS A (now st1 w')) w' (B0 (now st1 w')) r (.v v):=by
  intro st1 w' v r hc hat hb hrp;refine Rep.rel _ _ (Rep.mono (fun b hbk=>⟨?_,rfl⟩) _ _ hrp);rcases hbk with hbk|⟨h1,h2⟩
  ·exact((b9Q hc hb) b hbk).1
  ·exact⟨⟨.inl h2,hA.a b (.inl (z6 hc.fx0.size h1))⟩,h2,fun c hcb e=>by have:=hc.lt_size hcb;omega⟩
 unfold b3M at h;split at h
 ·rename_i hm;rw[hln]at hm;cases hm
 ·split at h
  ·rcases h with h|h
   ·exact c3n hA hr hs ha (by assumption) h hout
   ·exact c3V hA hr hs ha (by assumption) h hout
  ·exact h.elim
 split at h
 ·rename_i hcl;obtain⟨Qr,hd,hk⟩:=h.ex;refine main (now st w) args' args Qr hr0.cls ⟨rfl,rfl,rfl⟩ ha0 rfl hcl hd fun v r w' hb hq hrp=>?_
  exact done (now st w) sy v r w' hr0 hs0 (b0a.refl _) hb (repOk (now st w) w' v r hr0.cls ⟨rfl,rfl,rfl⟩ hb hrp) (hk r hq)
 ·split at h
  ·rename_i sy' fa hfz;split at h
   ·rename_i hcl;obtain⟨Qr,hd,hk⟩:=h.ex;obtain⟨st1,args1,c1,a1,s1,b1,o1,g1,g2⟩:=a7h (Xx:=cx X w0 bor) hA.a _ hr0.cls ⟨rfl,rfl,rfl⟩ hs0 ha0 hfz
    have hr1:Rel (cx X w0 bor) st1 a w:=by
     refine⟨hr.size,fun d s hd=>?_,hr.dfs,?_,?_,?_⟩
     ·rcases o1 d s hd with e|⟨s0,h1,h2,h3⟩
      ·exact .inl e
      ·rcases hr0.T d s0 h1 with e|e
       ·exact absurd e h2
       ·right;rw[e,h3]
     ·rw[a1.1];exact c1
     ·rw[a1.2.1];exact y6 _
     ·rw[a1.2.2];simp
    refine main st1 args1 fa Qr c1 a1 g1 g2 hcl hd fun v r w' hb hq hrp=>?_
    have hkr:=hk r hq;cases hsc:a6H r with
    |true=>
     rw[hsc]at hkr;exact done (now st w) sy v r w' hr0 hs0 (b0a.refl _) hb (Rep.rel _ _ (b1J _ _ hrp hsc)) hkr
    |false=>
     rw[hsc]at hkr;exact done st1 sy' v r w' hr1 s1 b1 hb (repOk st1 w' v r hr1.cls a1 hb hrp) hkr
   ·exact h.elim
  ·exact h.elim
theorem c6C(hA:AG A X.P w0 bor){o:Oper}{Q:Exit→Act→World→Prop}{KY:Sy→Prop}{f:FuncId}{args:List D}{args':List SV}(hr:Rel (cx X w0 bor) st a w)(hs:Sim A st sy)(ha:j9 (okS A st) st.w (B0 st) args args')
 (h:b3M X true f args sy fun sy' x=>O5 X sy' o.dst x KY) (hout:a2A (cx X w0 bor) st a o (.call f args')):o.wp X.P a w (LvY A (cx X w0 bor) st.H w KY) Q:=by
 cases hln:O2 f X.ln with
 |true=>simp only[b3M,hln]at h;exact c6q hA hr hs ha h hout
 |false=>exact a4B (fun a' w' ⟨st2,sy2,g1,g2,g3,_⟩=>⟨st2,sy2,g1,g2,g3⟩) (b5A hA hr hs ha hln h hout)
theorem c4h(hA:AG A X.P w0 bor){KY:Sy→Prop}{f:FuncId}{args:List D}{args':List SV}{dst:Option Nat}(hs:Sim A st sy)(ha:j9 (okS A st) st.w (B0 st) args args')
 (h:b3M X false f args sy fun sy' x=>O5 X sy' dst x KY):c7G (cx X w0 bor) false f args' st fun st' s=>put (cx X w0 bor) st' dst s fun st'=>∃sy',KY sy'∧Sim A st' sy':=by
 have fxok:∀n w1,st.w.heap.size≤n→n≤w1.heap.size→Fx (bs st.H) st.w w1→∀b,okS A st b→okS A ⟨st.T,st.H,st.nk,w1,st.lo,(n,w1.heap.size)::st.iv⟩ b∧w1.heap[b]?=st.w.heap[b]?:=by
  intro n w1 h1 h2 hfx b hb;refine⟨⟨⟨?_,hb.1.2⟩,C5 hb.2.1 hfx.size,hb.2.2⟩,hfx.block b hb.2.1 hb.2.2⟩;rcases hb.1.1 with h|⟨p,hp,h3⟩
  ·exact .inl h
  ·exact .inr ⟨p,F6 _ hp,h3⟩
 have simOk:∀n w1,st.w.heap.size≤n→n≤w1.heap.size→Fx (bs st.H) st.w w1→Sim A ⟨st.T,st.H,st.nk,w1,st.lo,(n,w1.heap.size)::st.iv⟩ sy:=by
  intro n w1 h1 h2 hfx;obtain⟨T,H,nk⟩:=sy;exact hs.mono (fxok n w1 h1 h2 hfx) (fun _ _ h=>h) (fun _ _ h=>h) (fun _ _ h=>h) rfl hs.fT hs.fH
 unfold b3M at h;split at h
 ·exact h.elim
 ·exact h.elim
 split at h
 ·rename_i hcl;obtain⟨Qr,hd,hk⟩:=h.ex;refine⟨Value,.v,fun v n w1=>w0.heap.size≤n∧∃r,Qr r∧Rep (fun b=>(b<n∧okS A st b)∨(n≤b∧b<w1.heap.size)) w1 r v,fun wc hc=>?_,fun v n w1 h1 h2 h3 hfx ⟨hw0,r,hq,hrp⟩=>?_⟩
  ·have hrep:=G7 (H:=st.H) _ _ (ha.now hc) hcl
   have hrep2:l5 (fun b=>b<wc.heap.size∧okS A st b) wc args (o6 st.H args'):=by
    have:=G7 (H:=st.H) _ _ ha hcl;refine l5.mono (fun b hb=>⟨⟨C5 hb.2.1 hc.fx.size,hb⟩,hc.fx.block b hb.2.1 hb.2.2⟩) _ _ this
   refine(hd _ wc _ hrep2 (fun b hb=>hb.1) (hA.giw hc)).mono fun e w' ⟨v,r,he,hq,hrp,hb⟩=>?_
   exact⟨v,he,hb,hc.fx0.size,r,hq,hrp⟩
  ·obtain⟨T',H',nk',w,lo,iv⟩:=st;refine D3 (hk r hq) (simOk n w1 h1 h2 hfx) (Rep.rel _ _ (Rep.mono (fun b hbk=>⟨?_,rfl⟩) _ _ hrp));rcases hbk with⟨_,hbk⟩|⟨h4,h5⟩
   ·exact(fxok n w1 h1 h2 hfx b hbk).1
   ·exact⟨⟨.inr ⟨_,C7,h4,h5⟩,hA.a b (.inl (z6 hw0 h4))⟩,h5,fun c hcb e=>by have:=h3 c hcb;omega⟩
 ·split at h
  ·rename_i sy' fa hfz;split at h
   ·rename_i hcl;obtain⟨Qr,hd,hk⟩:=h.ex;refine⟨Value,.v,fun v n w1=>∃r,Qr r∧a6H r=true∧Rep (fun _=>False) w1 r v,fun wc hc=>?_,fun v n w1 h1 h2 h3 hfx ⟨r,hq,hsc,hrp⟩=>?_⟩
    ·have hcn:Cls (cx X w0 bor) (now st wc).H (now st wc).nk wc wc:=⟨Fx.refl _ _,hc.fx0,hc.own,hc.nd,hc.lb,hc.keys,hc.lt⟩;obtain⟨st1,args1,c1,a1,s1,b1,o1,g1,g2⟩:=a7h (Xx:=cx X w0 bor) hA.a _ hcn ⟨rfl,rfl,rfl⟩ (hs.now hc) (ha.now hc) hfz;have hrep:=G7 (H:=st1.H) _ _ g1 hcl;rw[g2]at hrep;refine(hd (okS A st1) wc _ hrep (fun b hb=>by have:=hb.2.1;rw[a1.1]at this;exact this) (hA.giw hc)).mono fun e w' ⟨v,r,he,hq,hrp,hb⟩=>?_
     have hkr:=hk r hq;cases hsc:a6H r with
     |true=>exact⟨v,he,hb,r,hq,hsc,b1J _ _ hrp hsc⟩
     |false=>rw[hsc]at hkr;exact hkr.elim
    ·have hkr:=hk r hq;rw[hsc]at hkr;obtain⟨T',H',nk',w,lo,iv⟩:=st;exact D3 hkr (simOk n w1 h1 h2 hfx) (Rep.rel _ _ (b1J _ _ hrp hsc))
   ·exact h.elim
  ·exact h.elim
end
section
variable {A : Nat → Prop}{X : Cy}{w0 : World}{bor : List Nat}{st : St}{sy : Sy}{a : Act}{w : World}
theorem a7c(hA:AG A X.P w0 bor){seq:Bool}{dst:Option Nat}{KY:Sy→Prop}{oy:a8B}{out:Out}(h:a9k X seq sy dst KY oy)(hr:b0X st.H (okS A st) st.w (B0 st) oy out)(hs:Sim A st sy)(hc:seq=false∨∀f args,out≠ .call f args):
 fin (cx X w0 bor) seq st dst (fun st'=>∃sy',KY sy'∧Sim A st' sy') out:=by
 cases oy with
 |val x=>
  cases out<;>try exact hr.elim
  exact D3 h hs hr.1
 |new cs ty sl=>
  cases out<;>try exact hr.elim
  rename_i cs' ty' sl';obtain⟨rfl,h2,rfl⟩:=hr;obtain⟨T',H',nk',w,lo,iv⟩:=st;obtain⟨T,H,nk⟩:=sy;have hnk:nk=nk':=hs.nk;subst hnk;simp only[fin,hs.fT nk (y6 _),hs.fH nk (y6 _),h2.ment (fun q=>b1h (st:=⟨T',H',nk,w,lo,iv⟩) (y6 _) q)];refine .inl fun b hb hiv=>?_
  refine D3 h (d0i hs h2 hb hiv) ?_;cases sl with
  |none=>simp only[j5,Option.map_none];exact⟨trivial,by simp only;omega,by simp⟩
  |some p=>obtain⟨z,n⟩:=p;simp only[j5,a6T];exact⟨trivial,by simp only;omega,by simp⟩
 |newR l ty z n=>
  cases out<;>try exact hr.elim
  rename_i cs' ty' sl';obtain⟨rfl,rfl,hlen,hnm,hfl,xs,rfl,hrep⟩:=hr;obtain⟨T',H',nk',w,lo,iv⟩:=st;obtain⟨T,H,nk⟩:=sy;have hnk:nk=nk':=hs.nk;subst hnk;simp only[fin,hs.fT nk (y6 _),hs.fH nk (y6 _),b4C];refine .inr ⟨n,z,⟨rfl,by rw[b8P,←hrep.length,hlen],hnm,(l5.rel (R:=B0 ⟨T',H',nk,w,lo,iv⟩) _ _ hrep).one (b8c _) hfl⟩,fun b hb hiv=>?_⟩;rw[H9];refine D3 h (c7W hs hrep hfl hlen hb hiv) ?_;simp only[j5];exact⟨trivial,by simp only;omega,fun _=>⟨_,by simp only[l4,Nat.beq_refl];rfl,rfl⟩⟩
 |call f args=>
  cases out<;>try exact hr.elim
  obtain⟨rfl,h2⟩:=hr;rcases hc with rfl|hc
  ·simp only[a9k]at h;split at h
   ·exact h.elim
   ·exact c4h hA hs h2 h
  ·exact absurd rfl (hc _ _)
 |upd k cs=>
  cases out<;>try exact hr.elim
  obtain⟨rfl,h2⟩:=hr;obtain⟨T',H',nk',w,lo,iv⟩:=st;obtain⟨T,H,nk⟩:=sy;simp only[a9k]at h;cases hf:m7 H k with
  |none=>rw[hf]at h;exact h.elim
  |some e=>
   rw[hf]at h;cases e with
   |row=>exact h.elim
   |mp=>exact h.elim
   |blk cs0 ty=>
    obtain⟨e',hf',he⟩:=hs.H _ _ hf;cases e' with
    |row=>exact he.elim
    |mp=>exact he.elim
    |blk b cs' ty'=>
     simp only at hf';obtain⟨rfl,_⟩:=he;have h:=a3V h;simp only[fin,hf'];refine a8c hf' ?_;refine D3 h (b4w (e':=.blk b _ _) hs hf' (by exact⟨rfl,h2⟩) rfl (fun h=>by cases h) fun j hj=>?_) (by simp only[j5]);simp only[a7T,a5J];exact h2.ment (fun q=>b1h (st:=⟨T',H',nk',w,lo,iv⟩) hj q)
 |updR k l=>
  cases out<;>try exact hr.elim
  obtain⟨rfl,h2,h3,h6⟩:=hr;obtain⟨T',H',nk',w,lo,iv⟩:=st;obtain⟨T,H,nk⟩:=sy;simp only[a9k]at h;cases hf:m7 H k with
  |none=>rw[hf]at h;exact h.elim
  |some e=>
   rw[hf]at h;cases e with
   |blk=>exact h.elim
   |mp=>exact h.elim
   |row z n l0 ty=>
    obtain⟨e',hf',he⟩:=hs.H _ _ hf;cases e' with
    |blk=>exact he.elim
    |mp=>exact he.elim
    |row v n' xs z' ty'=>
     simp only at hf';obtain⟨rfl,rfl,rfl,h4,h5,h7⟩:=he;have h:=a3V h;simp only[fin,hf'];refine a8c hf' ?_;exact D3 h (b4w (e':=.row v n _ z ty) hs hf' (by exact⟨rfl,rfl,rfl,h2,h3,h6 _ _ _ _ _ hf'⟩) rfl (fun _=>rfl) fun j hj=>rfl) (by simp only[j5])
 |app e esz bytes s x=>
  cases out<;>try exact hr.elim
  obtain⟨rfl,rfl,rfl,h4,h5⟩:=hr;exact c9W h hs h4 h5
theorem b2Y{ops:List Oper}{g:Option (Nat×Bool)}{yesY noY:Sy→Prop}{yes no:St→Prop}(h:a3M ops g sy yesY noY)(hs:Sim A st sy)(h1:∀st' sy',Sim A st' sy'→yesY sy'→yes st')(h2:∀st' sy',Sim A st' sy'→noY sy'→no st'):a6j ops g st yes no:=by
 unfold a3M at h;split at h
 ·exact h1 _ _ hs h
 ·rename_i j want;split at h
  ·rename_i d hd;obtain⟨T',H',nk',w,lo,iv⟩:=st;obtain⟨T,H,nk⟩:=sy
   have ext:∀b:Bool,Sim A ⟨(d,.v (.bool b))::T',H',nk',w,lo,iv⟩ ⟨(d,.v (.bool b))::T,H,nk⟩:=by
    intro b;refine⟨fun d' x hx=>?_,hs.H,hs.nk,fun j hj=>?_,hs.fH⟩
    ·simp only[u0]at hx;simp only[A8];cases hb:Nat.beq d d' with
     |true=>rw[hb]at hx;cases hx;exact .inr ⟨_,rfl,by simp only[j5];exact⟨trivial,rfl⟩⟩
     |false=>rw[hb]at hx;exact hs.T d' x hx
    ·simp only[w8,ment];exact hs.fT j hj
   split at h
   ·rename_i b hl;obtain⟨hlt,hl⟩:=a4c hl;rcases hs.T d _ hl with e|⟨s,h3,h4⟩
    ·cases e
    ·have:=h4.sc;subst this;simp only at h3;simp only[a6j,hd,a9r hlt,h3];cases b<;>cases want<;>simp only[VIf]at h⊢
     ·exact h1 _ _ (ext false) h
     ·exact h2 _ _ (ext false) h
     ·exact h2 _ _ (ext true) h
     ·exact h1 _ _ (ext true) h
   ·rename_i hl;obtain⟨hlt,hl⟩:=a4c hl;rcases hs.T d _ hl with e|⟨s,h3,h4⟩
    ·cases e
    ·simp only[j5]at h4;subst h4;simp only at h3;simp only[a6j,hd,a9r hlt,h3,undef];exact h2 _ _ hs h
   ·exact h.elim
  ·exact h.elim
theorem zOK(hP:POK X.P X.tt):∀t i,D4 X.tt t=some i→(∀x,x∈i.z→a3T x=true)∧i.z.length=i.n:=fun t i h=>⟨fun x hx=>by rw[a9M];exact(hP.tt t i h).zo x hx,(hP.tt t i h).zn⟩
theorem c9H{x:D}{s:SV}{ok:Nat→Prop}{R:Bool→Nat→Prop}(h:j5 ok w R x s)(hne:x≠ .bad):d2R x=b7S s:=by
 cases x<;>simp only[j5]at h
 ·rw[h.1];rfl
 ·obtain⟨cs,h,_⟩:=h;cases s<;>simp[a4Y]at h<;>rfl
 ·obtain⟨y,rfl,_⟩:=h;rfl
 ·obtain⟨y,rfl,_⟩:=h;rfl
 ·rw[h.1];rfl
 ·rw[h.1];rfl
 ·rw[h.1];rfl
 ·rw[h.1];rfl
 ·rw[h.1];rfl
 ·rcases h with⟨cs,rfl,_⟩|⟨cs,rfl,_⟩<;>rfl
 ·rcases h with⟨cs,_,rfl,_⟩|⟨cs,_,rfl,_⟩<;>rfl
 ·obtain⟨y,rfl,_⟩:=h;rfl
 ·rw[h];rfl
 ·exact absurd rfl hne
theorem d1h{fl:Bool}{i:Nat}{op:Op}{pr:List (Nat×Option Nat)}{K K':List (Nat×Option Nat)→Prop}(h:rdY fl i op sy pr K)(hs:Sim A st sy)(hK:∀pr,K pr→K' pr):rdP (cx X w0 bor) fl i op st pr K':=by
 unfold rdY at h;split at h
 ·rename_i t p;split at h
  ·rename_i x hx;obtain⟨s,h1,h2,h3⟩:=o0 hs hx;have ht:=c9H h2 h3;split at h
   ·rename_i k hk;rw[hk]at ht;simp only[rdP,h1,←ht];exact hK _ h
   ·rename_i hk;rw[hk]at ht;simp only[rdP,h1,←ht];split at h
    ·simp only[j5,Rep]at h2;obtain⟨y,rfl,b,p,xs,rfl,hok,_⟩:=h2;cases fl with
     |false=>exact hK _ h
     |true=>exact⟨.inr (by rcases hok.1.1 with h|h;exact .inl h;exact .inr h),hK _ h⟩
    ·exact h.elim
  ·exact h.elim
 ·rename_i _ m _ _;split at h
  ·rename_i k z0 hx;obtain⟨s,h1,h2,_⟩:=o0 hs hx;simp only[j5]at h2;obtain⟨rfl,_⟩:=h2;simp only[rdP,h1];exact hK _ h
  ·exact h.elim
 ·rename_i hno hnl;unfold rdP;split
  ·rename_i t p;exact absurd rfl (hno t p)
  ·exact absurd rfl (hnl _ _ _ _)
  ·exact hK _ h
theorem c2U{ok:Nat→Prop}{R:Bool→Nat→Prop}{e z b:Nat}{s x:D}{s' x':SV}(h4:j5 ok w R s s'):b6i (.app e z b s x)=a8q (.app e z b s' x'):=by
 cases s<;>simp only[j5]at h4
 ·rw[h4.1];rfl
 ·obtain⟨cs,h,_⟩:=h4;cases s'<;>simp[a4Y]at h<;>rfl
 ·obtain⟨y,rfl,_⟩:=h4;rfl
 ·obtain⟨y,rfl,_⟩:=h4;rfl
 ·rw[h4.1];rfl
 ·rw[h4.1];rfl
 ·rw[h4.1];rfl
 ·rw[h4.1];rfl
 ·rw[h4.1];rfl
 ·rcases h4 with⟨cs,rfl,_⟩|⟨cs,rfl,_⟩<;>rfl
 ·rcases h4 with⟨cs,_,rfl,_⟩|⟨cs,_,rfl,_⟩<;>rfl
 ·obtain⟨y,rfl,_⟩:=h4;rfl
 ·rw[h4];rfl
 ·rw[h4];rfl
theorem d0r{oy:a8B}{out:Out}{ok:Nat→Prop}{R:Bool→Nat→Prop}(h:b0X st.H ok w R oy out):b6i oy=a8q out∨(b6i oy=none∧∃e z b s x,out=.app e z b s x∧a8q out=none):=by
 cases oy<;>cases out<;>try exact h.elim
 ·exact .inl rfl
 ·exact .inl rfl
 ·exact .inl rfl
 ·exact .inl rfl
 ·obtain⟨rfl,_⟩:=h;exact .inl rfl
 ·obtain⟨rfl,_⟩:=h;exact .inl rfl
 ·obtain⟨rfl,rfl,rfl,h4,_⟩:=h;left;exact c2U h4
theorem c7s{Xx:Cx}{seq:Bool}{dst:Option Nat}{out:Out}{K K':St→Prop}(h:fin Xx seq st dst K out)(hk:∀st',K st'→K' st'):fin Xx seq st dst K' out:=by
 obtain⟨T,H,nk,ws,lo,iv⟩:=st;cases out with
 |val s=>exact R8 h hk
 |new cs ty sl=>
  simp only[fin]at h⊢;cases h1:w8 nk T with
  |false=>rw[h1]at h;exact h.elim
  |true=>cases h2:A7 nk H with
   |false=>rw[h1,h2]at h;exact h.elim
   |true=>cases h3:I2 nk cs with
    |true=>rw[h1,h2,h3]at h;exact h.elim
    |false=>
     rw[h1,h2,h3]at h;rcases h with h|⟨n,sz,h0,h⟩
     ·exact .inl fun b hb hiv=>R8 (h b hb hiv) hk
     ·exact .inr ⟨n,sz,h0,fun b hb hiv=>R8 (h b hb hiv) hk⟩
 |call f args=>
  obtain⟨ι,r,φ,h1,h2⟩:=h.ex;refine⟨ι,r,φ,h1,fun i n w1 a1 a2 a3 a4 a5=>?_⟩;have:=h2 i n w1 a1 a2 a3 a4 a5;cases seq
  ·exact R8 this hk
  ·exact R8 this hk
 |upd k cs=>
  unfold fin at h⊢;simp only at h⊢;cases hf:l4 H k with
  |none=>rw[hf]at h;exact h.elim
  |some e=>
   rw[hf]at h;cases e with
   |row=>exact h.elim
   |mp=>exact h.elim
   |blk=>exact a2M h fun H' hh=>R8 hh hk
 |updR k xs=>
  unfold fin at h⊢;simp only at h⊢;cases hf:l4 H k with
  |none=>rw[hf]at h;exact h.elim
  |some e=>
   rw[hf]at h;cases e with
   |blk=>exact h.elim
   |mp=>exact h.elim
   |row=>exact a2M h fun H' hh=>R8 hh hk
 |app e esz bytes s x=>
  obtain⟨k,n,m,v,xs,news,h0,h1⟩:=b8G.ex h
  have reM:∀ {w1:World}{A B:List (Nat×SV)→Hp→Nat→World→Nat→List (Nat×Nat)→Prop},(∀T H nk w lo iv,A T H nk w lo iv→B T H nk w lo iv)→reW seq ⟨T,H,nk,ws,lo,iv⟩ w1 A→reW seq ⟨T,H,nk,ws,lo,iv⟩ w1 B:=by
   intro w1 A B hAB hA;cases seq
   ·exact hAB _ _ _ _ _ _ hA
   ·exact hAB _ _ _ _ _ _ hA
  refine b8G.mk ⟨k,n,m,v,xs,news,h0,?_⟩;rcases h1 with⟨g1,g2,h1⟩|⟨g1,g2,h1⟩|⟨g1,g2,h1⟩|⟨g1,g2,h1,h1'⟩
  ·exact .inl ⟨g1,g2,fun v' w1 a1 a2 a3=>reM (fun _ _ _ _ _ _ ⟨b1,b2,b3⟩=>⟨b1,b2,R8 b3 hk⟩) (h1 v' w1 a1 a2 a3)⟩
  ·exact .inr (.inl ⟨g1,g2,fun v' w1 a1 a2 a3=>reM (fun _ _ _ _ _ _ b=>a2M b fun H' hh=>by rw[a5A]at hh⊢;exact R8 hh hk) (h1 v' w1 a1 a2 a3)⟩)
  ·exact .inr (.inr (.inl ⟨g1,g2,fun v' w1 a1 a2 a3=>reM (fun _ _ _ _ _ _ b=>a2M b fun H' hh=>by rw[a5A]at hh⊢;exact R8 hh hk) (h1 v' w1 a1 a2 a3)⟩))
  ·exact .inr (.inr (.inr ⟨g1,g2,fun a=>R8 (h1 a) hk,fun a v' w1 a1 a2 a3=>reM (fun _ _ _ _ _ _ ⟨b1,b2,b3⟩=>⟨b1,b2,R8 b3 hk⟩) (h1' a v' w1 a1 a2 a3)⟩))
theorem c6e(hA:AG A X.P w0 bor){i:Nat}{S:List Nat}{fl:Bool}{pr:List (Nat×Option Nat)}{o:Oper}{K:Sy→List (Nat×Option Nat)→Prop}{K':St→List (Nat×Option Nat)→Prop}{oy:a8B}{out:Out}(h:c0D X i S fl pr o sy K oy)
 (hr:b0X st.H (okS A st) st.w (B0 st) oy out) (hs:Sim A st sy) (hK:∀st' sy' pr,Sim A st' sy'→K sy' pr→K' st' pr):c0X (cx X w0 bor) i S fl pr o st K' out:=by
 have mono:∀(seq:Bool) (dst:Option Nat) (out:Out),fin (cx X w0 bor) seq st dst (fun st'=>∃sy',K sy' pr∧Sim A st' sy') out→fin (cx X w0 bor) seq st dst (fun st'=>K' st' pr) out:=fun seq dst out h=>c7s h fun st' ⟨sy',h1,h2⟩=>hK st' sy' pr h2 h1
 unfold c0D at h;unfold c0X;split at h
 ·rename_i hv;simp only[hv];cases oy<;>try exact h.elim
  cases out<;>try exact hr.elim
  refine d1h h hs fun pr hp=>?_
  exact R8 (D3 hp hs hr.1) fun st' ⟨sy',h1,h2⟩=>hK st' sy' pr h2 h1
 ·rename_i hv;simp only[hv];split at h
  ·rename_i ha;simp only[ha];cases oy<;>try exact h.elim
   ·cases out<;>try exact hr.elim
    rename_i cs ty sl cs' ty' sl';cases sl with
    |none=>
     obtain⟨rfl,h2,rfl⟩:=hr;exact mono _ _ _ (a7c hA h (by exact⟨rfl,h2,rfl⟩) hs (.inl rfl))
    |some p=>exact h.elim
   ·cases out<;>try exact hr.elim
    exact mono _ _ _ (a7c hA h hr hs (.inl rfl))
  ·rename_i ha;simp only[ha];split at h
   ·rename_i hc;simp only[hc];cases oy<;>try exact h.elim
    cases out<;>try exact hr.elim
    exact mono _ _ _ (a7c hA h hr hs (.inl rfl))
   ·rename_i hc;simp only[hc]
    have hk:b6i oy=a8q out:=by
     rcases d0r hr with h|⟨h1,_,_,_,_,_,_,h2⟩
     ·exact h
     ·rw[h1,h2]
    cases oy<;>try exact h.elim
    all_goals (cases out<;>try exact hr.elim)
    all_goals (
     have h':=h
     try simp only at h'
     try simp only
     rw[hk]at h';split
     ·rename_i k hkk;rw[hkk]at h';simp only at h';cases hse:c0o pr S k with
      |true=>rw[hse]at h';exact mono _ _ _ (a7c hA h' hr hs (.inl rfl))
      |false=>rw[hse]at h';exact h'.elim
     ·rename_i hkk;rw[hkk]at h';exact mono _ _ _ (a7c hA h' hr hs (.inl rfl)))
end
end Go.Sx
