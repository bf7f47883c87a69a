/- The walk over pure data: its definitions, that it is sound, and what may be read at a type. -/
import Derived.Test.YtcedmbakcchkiaaGreatDoorA2
set_option linter.unusedVariables false
set_option linter.unusedSimpArgs false
namespace Go.Sx
open Go Go.RowKit
inductive D where
 |v (x:Value)
 |agg (l:List D)
 |lst (z n:Nat) (l:List D)
 |ptr (l:List D) (o:Nat)
 |own (k o:Nat)
 |ownx (k o:Nat)
 |row (k z:Nat)
 |elr (k z i o:Nat)
 |osl (k o z n c:Nat)
 |tup (l:List D)
 |fn (f:FuncId) (first caps:List D)
 |mp (l:List (Int×Nat))
 |und
 |bad
inductive E where
 |blk (cs:List D) (ty:TypeId)
 |row (z n:Nat) (l:List D) (ty:TypeId)
abbrev Hy:=List (Nat×E)
structure Sy where
 T:List (Nat×D)
 H:Hy
 nk:Nat
structure Cy where
 P:Program
 tt:List (Nat×TI)
 nt:Nat
 pl:List (Nat×PT)
 ln:List Nat:= []
 un:List Nat:= []
 dfs:List Deferred:= []
 inl:List Nat:= []
 sv:List Value:= []
def o4:Hy→Nat→Option E
 | [],_=>none
 |(k',e)::H,k=>match Nat.beq k' k with|true=>some e|false=>o4 H k
def w8:List (Nat×D)→Nat→Option D
 | [],_=>none
 |(d,s)::T,k=>match Nat.beq d k with|true=>some s|false=>w8 T k
def a4W:D→Bool
 | .v _=>true
 | .lst _ _ _=>true
 | .ptr _ _=>true
 | .own _ _=>true
 | .ownx _ _=>true
 | .row _ _=>true
 | .elr _ _ _ _=>true
 | .osl _ _ _ _ _=>true
 | .fn _ _ _=>true
 | .mp _=>true
 |_=>false
def D3:List D→Bool
 | []=>true
 |d::l=>match a4W d with|true=>D3 l|false=>false
def ofV:Value→Option D
 | .agg a=>match a.toList.all a5h with|true=>some (.agg (a.toList.map .v))|false=>none
 | .tuple _=>none
 |x=>some (.v x)
def a9y (T:List (Nat×D)) (d:Nat):Option D:=match Nat.blt d 1000000 with|true=>w8 T d|false=>none
theorem a3q {T:List (Nat×D)} {d:Nat} {s:D} (h:a9y T d=some s):d<R0∧w8 T d=some s:=by
 unfold a9y at h
 split at h
 · rename_i hb;exact⟨by simpa [Nat.blt_eq]using hb,h⟩
 · cases h
theorem a6x {T:List (Nat×SV)} {d:Nat} (h:d<R0):b0y T d=C6 T d:=by
 unfold b0y
 rw [show Nat.blt d 1000000=true by simpa [Nat.blt_eq]using h]
def evY (st:Sy):Operand→Option D
 | .tmp t=>match a9y st.T t with|some .bad=>none|r=>r
 | .const v=>ofV v
 | .func f=>some (.fn f [] [])
 | .global _=>none
def a8m (st:Sy):List Operand→Option (List D)
 | []=>some []
 |x::l=>match evY st x,a8m st l with|some s,some r=>some (s::r)|_,_=>none
def takeD:Nat→List D→Option (List D)
 |0,_=>some []
 |_+1, []=>none
 |_+1, .bad::_=>none
 |n+1,x::l=>match takeD n l with|some r=>some (x::r)|none=>none
def dropD:Nat→List D→List D
 |0,l=>l
 |_+1, []=> []
 |n+1,_::l=>dropD n l
def mkD (agg:Bool) (l:List D):Option D:=
 match agg,l with
 |true,l=>match D3 l with|true=>some (.agg l)|false=>none
 |false, [x]=>match a4W x with|true=>some x|false=>none
 |false,_=>none
def a9N:D→Option (List D)
 | .agg l=>some l
 | .tup _=>none
 | .und=>none
 | .bad=>none
 |s=>some [s]
def c3q:D→Option (List D)
 | .agg l=>some l
 |_=>none
def b0M:Bool→D→Option (List D)
 |true, .agg l=>some l
 |false, .v (.bool b)=>some [.v (.bool b)]
 |_,_=>none
def b9Y:CK→D→D→Option Bool
 | .int k, .v (.int ka a), .v (.int kb b)=>match kEq k ka,kEq k kb with|true,true=>some (a==b)|_,_=>none
 | .bool, .v (.bool a), .v (.bool b)=>some (a==b)
 | .str, .v (.string a), .v (.string b)=>some (a.toList==b.toList)
 |_,_,_=>none
def a6l:List CK→List D→List D→Option Bool
 | [], [], []=>some true
 | [k], [x], [y]=>b9Y k x y
 |k::ks,x::l,y::r=>match b9Y k x y,a6l ks l r with|some a,some b=>some (a&&b)|_,_=>none
 |_,_,_=>none
def b3c:D→Bool
 | .v _=>true
 | .lst _ _ _=>true
 | .ptr _ _=>true
 |_=>false
def Z7:List D→Bool
 | []=>true
 |d::l=>match b3c d with|true=>Z7 l|false=>false
inductive a6r where
 |val (s:D)
 |new (cs:List D) (ty:TypeId) (sl:Option (Nat×Nat))
 |newR (l:List D) (ty:TypeId) (z n:Nat)
 |call (f:FuncId) (args:List D)
 |upd (key:Nat) (cs:List D)
 |updR (key:Nat) (l:List D)
 |app (e esz bytes:Nat) (s x:D)
def el (l:List D) (z i:Nat):List D:=(l.drop (i*z)).take z
def a9t (l:List D) (z i:Nat) (cs:List D):List D:=l.take (i*z)++cs++l.drop (i*z+z)
def a4p (K:a6r→Prop):Option D→Prop
 |some s=>K (.val s)
 |none=>False
def b0i (K:a6r→Prop):Out→Prop
 | .val (.v x)=>match a5h x with|true=>K (.val (.v x))|false=>False
 |_=>False
def b7w (st:Sy) (len cap:Nat) (lo hi mx:Option Operand) (K:Nat→Nat→Nat→Prop):Prop:=
 match mx with
 |none=>match hi with
  |none=>match lo with
   |none=>K 0 len cap
   |some l=>match evY st l with
    |some (.v (.int _ z))=>(0≤z∧z≤len)∧K z.toNat len cap
    |_=>False
  |some h=>match evY st h with
   |some (.v (.int _ y))=>(0≤y∧y≤cap)∧match lo with
    |none=>K 0 y.toNat cap
    |some l=>match evY st l with
     |some (.v (.int _ z))=>(0≤z∧z≤y)∧K z.toNat y.toNat cap
     |_=>False
   |_=>False
 |some _=>False
def b2u (X:Cy) (st:Sy) (b:Builtin) (args:List Operand) (tys:List TypeId) (K:a6r→Prop):Prop:=
 match b,tys with
 | .len,t::_=>match K9 X.tt t,a8m st args with
  |some ⟨_,_,_,_, .slice _ _ _⟩,some [.v (.slice none 0 0)]=>K (.val (.v (.int .i64 0)))
  |some ⟨_,_,_,_, .slice _ _ _⟩,some [.lst _ n _]=>K (.val (.v (.int .i64 n)))
  |some ⟨_,_,_,_, .slice _ _ _⟩,some [.osl _ _ _ n _]=>K (.val (.v (.int .i64 n)))
  |some ⟨_,_,_,_, .slice _ _ _⟩,some [.row k _]=>match o4 st.H k with
   |some (.row _ n _ _)=>K (.val (.v (.int .i64 n)))
   |_=>False
  |some ⟨_,_,_,_, .str⟩,some [.v (.string s)]=>K (.val (.v (.int .i64 s.size)))
  |_,_=>False
 | .max,_=>match a8m st args with
  |some [.v (.int ka a), .v (.int _ b)]=>K (.val (.v (.int ka (if b>a then b else a))))
  |some [.v (.int ka a), .v (.int _ b), .v (.int _ c)]=>K (.val (.v (.int ka (if c>(if b>a then b else a)then c else(if b>a then b else a)))))
  |_=>False
 | .min,_=>match a8m st args with
  |some [.v (.int ka a), .v (.int _ b)]=>K (.val (.v (.int ka (if b<a then b else a))))
  |_=>False
 | .append,t::u::_=>match Nat.beq t u,K9 X.tt t,a8m st args with
  |true,some ⟨_,_,_,_, .slice e esz bytes⟩,some [s,x]=>match K9 X.tt e with
   |some i=>match Nat.beq i.n esz with
    |true=>K (.app e esz bytes s x)
    |false=>False
   |none=>False
  |_,_,_=>False
 |_,_=>False
def b6v (X:Cy) (fs:List (Nat×Nat×Nat)) (f:Nat) (s:D) (K:a6r→Prop):Prop:=
 match a8T fs f,c3q s with
 |some (fty,off,n),some l=>match K9 X.tt fty,takeD n (dropD off l)with
  |some i,some r=>match Nat.beq i.n n with
   |true=>a4p K (mkD i.agg r)
   |false=>False
  |_,_=>False
 |_,_=>False
def b2v (fs:List (Nat×Nat×Nat)) (st:Sy):List (Nat×Operand)→List D→Option (List D)
 | [],l=>some l
 |(i,x)::ps,l=>match a8T fs i,evY st x with
  |some (_,off,n),some s=>match a9N s with
   |some cs=>match Nat.beq cs.length n,D3 cs with
    |true,true=>match over off cs l with
     |some r=>b2v fs st ps r
     |none=>none
    |_,_=>none
   |none=>none
  |_,_=>none
def a4Z (esz:Nat) (st:Sy):List (Nat×Operand)→List D→Option (List D)
 | [],l=>some l
 |(i,x)::ps,l=>match evY st x with
  |some s=>match a9N s with
   |some cs=>match Nat.beq cs.length esz,D3 cs with
    |true,true=>match over (i*esz) cs l with
     |some r=>a4Z esz st ps r
     |none=>none
    |_,_=>none
   |none=>none
  |_=>none
def b0I:Nat→List D→List D
 |0,_=> []
 |n+1,l=>l++b0I n l
def vD:List Value→List D
 | []=> []
 |x::l=> .v x::vD l
def c1E (st:Sy) (i:TI) (p:D) (K:a6r→Prop):Prop:=
 match p with
 | .own k o=>match o4 st.H k with
  |some (.blk cs _)=>match takeD i.n (dropD o cs)with
   |some l=>a4p K (mkD i.agg l)
   |none=>False
  |_=>False
 | .ownx k o=>match o4 st.H k with
  |some (.blk cs _)=>∃l,(takeD i.n (dropD o cs)=some l)∧a4p K (mkD i.agg l)
  |_=>False
 | .elr k z j o=>match o4 st.H k with
  |some (.row z' n l _)=>match Nat.beq z' z with
   |true=>∃cs,(el l z j=cs∧j<n)∧match takeD i.n (dropD o cs),Nat.ble (o+i.n) z with
    |some l,true=>a4p K (mkD i.agg l)
    |_,_=>False
   |false=>False
  |_=>False
 | .ptr l o=>match takeD i.n (dropD o l)with
  |some l=>a4p K (mkD i.agg l)
  |none=>False
 |_=>False
def b6N (st:Sy) (i:TI) (p s:D) (K:a6r→Prop):Prop:=
 match a9N s with
 |some l=>match Nat.beq l.length i.n,D3 l with
  |true,true=>match p with
   | .own k o=>match o4 st.H k with
    |some (.blk cs _)=>match over o l cs with
     |some cs'=>K (.upd k cs')
     |none=>False
    |_=>False
   | .ownx k o=>match o4 st.H k with
    |some (.blk cs _)=>∃cs',over o l cs=some cs'∧K (.upd k cs')
    |_=>False
   | .elr k z j o=>match o4 st.H k with
    |some (.row z' n r _)=>match Nat.beq z' z,Z7 l with
     |true,true=>∃cs,(el r z j=cs∧j<n)∧match over o l cs with
      |some cs'=>∃r',a9t r z j cs'=r'∧K (.updR k r')
      |none=>False
     |_,_=>False
    |_=>False
   |_=>False
  |_,_=>False
 |none=>False
def b0W (s:D) (off:Nat):Option D:=
 match s with
 | .own k o=>some (.own k (o+off))
 | .ownx k o=>some (.ownx k (o+off))
 | .elr k z i o=>some (.elr k z i (o+off))
 | .ptr l o=>some (.ptr l (o+off))
 |_=>none
def b1F (s:D) (off:Nat):Option D:=
 match s with
 | .own k o=>some (.ownx k (o+off))
 | .ownx k o=>some (.ownx k (o+off))
 |_=>none
def a6D:List (Int×Nat)→Int→Option Nat
 | [],_=>none
 |(k,f)::l,i=>match i==k with|true=>some f|false=>a6D l i
def y1 (X:Cy) (st:Sy) (op:Op) (K:a6r→Prop):Prop:=
 match op with
 | .move x=>a4p K (evY st x)
 | .assign x=>a4p K (evY st x)
 | .pick c a b=>match evY st c with
  |some (.v (.bool t))=>VIf t (a4p K (evY st a)) (a4p K (evY st b))
  |_=>False
 | .alloc t=>match K9 X.tt t with
  |some i=>K (.new (vD i.z) t none)
  |none=>False
 | .box t x=>match K9 X.tt t,evY st x with
  |some _,some s=>match a9N s with
   |some l=>match D3 l with|true=>K (.new l t none)|false=>False
   |none=>False
  |_,_=>False
 | .load t p=>match K9 X.tt t,evY st p with
  |some i,some s=>c1E st i s K
  |_,_=>False
 | .store t p x=>match K9 X.tt t,evY st p,evY st x with
  |some i,some q,some s=>b6N st i q s K
  |_,_,_=>False
 | .nilCheck p=>match evY st p with
  |some (.own k o)=>K (.val (.own k o))
  |some (.ownx k o)=>K (.val (.ownx k o))
  |some (.elr k z i o)=>K (.val (.elr k z i o))
  |some (.ptr l o)=>K (.val (.ptr l o))
  |_=>False
 | .fieldAddr t p f=>match K9 X.tt t,evY st p with
  |some ⟨_,_,_,_, .struct fs⟩,some s=>match a8T fs f with
   |some (_,off,_)=>a4p K (b0W s off)
   |none=>False
  |_,_=>False
 | .field t x f=>match K9 X.tt t,evY st x with
  |some ⟨_,_,_,_, .struct fs⟩,some s=>b6v X fs f s K
  |_,_=>False
 | .indexAddr t x ix=>match K9 X.tt t,evY st x,evY st ix with
  |some ⟨_,_,_,_, .slice _ esz _⟩,some (.lst z n l),some (.v (.int _ i))=>match Nat.beq z esz with
   |true=>∃cs,(el l z i.toNat=cs∧0≤i∧i<n)∧K (.val (.ptr cs 0))
   |false=>False
  |some ⟨_,_,_,_, .slice _ esz _⟩,some (.osl k o z n _),some (.v (.int _ i))=>match Nat.beq z esz with
   |true=>(0≤i∧i<n)∧K (.val (.ownx k (o+i.toNat*z)))
   |false=>False
  |some ⟨_,_,_,_, .slice _ esz _⟩,some (.row k z),some (.v (.int _ i))=>match Nat.beq z esz,o4 st.H k with
   |true,some (.row z' n _ _)=>match Nat.beq z' z with
    |true=>(0≤i∧i<n)∧K (.val (.elr k z i.toNat 0))
    |false=>False
   |_,_=>False
  |some ⟨_,_,_,_, .slice _ _ _⟩,some (.v (.slice none 0 0)),some (.v (.int _ i))=>0≤i∧i<0
  |some ⟨_,_,_,_, .arr len _ esz⟩,some s,some (.v (.int _ z))=>
   (0≤z∧z<len)∧a4p K (match b8b ix with|true=>b0W s (z.toNat*esz)|false=>b1F s (z.toNat*esz))
  |_,_,_=>False
 | .index t x ix=>match K9 X.tt t,evY st x,evY st ix with
  |some ⟨_,_,_,_, .str⟩,some (.v (.string s)),some (.v (.int _ z))=>
   ∃c,(0≤z∧s.data.toList[z.toNat]?=some c)∧K (.val (.v (.int .u8 c.toNat)))
  |some ⟨_,_,_,_, .arr len ety esz⟩,some s,some (.v (.int _ z))=>match c3q s,K9 X.tt ety with
   |some l,some i=>(0≤z∧z<len)∧match Nat.beq i.n esz,takeD i.n (dropD (z.toNat*esz) l)with
    |true,some r=>a4p K (mkD i.agg r)
    |_,_=>False
   |_,_=>False
  |_,_,_=>False
 | .binOp op t x y _=>match evY st x,evY st y with
  |some (.v (.int ka a)),some (.v (.int kb b))=>match c4l op,kEq ka kb with
   |true,_=>b7c op ka a b (b0i K)
   |false,true=>b2C op ka a b (b0i K)
   |false,false=>False
  |some (.v (.string a)),some (.v (.string b))=>b2h op a b (b0i K)
  |some s,some r=>match K9 X.tt t with
   |some ⟨_,agg,_,some ks,_⟩=>match b0M agg s,b0M agg r with
    |some l,some m=>match a6l ks l m with
     |some e=>a4b op e (b0i K)
     |none=>False
    |_,_=>False
   |some ⟨_,_,_,none, .slice _ _ _⟩=>match s,r with
    | .lst _ n _, .v (.slice none 0 0)=>∀b:Bool,(b=true→n=0)→a4b op b (b0i K)
    | .v (.slice none 0 0), .v (.slice none 0 0)=>a4b op true (b0i K)
    |_,_=>False
   |_=>False
  |_,_=>False
 | .unOp op _ x=>match op,evY st x with
  | .not,some (.v (.bool b))=>K (.val (.v (.bool (!b))))
  | .neg,some (.v (.int k a))=>K (.val (.v (.int k (k.wrap (0-a)))))
  |_,_=>False
 | .convert src dst x=>match K9 X.tt src,K9 X.tt dst,evY st x with
  |some _,some ⟨_,_,_,some [.int k], .int⟩,some (.v (.int _ n))=>K (.val (.v (.int k (k.wrap n))))
  |_,_,_=>False
 | .extract x n=>match evY st x with
  |some (.tup l)=>match dropD n l with| .bad::_=>False|s::_=>K (.val s)| []=>False
  |_=>False
 | .makeFunc fn first caps=>match fn,a8m st first.toList,a8m st caps.toList with
  | .func f,some l,some c=>K (.val (.fn f l c))
  |_,_,_=>False
 | .build t ps=>match K9 X.tt t with
  |some ⟨_,_,z,_, .struct fs⟩=>match b2v fs st ps.toList (vD z)with
   |some l=>match D3 l with|true=>K (.val (.agg l))|false=>False
   |none=>False
  |some ⟨_,_,z,_, .arr _ _ esz⟩=>match a4Z esz st ps.toList (vD z)with
   |some l=>match D3 l with|true=>K (.val (.agg l))|false=>False
   |none=>False
  |_=>False
 | .buildSlice t n ps=>match K9 X.tt t with
  |some ⟨_,_,_,_, .slice e esz _⟩=>match K9 X.tt e with
   |some i=>match Nat.ble (n*esz) 16777216,Nat.beq i.n esz,a4Z esz st ps.toList (b0I n (vD i.z))with
    |true,true,some l=>match Z7 l,Nat.ble n 16777216 with
     |true,true=>∃l' n',(l=l'∧n=n')∧K (.newR l' e esz n')
     |_,_=>K (.new l e (some (esz,n)))
    |_,_,_=>False
   |none=>False
  |_=>False
 | .makeSlice t l c=>match K9 X.tt t,evY st l,evY st c with
  |some ⟨_,_,_,_, .slice e esz bytes⟩,some (.v (.int _ p)),some (.v (.int _ q))=>match K9 X.tt e with
   |some i=>match Nat.beq i.n esz with
    |true=>(p=q∧0≤p∧(bytes:Int)*p≤281474976710656∧p≤9223372036854775807)∧∃l' n',(b0I p.toNat (vD i.z)=l'∧p.toNat=n')∧K (.newR l' e esz n')
    |false=>False
   |none=>False
  |_,_,_=>False
 | .slice t x lo hi mx=>match K9 X.tt t,evY st x with
  |some ⟨_,_,_,_, .slice _ esz _⟩,some (.lst z n l)=>match Nat.beq z esz with
   |true=>b7w st n n lo hi mx fun a h _=>∃r,(l.drop (a*z)).take ((h-a)*z)=r∧K (.val (.lst z (h-a) r))
   |false=>False
  |some ⟨_,_,_,_, .slice _ esz _⟩,some (.row k z)=>match Nat.beq z esz,o4 st.H k with
   |true,some (.row _ n _ _)=>0<n∧b7w st n n lo hi mx fun a h _=>∀o,(h-a=0∨o=a*z)∧(a=0→o=0)→K (.val (.osl k o z (h-a) a))
   |_,_=>False
  |some ⟨_,_,_,_, .str⟩,some (.v (.string s))=>
   b7w st s.size s.size lo hi mx fun l h _=>K (.val (.v (.string (s.extract l h))))
  |_,_=>False
 | .lookup t x ix ok=>match ok,evY st x,evY st ix with
  |false,some (.mp l),some (.v (.int .i64 i))=>(∃kt et,X.P.underlying t=some (.map kt et)∧X.P.underlying kt=some (.int .i64))∧∃f,a6D l i=some f∧K (.val (.fn f [] []))
  |_,_,_=>False
 | .call c=>match c.callee with
  | .value f=>match evY st f,a8m st c.args.toList with
   |some (.fn g l caps),some args=>K (.call g (l++(args++caps)))
   |_,_=>False
  | .builtin b=>b2u X st b c.args.toList c.argTypes.toList K
  |_=>False
 |_=>False
end Go.Sx
namespace Go.Sx
open Go Go.RowKit
mutual
def Rep (ok:Nat→Prop) (w:World):D→Value→Prop
 | .v x,y=>y=x∧a5h x=true
 | .agg l,y=>∃a,y= .agg a∧j3 ok w l a.toList∧D3 l=true
 | .lst z n l,y=>∃a c,y= .slice a n c∧n≤c∧(n:Int)≤9223372036854775807∧l.length=n*z∧D3 l=true∧
  (c=0∨∃b o xs,a=some ⟨b,o,none⟩∧ok b∧j3 ok w l xs∧∀j,j<n*z→w.cell? ⟨b,o+j,none⟩=xs[j]?)
 | .ptr l o,y=>∃b p xs,y= .pointer (some ⟨b,p+o,none⟩)∧ok b∧D3 l=true∧j3 ok w l xs∧∀j,j<l.length→w.cell? ⟨b,p+j,none⟩=xs[j]?
 | .fn f a b,y=>∃p q,y= .func (.func f) p q∧j3 ok w a p.toList∧j3 ok w b q.toList
 | .tup l,y=>∃a,y= .tuple a∧j3 ok w l a.toList
 | .mp l,y=>∃r es c,y= .map (some r)∧ok r∧w.heap[r]?=some (.map es c)∧es.toList.map (fun e=>(e.key,e.val))=l.map (fun p=>(Value.int .i64 p.1,Value.func (.func p.2) #[] #[]))
 |_,_=>False
def j3 (ok:Nat→Prop) (w:World):List D→List Value→Prop
 | [], []=>True
 |d::l,y::r=>Rep ok w d y∧j3 ok w l r
 |_,_=>False
end
mutual
theorem Rep.mono {ok ok':Nat→Prop} {w w':World} (hm:∀b,ok b→ok' b∧w'.heap[b]?=w.heap[b]?):∀(d:D) (y:Value),Rep ok w d y→Rep ok' w' d y
 | .v x,y,h=>h
 | .agg l,y,h=>by
  simp only [Rep]at h⊢
  obtain⟨a,h1,h2,h3⟩:=h
  exact⟨a,h1,j3.mono hm l _ h2,h3⟩
 | .lst z n l,y,h=>by
  simp only [Rep]at h⊢
  obtain⟨a,c,h1,h2,h3,h4,h5,h6⟩:=h
  refine⟨a,c,h1,h2,h3,h4,h5, ?_⟩
  rcases h6 with h6|⟨b,o,xs,e1,e2,e3,e4⟩
  · exact .inl h6
  · refine .inr ⟨b,o,xs,e1,(hm b e2).1,j3.mono hm l _ e3,fun j hj=> ?_⟩
    rw [←e4 j hj];simp only [World.cell?,(hm b e2).2]
 | .ptr l o,y,h=>by
  simp only [Rep]at h⊢
  obtain⟨b,p,xs,e1,e2,e5,e3,e4⟩:=h
  refine⟨b,p,xs,e1,(hm b e2).1,e5,j3.mono hm l _ e3,fun j hj=> ?_⟩
  rw [←e4 j hj];simp only [World.cell?,(hm b e2).2]
 | .fn f a b,y,h=>by
  simp only [Rep]at h⊢
  obtain⟨p,q,h1,h2,h3⟩:=h
  exact⟨p,q,h1,j3.mono hm a _ h2,j3.mono hm b _ h3⟩
 | .tup l,y,h=>by
  simp only [Rep]at h⊢
  obtain⟨a,h1,h2⟩:=h
  exact⟨a,h1,j3.mono hm l _ h2⟩
 | .mp l,y,h=>by
  simp only [Rep]at h⊢
  obtain⟨r,es,c,h1,h2,h3,h4⟩:=h
  exact⟨r,es,c,h1,(hm r h2).1,by rw [(hm r h2).2];exact h3,h4⟩
 | .own _ _,_,h=>by simp [Rep]at h
 | .ownx _ _,_,h=>by simp [Rep]at h
 | .row _ _,_,h=>by simp [Rep]at h
 | .elr _ _ _ _,_,h=>by simp [Rep]at h
 | .osl _ _ _ _ _,_,h=>by simp [Rep]at h
 | .und,_,h=>by simp [Rep]at h
 | .bad,_,h=>by simp [Rep]at h
theorem j3.mono {ok ok':Nat→Prop} {w w':World} (hm:∀b,ok b→ok' b∧w'.heap[b]?=w.heap[b]?):∀(l:List D) (r:List Value),j3 ok w l r→j3 ok' w' l r
 | [], [],_=>trivial
 |d::l,y::r,h=>by
  simp only [j3]at h⊢
  exact⟨Rep.mono hm d y h.1,j3.mono hm l r h.2⟩
 | [],_::_,h=>by simp [j3]at h
 |_::_, [],h=>by simp [j3]at h
end
section
variable {ok : Nat → Prop} {w : World}
theorem j3.length {l:List D} {r:List Value} (h:j3 ok w l r):l.length=r.length:=by
 induction l generalizing r with
 |nil=>cases r with
  |nil=>rfl
  |cons=>simp [j3]at h
 |cons d l ih=>cases r with
  |nil=>simp [j3]at h
  |cons y r=>simp only [j3]at h;simp [ih h.2]
theorem j3.get {l:List D} {r:List Value} (h:j3 ok w l r) {j:Nat} {d:D} (hd:l[j]?=some d):∃y,r[j]?=some y∧Rep ok w d y:=by
 induction l generalizing r j with
 |nil=>simp at hd
 |cons d' l ih=>cases r with
  |nil=>simp [j3]at h
  |cons y r=>
   simp only [j3]at h
   cases j with
   |zero=>simp at hd;subst hd;exact⟨y,by simp,h.1⟩
   |succ j=>simp at hd;obtain⟨y',h1,h2⟩:=ih h.2 hd;exact⟨y',by simpa using h1,h2⟩
theorem j3.app {l l':List D} {r r':List Value} (h:j3 ok w l r) (h':j3 ok w l' r'):j3 ok w (l++l') (r++r'):=by
 induction l generalizing r with
 |nil=>cases r with
  |nil=>exact h'
  |cons=>simp [j3]at h
 |cons d l ih=>cases r with
  |nil=>simp [j3]at h
  |cons y r=>simp only [j3]at h;exact⟨h.1,ih h.2⟩
theorem j3.drop {l:List D} {r:List Value} (h:j3 ok w l r) (n:Nat):j3 ok w (l.drop n) (r.drop n):=by
 induction n generalizing l r with
 |zero=>simpa using h
 |succ n ih=>cases l with
  |nil=>cases r with
   |nil=>simp [j3]
   |cons=>simp [j3]at h
  |cons d l=>cases r with
   |nil=>simp [j3]at h
   |cons y r=>simp only [j3]at h;simpa using ih h.2
theorem j3.take {l:List D} {r:List Value} (h:j3 ok w l r) (n:Nat):j3 ok w (l.take n) (r.take n):=by
 induction n generalizing l r with
 |zero=>simp [j3]
 |succ n ih=>cases l with
  |nil=>cases r with
   |nil=>simp [j3]
   |cons=>simp [j3]at h
  |cons d l=>cases r with
   |nil=>simp [j3]at h
   |cons y r=>simp only [j3]at h;simp only [List.take_succ_cons,j3];exact⟨h.1,ih h.2⟩
theorem C5 {l:List D} (h:D3 l=true) {d:D} (hd:d∈l):a4W d=true:=by
 induction l with
 |nil=>cases hd
 |cons x l ih=>
  simp only [D3]at h
  split at h
  · rename_i hx
    rcases List.mem_cons.1 hd with rfl|hd
    · exact hx
    · exact ih h hd
  · cases h
theorem U4 {l:List D} (h:∀d,d∈l→a4W d=true):D3 l=true:=by
 induction l with
 |nil=>rfl
 |cons x l ih=>
  simp only [D3,h x List.mem_cons_self]
  exact ih fun d hd=>h d (List.mem_cons_of_mem _ hd)
theorem Rep.one {d:D} {y:Value} (h:Rep ok w d y) (hd:a4W d=true):a5h y=true:=by
 cases d<;>simp [a4W]at hd<;>simp only [Rep]at h
 · obtain⟨rfl,h⟩:=h;exact h
 · obtain⟨a,c,rfl,_⟩:=h;rfl
 · obtain⟨b,p,xs,rfl,_⟩:=h;rfl
 · obtain⟨p,q,rfl,_⟩:=h;rfl
 · obtain⟨r,es,c,rfl,_⟩:=h;rfl
theorem j3.one {l:List D} {r:List Value} (h:j3 ok w l r) (hl:D3 l=true):∀y,y∈r→a5h y=true:=by
 induction l generalizing r with
 |nil=>cases r with
  |nil=>simp
  |cons=>simp [j3]at h
 |cons d l ih=>cases r with
  |nil=>simp [j3]at h
  |cons y r=>
   simp only [j3]at h
   intro u hu
   rcases List.mem_cons.1 hu with rfl|hu
   · exact h.1.one (C5 hl List.mem_cons_self)
   · exact ih h.2 (U4 fun d hd=>C5 hl (List.mem_cons_of_mem _ hd)) u hu
end
mutual
def i0 (ok:Nat→Prop) (w:World) (R:Bool→Nat→Prop):D→SV→Prop
 | .v x,s=>s= .v x∧a5h x=true
 | .agg l,s=>∃cs,a4B s=some cs∧d8 ok w R l cs∧D3 l=true
 | .lst z n l,s=>∃y,s= .v y∧Rep ok w (.lst z n l) y
 | .ptr l o,s=>∃y,s= .v y∧Rep ok w (.ptr l o) y
 | .own k o,s=>s= .own k o∧R false k
 | .ownx k o,s=>s= .ownx k o∧R false k
 | .row k _,s=>s= .row k∧R true k
 | .elr k z i o,s=>s= .ownx k (i*z+o)∧R true k
 | .osl k o _ n c,s=>s= .osl k o n c∧R false k
 | .tup l,s=>(∃cs,s= .tup cs∧d8 ok w R l cs)∨∃a,s= .v (.tuple a)∧d8 ok w R l (vs a.toList)
 | .fn f a b,s=>(∃a' b',s= .fn f a' b'∧d8 ok w R a a'∧d8 ok w R b b')∨∃p q,s= .v (.func (.func f) p q)∧d8 ok w R a (vs p.toList)∧d8 ok w R b (vs q.toList)
 | .mp l,s=>∃y,s= .v y∧Rep ok w (.mp l) y
 | .und,s=>s= .v undef
 | .bad,s=>s= .bad
def d8 (ok:Nat→Prop) (w:World) (R:Bool→Nat→Prop):List D→List SV→Prop
 | [], []=>True
 |d::l,y::r=>i0 ok w R d y∧d8 ok w R l r
 |_,_=>False
end
mutual
theorem i0.mono {ok ok':Nat→Prop} {w w':World} {R R':Bool→Nat→Prop} (hm:∀b,ok b→ok' b∧w'.heap[b]?=w.heap[b]?) (hR:∀q k,R q k→R' q k):∀(d:D) (s:SV),i0 ok w R d s→i0 ok' w' R' d s
 | .v x,y,h=>h
 | .agg l,y,h=>by
  simp only [i0]at h⊢
  obtain⟨a,h1,h2,h3⟩:=h
  exact⟨a,h1,d8.mono hm hR l _ h2,h3⟩
 | .lst z n l,y,h=>by
  simp only [i0]at h⊢
  obtain⟨a,h1,h2⟩:=h
  exact⟨a,h1,Rep.mono hm _ _ h2⟩
 | .ptr l o,y,h=>by
  simp only [i0]at h⊢
  obtain⟨a,h1,h2⟩:=h
  exact⟨a,h1,Rep.mono hm _ _ h2⟩
 | .mp l,y,h=>by
  simp only [i0]at h⊢
  obtain⟨a,h1,h2⟩:=h
  exact⟨a,h1,Rep.mono hm _ _ h2⟩
 | .own k o,y,h=>by simp only [i0]at h⊢;exact⟨h.1,hR _ k h.2⟩
 | .ownx k o,y,h=>by simp only [i0]at h⊢;exact⟨h.1,hR _ k h.2⟩
 | .row k z,y,h=>by simp only [i0]at h⊢;exact⟨h.1,hR _ k h.2⟩
 | .elr k z i o,y,h=>by simp only [i0]at h⊢;exact⟨h.1,hR _ k h.2⟩
 | .osl k o z n c,y,h=>by simp only [i0]at h⊢;exact⟨h.1,hR _ k h.2⟩
 | .tup l,y,h=>by
  simp only [i0]at h⊢
  rcases h with⟨cs,h1,h2⟩|⟨a,h1,h2⟩
  · exact .inl ⟨cs,h1,d8.mono hm hR l _ h2⟩
  · exact .inr ⟨a,h1,d8.mono hm hR l _ h2⟩
 | .fn f a b,y,h=>by
  simp only [i0]at h⊢
  rcases h with⟨p,q,h1,h2,h3⟩|⟨p,q,h1,h2,h3⟩
  · exact .inl ⟨p,q,h1,d8.mono hm hR a _ h2,d8.mono hm hR b _ h3⟩
  · exact .inr ⟨p,q,h1,d8.mono hm hR a _ h2,d8.mono hm hR b _ h3⟩
 | .und,_,h=>h
 | .bad,_,h=>h
theorem d8.mono {ok ok':Nat→Prop} {w w':World} {R R':Bool→Nat→Prop} (hm:∀b,ok b→ok' b∧w'.heap[b]?=w.heap[b]?) (hR:∀q k,R q k→R' q k):∀(l:List D) (r:List SV),d8 ok w R l r→d8 ok' w' R' l r
 | [], [],_=>trivial
 |d::l,y::r,h=>by
  simp only [d8]at h⊢
  exact⟨i0.mono hm hR d y h.1,d8.mono hm hR l r h.2⟩
 | [],_::_,h=>by simp [d8]at h
 |_::_, [],h=>by simp [d8]at h
end
section
variable {ok : Nat → Prop} {w : World} {R : Bool → Nat → Prop}
mutual
theorem Rep.rel {ok:Nat→Prop} {w:World} {R:Bool→Nat→Prop}:∀(d:D) (y:Value),Rep ok w d y→i0 ok w R d (.v y)
 | .v x,y,h=>by simp only [Rep]at h;simp only [i0];exact⟨by rw [h.1],h.2⟩
 | .agg l,y,h=>by
  simp only [Rep]at h;simp only [i0]
  obtain⟨a,rfl,h2,h3⟩:=h
  exact⟨_,rfl,j3.rel l _ h2,h3⟩
 | .lst z n l,y,h=>by simp only [i0];exact⟨y,rfl,h⟩
 | .ptr l o,y,h=>by simp only [i0];exact⟨y,rfl,h⟩
 | .mp l,y,h=>by simp only [i0];exact⟨y,rfl,h⟩
 | .fn f a b,y,h=>by
  simp only [Rep]at h;simp only [i0]
  obtain⟨p,q,rfl,h2,h3⟩:=h
  exact .inr ⟨p,q,rfl,j3.rel a _ h2,j3.rel b _ h3⟩
 | .tup l,y,h=>by
  simp only [Rep]at h;simp only [i0]
  obtain⟨a,rfl,h2⟩:=h
  exact .inr ⟨a,rfl,j3.rel l _ h2⟩
 | .own _ _,_,h=>by simp [Rep]at h
 | .ownx _ _,_,h=>by simp [Rep]at h
 | .row _ _,_,h=>by simp [Rep]at h
 | .elr _ _ _ _,_,h=>by simp [Rep]at h
 | .osl _ _ _ _ _,_,h=>by simp [Rep]at h
 | .und,_,h=>by simp [Rep]at h
 | .bad,_,h=>by simp [Rep]at h
theorem j3.rel {ok:Nat→Prop} {w:World} {R:Bool→Nat→Prop}:∀(l:List D) (r:List Value),j3 ok w l r→d8 ok w R l (vs r)
 | [], [],_=>trivial
 |d::l,y::r,h=>by
  simp only [j3]at h;simp only [vs,d8]
  exact⟨Rep.rel d y h.1,j3.rel l r h.2⟩
 | [],_::_,h=>by simp [j3]at h
 |_::_, [],h=>by simp [j3]at h
end
theorem i0.ne {d:D} {s:SV} (h:i0 ok w R d s) (hd:d≠ .bad):s≠ .bad:=by
 cases d<;>simp only [i0]at h
 · rw [h.1];simp
 · obtain⟨cs,h1,_⟩:=h;intro e;subst e;simp [a4B]at h1
 · obtain⟨y,rfl,_⟩:=h;simp
 · obtain⟨y,rfl,_⟩:=h;simp
 · rw [h.1];simp
 · rw [h.1];simp
 · rw [h.1];simp
 · rw [h.1];simp
 · rw [h.1];simp
 · rcases h with⟨cs,rfl,_⟩|⟨cs,rfl,_⟩<;>simp
 · rcases h with⟨p,q,rfl,_⟩|⟨p,q,rfl,_⟩<;>simp
 · obtain⟨y,rfl,_⟩:=h;simp
 · rw [h];simp
 · exact absurd rfl hd
theorem d8.length {l:List D} {r:List SV} (h:d8 ok w R l r):l.length=r.length:=by
 induction l generalizing r with
 |nil=>cases r with
  |nil=>rfl
  |cons=>simp [d8]at h
 |cons d l ih=>cases r with
  |nil=>simp [d8]at h
  |cons y r=>simp only [d8]at h;simp [ih h.2]
theorem d8.app {l l':List D} {r r':List SV} (h:d8 ok w R l r) (h':d8 ok w R l' r'):d8 ok w R (l++l') (r++r'):=by
 induction l generalizing r with
 |nil=>cases r with
  |nil=>exact h'
  |cons=>simp [d8]at h
 |cons d l ih=>cases r with
  |nil=>simp [d8]at h
  |cons y r=>simp only [d8]at h;exact⟨h.1,ih h.2⟩
theorem d8.dropD {l:List D} {r:List SV} (h:d8 ok w R l r) (n:Nat):d8 ok w R (dropD n l) (a2l n r):=by
 induction n generalizing l r with
 |zero=>simpa [Sx.dropD,a2l]using h
 |succ n ih=>cases l with
  |nil=>cases r with
   |nil=>simp [Sx.dropD,a2l,d8]
   |cons=>simp [d8]at h
  |cons d l=>cases r with
   |nil=>simp [d8]at h
   |cons y r=>simp only [d8]at h;simpa [Sx.dropD,a2l]using ih h.2
theorem d8.takeD {l:List D} {r:List SV} (h:d8 ok w R l r) {n:Nat} {x:List D} (hx:takeD n l=some x):∃y,a3l n r=some y∧d8 ok w R x y:=by
 induction n generalizing l r x with
 |zero=>simp [Sx.takeD]at hx;subst hx;exact⟨[],rfl,trivial⟩
 |succ n ih=>cases l with
  |nil=>simp [Sx.takeD]at hx
  |cons d l=>cases r with
   |nil=>simp [d8]at h
   |cons s r=>
    simp only [d8]at h
    have hd:d≠ .bad:=fun e=>by subst e;simp [Sx.takeD]at hx
    have hs:=h.1.ne hd
    have hx':(match Sx.takeD n l with|some r=>some (d::r)|none=>none)=some x:=by
     cases d<;>first|exact hx|exact absurd rfl hd
    split at hx'
    · rename_i q hq
      cases hx'
      obtain⟨y,h1,h2⟩:=ih h.2 hq
      refine⟨s::y, ?_,h.1,h2⟩
      have:a3l (n+1) (s::r)=(match a3l n r with|some q=>some (s::q)|none=>none):=by
       cases s<;>first|rfl|exact absurd rfl hs
      rw [this,h1]
    · cases hx'
theorem d8.over {l:List D} {r:List SV} (h:d8 ok w R l r) {o:Nat} {x y:List D} {x':List SV} (hx:d8 ok w R x x') (hy:over o x l=some y):∃y',Sx.over o x' r=some y'∧d8 ok w R y y':=by
 induction l generalizing r o x x' y with
 |nil=>cases r with
  |cons=>simp [d8]at h
  |nil=>cases o with
   |zero=>cases x with
    |nil=>cases x' with
     |nil=>simp [Sx.over]at hy;subst hy;exact⟨[],rfl,trivial⟩
     |cons=>simp [d8]at hx
    |cons=>simp [Sx.over]at hy
   |succ o=>simp [Sx.over]at hy
 |cons d l ih=>cases r with
  |nil=>simp [d8]at h
  |cons s r=>
   simp only [d8]at h
   cases o with
   |zero=>cases x with
    |nil=>cases x' with
     |nil=>simp [Sx.over]at hy;subst hy;exact⟨s::r,rfl,h⟩
     |cons=>simp [d8]at hx
    |cons a x=>cases x' with
     |nil=>simp [d8]at hx
     |cons a' x'=>
      simp only [d8]at hx
      simp only [Sx.over]at hy⊢
      split at hy
      · rename_i q hq
        cases hy
        obtain⟨y',h1,h2⟩:=ih h.2 hx.2 hq
        exact⟨a'::y',by rw [h1],hx.1,h2⟩
      · cases hy
   |succ o=>
    simp only [Sx.over]at hy⊢
    split at hy
    · rename_i q hq
      cases hy
      obtain⟨y',h1,h2⟩:=ih h.2 hx hq
      exact⟨s::y',by rw [h1],h.1,h2⟩
    · cases hy
theorem b8F {agg:Bool} {l:List D} {r:List SV} {x:D} (h:d8 ok w R l r) (hx:mkD agg l=some x):∃s,mkv agg r=some s∧i0 ok w R x s:=by
 unfold mkD at hx
 split at hx
 · split at hx
   · rename_i hf
     cases hx
     refine⟨.agg r,rfl, ?_⟩
     simp only [i0]
     exact⟨r,rfl,h,hf⟩
   · cases hx
 · split at hx
   · cases hx
     cases r with
     |nil=>simp [d8]at h
     |cons s r=>cases r with
      |nil=>simp only [d8]at h;exact⟨s,rfl,h.1⟩
      |cons=>simp [d8]at h
   · cases hx
 · cases hx
theorem a3d {K:a6r→Prop} {x:Option D} (h:a4p K x):∃s,x=some s∧K (.val s):=by
 cases x with
 |none=>exact h.elim
 |some s=>exact⟨s,rfl,h⟩
theorem i0.cells {d:D} {s:SV} {l:List D} (h:i0 ok w R d s) (hc:a9N d=some l):∃r,a1P s=some r∧d8 ok w R l r:=by
 have one:∀ {d:D} {s:SV},i0 ok w R d s→a1P s=some [s]→∃r,a1P s=some r∧d8 ok w R [d] r:=fun h hs=>⟨_,hs,h,trivial⟩
 cases d<;>simp only [a9N]at hc<;>first|cases hc|skip
 · refine one h ?_
   simp only [i0]at h
   obtain⟨rfl,h⟩:=h
   rename_i x
   cases x<;>first|rfl|simp [a5h]at h
 · simp only [i0]at h
   obtain⟨cs,h1,h2,_⟩:=h
   refine⟨cs, ?_,h2⟩
   cases s<;>simp [a4B]at h1
   · rename_i x;cases x<;>simp at h1
     subst h1;rfl
   · subst h1;rfl
 · refine one h ?_
   simp only [i0,Rep]at h
   obtain⟨y,rfl,a,c,rfl,_⟩:=h
   rfl
 · refine one h ?_
   simp only [i0,Rep]at h
   obtain⟨y,rfl,a,c,xs,rfl,_⟩:=h
   rfl
 · refine one h ?_;simp only [i0]at h;rw [h.1];rfl
 · refine one h ?_;simp only [i0]at h;rw [h.1];rfl
 · refine one h ?_;simp only [i0]at h;rw [h.1];rfl
 · refine one h ?_;simp only [i0]at h;rw [h.1];rfl
 · refine one h ?_;simp only [i0]at h;rw [h.1];rfl
 · refine one h ?_
   simp only [i0]at h
   rcases h with⟨p,q,rfl,_⟩|⟨p,q,rfl,_⟩<;>rfl
 · refine one h ?_
   simp only [i0,Rep]at h
   obtain⟨y,rfl,r,es,c,rfl,_⟩:=h
   rfl
theorem i0.one {Hp:Hp} (hR:∀k,R true k→∃v n xs sz ty,i6 Hp k=some (.row v n xs sz ty)) {d:D} {s:SV} (h:i0 ok w R d s) (hd:a4W d=true):b2T Hp s=true:=by
 cases d<;>simp [a4W]at hd<;>simp only [i0]at h
 · rw [h.1];exact h.2
 · obtain⟨y,rfl,h⟩:=h;exact h.one rfl
 · obtain⟨y,rfl,h⟩:=h;exact h.one rfl
 · rw [h.1];rfl
 · rw [h.1];rfl
 · obtain⟨v,n,xs,sz,ty,hf⟩:=hR _ h.2;rw [h.1];simp [b2T,hf]
 · rw [h.1];rfl
 · rw [h.1];rfl
 · rcases h with⟨p,q,rfl,_⟩|⟨p,q,rfl,_⟩<;>rfl
 · obtain⟨y,rfl,h⟩:=h;exact h.one rfl
theorem d8.one {Hp:Hp} (hR:∀k,R true k→∃v n xs sz ty,i6 Hp k=some (.row v n xs sz ty)) {l:List D} {r:List SV} (h:d8 ok w R l r) (hl:D3 l=true):a7S Hp r=true:=by
 induction l generalizing r with
 |nil=>cases r with
  |nil=>rfl
  |cons=>simp [d8]at h
 |cons d l ih=>cases r with
  |nil=>simp [d8]at h
  |cons y r=>
   simp only [d8]at h
   simp only [a7S,h.1.one hR (C5 hl List.mem_cons_self)]
   exact ih h.2 (U4 fun d hd=>C5 hl (List.mem_cons_of_mem _ hd))
theorem b2r {l:List Value} (h:∀x,x∈l→a5h x=true):d8 ok w R (vD l) (vs l):=by
 induction l with
 |nil=>trivial
 |cons x l ih=>
  refine⟨?_,ih fun y hy=>h y (List.mem_cons_of_mem _ hy)⟩
  simp only [i0];exact⟨trivial,h x List.mem_cons_self⟩
theorem b7n {l:List D} (h:Z7 l=true) {d:D} (hd:d∈l):b3c d=true:=by
 induction l with
 |nil=>cases hd
 |cons x l ih=>
  simp only [Z7]at h
  split at h
  · rename_i hx
    rcases List.mem_cons.1 hd with rfl|hd
    · exact hx
    · exact ih h hd
  · cases h
theorem d8.vals {l:List D} {r:List SV} (h:d8 ok w R l r) (hl:Z7 l=true):∃xs,r=vs xs∧j3 ok w l xs:=by
 induction l generalizing r with
 |nil=>cases r with
  |nil=>exact⟨[],rfl,trivial⟩
  |cons=>simp [d8]at h
 |cons d l ih=>cases r with
  |nil=>simp [d8]at h
  |cons s r=>
   simp only [d8]at h
   simp only [Z7]at hl
   split at hl
   · rename_i hd
     obtain⟨xs,rfl,hx⟩:=ih h.2 hl
     have:∃y,s= .v y∧Rep ok w d y:=by
      cases d<;>simp [b3c]at hd
      · have:=h.1;simp only [i0]at this;exact⟨_,this.1,by simp only [Rep];exact⟨trivial,this.2⟩⟩
      · have:=h.1;simp only [i0]at this;exact this
      · have:=h.1;simp only [i0]at this;exact this
     obtain⟨y,rfl,hy⟩:=this
     exact⟨y::xs,rfl,hy,hx⟩
   · cases hl
end
theorem b0R (k:Nat) (l:List Value):O8 k (vs l)=false:=by
 induction l with
 |nil=>rfl
 |cons x l ih=>simp only [vs,O8,ment];exact ih
mutual
theorem i0.ment {ok:Nat→Prop} {w:World} {R:Bool→Nat→Prop} {k:Nat} (hR:∀q,¬R q k):∀(d:D) (s:SV),i0 ok w R d s→Sx.ment k s=false
 | .v x,s,h=>by simp only [i0]at h;rw [h.1];rfl
 | .agg l,s,h=>by
  simp only [i0]at h
  obtain⟨cs,h1,h2,_⟩:=h
  have:=d8.ment hR l _ h2
  cases s<;>simp [a4B]at h1
  · rfl
  · subst h1;simpa [Sx.ment]using this
 | .lst z n l,s,h=>by simp only [i0]at h;obtain⟨y,rfl,_⟩:=h;rfl
 | .ptr l o,s,h=>by simp only [i0]at h;obtain⟨y,rfl,_⟩:=h;rfl
 | .own j o,s,h=>by
  simp only [i0]at h;rw [h.1];simp only [Sx.ment]
  cases hb:Nat.beq j k with
  |false=>rfl
  |true=>have:=B9 hb;subst this;exact absurd h.2 (hR _)
 | .ownx j o,s,h=>by
  simp only [i0]at h;rw [h.1];simp only [Sx.ment]
  cases hb:Nat.beq j k with
  |false=>rfl
  |true=>have:=B9 hb;subst this;exact absurd h.2 (hR _)
 | .row j z,s,h=>by
  simp only [i0]at h;rw [h.1];simp only [Sx.ment]
  cases hb:Nat.beq j k with
  |false=>rfl
  |true=>have:=B9 hb;subst this;exact absurd h.2 (hR _)
 | .elr j z i o,s,h=>by
  simp only [i0]at h;rw [h.1];simp only [Sx.ment]
  cases hb:Nat.beq j k with
  |false=>rfl
  |true=>have:=B9 hb;subst this;exact absurd h.2 (hR _)
 | .osl j o z n c,s,h=>by
  simp only [i0]at h;rw [h.1];simp only [Sx.ment]
  cases hb:Nat.beq j k with
  |false=>rfl
  |true=>have:=B9 hb;subst this;exact absurd h.2 (hR _)
 | .tup l,s,h=>by
  simp only [i0]at h
  rcases h with⟨cs,rfl,h2⟩|⟨a,rfl,_⟩
  · simpa [Sx.ment]using d8.ment hR l _ h2
  · rfl
 | .fn f a b,s,h=>by
  simp only [i0]at h
  rcases h with⟨p,q,rfl,h2,h3⟩|⟨p,q,rfl,_⟩
  · simp only [Sx.ment,d8.ment hR a _ h2,d8.ment hR b _ h3]
  · rfl
 | .mp l,s,h=>by simp only [i0]at h;obtain⟨y,rfl,_⟩:=h;rfl
 | .und,s,h=>by simp only [i0]at h;rw [h];rfl
 | .bad,s,h=>by simp only [i0]at h;rw [h];rfl
theorem d8.ment {ok:Nat→Prop} {w:World} {R:Bool→Nat→Prop} {k:Nat} (hR:∀q,¬R q k):∀(l:List D) (r:List SV),d8 ok w R l r→O8 k r=false
 | [], [],_=>rfl
 |d::l,y::r,h=>by
  simp only [d8]at h;simp only [O8,i0.ment hR d y h.1]
  exact d8.ment hR l r h.2
 | [],_::_,h=>by simp [d8]at h
 |_::_, [],h=>by simp [d8]at h
end
end Go.Sx
namespace Go.Sx
open Go Go.RowKit
def okS (A:Nat→Prop) (st:St) (b:Nat):Prop:=((b<st.lo∨∃p,p∈st.iv∧p.1≤b∧b<p.2)∧A b)∧b<st.w.heap.size∧b8D st.H b
def D7 (st:St) (q:Bool) (k:Nat):Prop:=k<st.nk∧(q=true→∃v n xs sz ty,i6 st.H k=some (.row v n xs sz ty))
def a3z (ok:Nat→Prop) (w:World) (R:Bool→Nat→Prop):E→Ent→Prop
 | .blk cs ty, .blk _ cs' ty'=>ty=ty'∧d8 ok w R cs cs'
 | .row z n l ty, .row _ n' xs z' ty'=>n=n'∧z=z'∧ty=ty'∧j3 ok w l xs∧D3 l=true∧l.length=n*z
 |_,_=>False
structure Sim (A:Nat→Prop) (st:St) (sy:Sy):Prop where
 T:∀d x,w8 sy.T d=some x→x= .bad∨∃s,C6 st.T d=some s∧i0 (okS A st) st.w (D7 st) x s
 H:∀k e,o4 sy.H k=some e→∃e',i6 st.H k=some e'∧a3z (okS A st) st.w (D7 st) e e'
 nk:sy.nk=st.nk
 fT:∀j,st.nk≤j→B0 j st.T=true
 fH:∀j,st.nk≤j→I2 j st.H=true
def a7T (H:Hp) (ok:Nat→Prop) (w:World) (R:Bool→Nat→Prop):a6r→Out→Prop
 | .val x, .val s=>i0 ok w R x s∧x≠ .bad
 | .new cs ty sl, .new cs' ty' sl'=>ty=ty'∧d8 ok w R cs cs'∧sl'=sl.map (·.2)
 | .newR l ty z n, .new cs' ty' sl'=>ty=ty'∧sl'=some n∧l.length=n*z∧n≤maxLen∧D3 l=true∧∃xs,cs'=vs xs∧j3 ok w l xs
 | .call f args, .call f' args'=>f=f'∧d8 ok w R args args'
 | .upd k cs, .upd k' cs'=>k=k'∧d8 ok w R cs cs'
 | .updR k l, .updR k' xs=>k=k'∧j3 ok w l xs∧D3 l=true∧∀v n ys z ty,i6 H k=some (.row v n ys z ty)→l.length=n*z
 | .app e z b s x, .app e' z' b' s' x'=>e=e'∧z=z'∧b=b'∧i0 ok w R s s'∧i0 ok w R x x'
 |_,_=>False
def cx (X:Cy) (w0:World) (bor:List Nat):Cx:=⟨X.P,X.tt,w0,bor,X.nt,X.pl,X.dfs,X.sv⟩
theorem b5p (n:Nat) (l:List D):dropD n l=l.drop n:=by
 induction n generalizing l with
 |zero=>rfl
 |succ n ih=>cases l with
  |nil=>rfl
  |cons x l=>simp [dropD,ih]
theorem b1U {n:Nat} {l r:List D} (h:takeD n l=some r):r.length=n∧r=l.take n∧ .bad∉r:=by
 induction n generalizing l r with
 |zero=>simp [takeD]at h;subst h;simp
 |succ n ih=>cases l with
  |nil=>simp [takeD]at h
  |cons d l=>
   have hd:d≠ .bad:=fun e=>by subst e;simp [takeD]at h
   have h':(match takeD n l with|some r=>some (d::r)|none=>none)=some r:=by
    cases d<;>first|exact h|exact absurd rfl hd
   split at h'
   · rename_i q hq
     cases h'
     obtain⟨h1,h2,h3⟩:=ih hq
     exact⟨by simp [h1],by rw [List.take_succ_cons,←h2],by simp only [List.mem_cons,not_or];exact⟨fun e=>hd e.symm,h3⟩⟩
   · cases h'
theorem j3.part {ok:Nat→Prop} {w:World} {l r:List D} {xs:List Value} (h:j3 ok w l xs) {n o:Nat} (hr:takeD n (dropD o l)=some r):j3 ok w r ((xs.drop o).take n)∧r.length=n∧(n=0∨o+n≤l.length):=by
 obtain⟨h1,h2,_⟩:=b1U hr
 rw [b5p]at h2
 refine⟨by rw [h2];exact(h.drop o).take n,h1, ?_⟩
 have:=congrArg List.length h2
 simp at this;omega
theorem b3V {ok:Nat→Prop} {w:World} {R:Bool→Nat→Prop} {agg:Bool} {r:List D} {xs:List Value} {x:D} (h:j3 ok w r xs) (hx:mkD agg r=some x):∃s,a6m agg xs=some s∧i0 ok w R x s:=by
 unfold mkD at hx
 split at hx
 · split at hx
   · rename_i hf
     cases hx
     refine⟨.agg (vs xs),rfl, ?_⟩
     simp only [i0]
     exact⟨vs xs,rfl,j3.rel _ _ h,hf⟩
   · cases hx
 · split at hx
   · cases hx
     cases xs with
     |nil=>simp [j3]at h
     |cons y xs=>cases xs with
      |nil=>simp only [j3]at h;exact⟨.v y,rfl,Rep.rel _ _ h.1⟩
      |cons=>simp [j3]at h
   · cases hx
 · cases hx
theorem b6B {agg:Bool} {r:List D} {x:D} (hx:mkD agg r=some x):x≠ .bad:=by
 unfold mkD at hx
 split at hx
 · split at hx<;>cases hx;simp
 · split at hx
   · rename_i ho;cases hx;intro e;subst e;simp [a4W]at ho
   · cases hx
 · cases hx
theorem a7k {l r:List D} (h:D3 l=true) (hs:∀d,d∈r→d∈l):D3 r=true:=U4 fun d hd=>C5 h (hs d hd)
theorem b7z {l:List D} {z n i:Nat} (hl:l.length=n*z) (hi:i<n):(el l z i).length=z:=by
 have:(i+1)*z≤n*z:=Nat.mul_le_mul_right z hi
 rw [Nat.add_mul]at this
 simp [el,hl];omega
theorem b6D {l:List D} {z i:Nat} {d:D} (h:d∈el l z i):d∈l:=List.mem_of_mem_drop (List.mem_of_mem_take h)
theorem c3h {α:Type} {o:Nat} {xs l:List α} (h:o+xs.length≤l.length):over o xs l=some (l.take o++xs++l.drop (o+xs.length)):=by
 induction l generalizing o xs with
 |nil=>
  simp at h
  obtain⟨rfl,rfl⟩:=h
  rfl
 |cons x l ih=>cases o with
  |zero=>cases xs with
   |nil=>simp [over]
   |cons y xs=>simp only [over];rw [ih (by simp at h⊢;omega)];simp
  |succ o=>simp only [over];rw [ih (by simp at h⊢;omega)];simp [Nat.add_right_comm]
theorem b0a {α:Type} {o:Nat} {xs l r:List α} (h:over o xs l=some r):r.length=l.length:=by
 obtain⟨h1,h2⟩:=a7j h
 rw [h1];simp;omega
theorem b6I {op:BinOp} {k:IntKind} {a b:Int} {K K':Out→Prop} (hK:∀o,K o→K' o) (h:b2C op k a b K):b2C op k a b K':=by
 cases op<;>simp only [b2C]at h⊢<;>first|exact hK _ h|exact⟨h.1,hK _ h.2⟩|exact h
theorem b6R {op:BinOp} {a b:ByteArray} {K K':Out→Prop} (hK:∀o,K o→K' o) (h:b2h op a b K):b2h op a b K':=by
 cases op<;>simp only [b2h]at h⊢<;>first|exact hK _ h|exact⟨h.1,hK _ h.2⟩|exact h
theorem b3d {op:BinOp} {k:IntKind} {a b:Int} {K K':Out→Prop} (hK:∀o,K o→K' o) (h:b7c op k a b K):b7c op k a b K':=by
 cases op<;>simp only [b7c]at h⊢<;>exact⟨h.1,hK _ h.2⟩
theorem a6G {op:BinOp} {e:Bool} {K K':Out→Prop} (hK:∀o,K o→K' o) (h:a4b op e K):a4b op e K':=by
 cases op<;>simp only [a4b]at h⊢<;>first|exact hK _ h|exact h
section
variable {A : Nat → Prop} {X : Cy} {w0 : World} {bor : List Nat} {st : St} {sy : Sy} {KY : a6r → Prop} {K : Out → Prop}
theorem n8 (hs:Sim A st sy) {x:Operand} {d:D} (h:evY sy x=some d):∃s,ev st x=some s∧i0 (okS A st) st.w (D7 st) d s∧d≠ .bad:=by
 cases x with
 |tmp t=>
  simp only [evY]at h
  split at h
  · cases h
  · rename_i hb
    have hne:d≠ .bad:=fun e=>hb (by rw [h,e])
    obtain⟨hlt,h⟩:=a3q h
    rcases hs.T t d h with e|⟨s,h1,h2⟩
    · exact absurd e hne
    · refine⟨s, ?_,h2,hne⟩
      have hsb:=h2.ne hne
      simp only [ev,a6x hlt,h1]
      try (cases s<;>first|rfl|exact absurd rfl hsb)
 |const v=>
  simp only [evY]at h
  refine⟨.v v,rfl, ?_⟩
  unfold ofV at h
  split at h
  · rename_i a
    split at h
    · rename_i ha
      cases h
      refine⟨?_,by simp⟩
      simp only [i0]
      refine⟨vs a.toList,rfl, ?_,U4 fun d hd=>by simp at hd;obtain⟨x,_,rfl⟩:=hd;rfl⟩
      have:∀l:List Value,l.all a5h=true→d8 (okS A st) st.w (D7 st) (l.map D.v) (vs l):=by
       intro l
       induction l with
       |nil=>intro _;trivial
       |cons x l ih=>intro hl;simp at hl;exact⟨by simp only [i0];exact⟨trivial,hl.1⟩,ih (by simpa using hl.2)⟩
      exact this _ ha
    · cases h
  · cases h
  · rename_i h1 h2
    cases h
    refine⟨?_,by simp⟩
    simp only [i0]
    refine⟨trivial, ?_⟩
    unfold a5h
    split
    · exact absurd rfl (h1 _)
    · exact absurd rfl (h2 _)
    · rfl
 |func f=>simp only [evY]at h;cases h;exact⟨_,rfl,by simp only [i0];exact .inl ⟨[], [],rfl,trivial,trivial⟩,by simp⟩
 |global g=>simp [evY]at h
theorem Z8 (hs:Sim A st sy) {l:List Operand} {r:List D} (h:a8m sy l=some r):∃s,evs st l=some s∧d8 (okS A st) st.w (D7 st) r s:=by
 induction l generalizing r with
 |nil=>simp only [a8m]at h;cases h;exact⟨[],rfl,trivial⟩
 |cons x l ih=>
  simp only [a8m]at h
  split at h
  · rename_i d r' hd hr
    cases h
    obtain⟨s,h1,h2,_⟩:=n8 hs hd
    obtain⟨s',h3,h4⟩:=ih hr
    exact⟨s::s',by simp only [evs,h1,h3],h2,h4⟩
  · cases h
theorem b3B (st:St):∀k,D7 st true k→∃v n xs sz ty,i6 st.H k=some (.row v n xs sz ty):=fun _ h=>h.2 rfl
variable (hK : ∀ oy o, a7T st.H (okS A st) st.w (D7 st) oy o → KY oy → K o)
include hK
theorem P1 {x:D} {s:SV} (h:KY (.val x)) (hr:i0 (okS A st) st.w (D7 st) x s) (hne:x≠ .bad):K (.val s):=hK (.val x) (.val s) ⟨hr,hne⟩ h
theorem a2V {o:Out} (h:b0i KY o):K o:=by
 unfold b0i at h
 split at h
 · rename_i x
   split at h
   · rename_i hx
     refine hK (.val (.v x)) _ ⟨?_,by simp⟩ h
     simp only [i0];exact⟨trivial,hx⟩
   · exact h.elim
 · exact h.elim
theorem b4l (hs:Sim A st sy) {x:Operand} (h:a4p KY (evY sy x)):a7y K (ev st x):=by
 obtain⟨d,h1,h2⟩:=a3d h
 obtain⟨s,h3,h4,h5⟩:=n8 hs h1
 rw [h3];exact P1 hK h2 h4 h5
theorem b4x {agg:Bool} {l:List D} {r:List SV} (h:a4p KY (mkD agg l)) (hr:d8 (okS A st) st.w (D7 st) l r):a7y K (mkv agg r):=by
 obtain⟨d,h1,h2⟩:=a3d h
 obtain⟨s,h3,h4⟩:=b8F hr h1
 rw [h3];exact P1 hK h2 h4 (b6B h1)
theorem b9a (hs:Sim A st sy) {i:TI} {p:D} {s:SV} (h:c1E sy i p KY) (hr:i0 (okS A st) st.w (D7 st) p s):a6y (cx X w0 bor) st i s K:=by
 unfold c1E at h
 split at h
 · rename_i k o
   simp only [i0]at hr
   obtain⟨rfl,_⟩:=hr
   split at h
   · rename_i cs ty hf
     obtain⟨e',hf',he⟩:=hs.H _ _ hf
     cases e' with
     |row=>exact he.elim
     |blk b cs' ty'=>
      split at h
      · rename_i l hl
        obtain⟨r,h1,h2⟩:=(he.2.dropD o).takeD hl
        simp only [a6y,hf',h1]
        exact b4x hK h h2
      · exact h.elim
   · exact h.elim
 · rename_i k o
   simp only [i0]at hr
   obtain⟨rfl,_⟩:=hr
   split at h
   · rename_i cs ty hf
     obtain⟨e',hf',he⟩:=hs.H _ _ hf
     cases e' with
     |row=>exact he.elim
     |blk b cs' ty'=>
      obtain⟨l,hl,h⟩:=h
      obtain⟨r,h1,h2⟩:=(he.2.dropD o).takeD hl
      simp only [a6y,hf']
      exact⟨r,h1,b4x hK h h2⟩
   · exact h.elim
 · rename_i k z j o
   simp only [i0]at hr
   obtain⟨rfl,_⟩:=hr
   split at h
   · rename_i z' n l ty hf
     obtain⟨e',hf',he⟩:=hs.H _ _ hf
     cases e' with
     |blk=>exact he.elim
     |row v n' xs sz ty'=>
      obtain⟨rfl,rfl,rfl,hrep,hfl,hlen⟩:=he
      split at h
      · rename_i hz
        obtain rfl:=B9 hz
        obtain⟨cs,⟨rfl,hj⟩,h⟩:=h
        split at h
        · rename_i r hr hbl
          have hbl:=Nat.le_of_ble_eq_true hbl
          have hel:j3 (okS A st) st.w (el l z' j) ((xs.drop (j*z')).take z'):=(hrep.drop _).take _
          obtain⟨h1,h2,h3⟩:=hel.part hr
          obtain⟨x,hx,hkx⟩:=a3d h
          obtain⟨s,h4,h5⟩:=b3V (R:=D7 st) h1 hx
          simp only [a6y,hf']
          have hle:=b7z hlen hj
          have hjz:(j+1)*z'≤n*z':=Nat.mul_le_mul_right z' hj
          rw [Nat.add_mul]at hjz
          refine⟨_,⟨by rw [←h1.length,h2],by omega,fun jj hjj=> ?_⟩,by rw [h4];exact P1 hK hkx h5 (b6B hx)⟩
          rw [List.getElem?_take,if_pos hjj,List.getElem?_drop,List.getElem?_take,if_pos (by omega),List.getElem?_drop]
          congr 1;omega
        · exact h.elim
      · exact h.elim
   · exact h.elim
 · rename_i l o
   simp only [i0,Rep]at hr
   obtain⟨y,rfl,b,p,xs,rfl,hok,hfl,hrep,hmem⟩:=hr
   split at h
   · rename_i r hr
     obtain⟨h1,h2,h3⟩:=hrep.part hr
     obtain⟨x,hx,hkx⟩:=a3d h
     obtain⟨s,h4,h5⟩:=b3V (R:=D7 st) h1 hx
     simp only [a6y]
     refine⟨_,⟨by rw [←h1.length,h2], .inr ⟨hok.2.2,fun jj hjj=> ?_⟩⟩,by rw [h4];exact P1 hK hkx h5 (b6B hx)⟩
     rw [show p+o+jj=p+(o+jj) from by omega,hmem (o+jj) (by omega),List.getElem?_take,if_pos hjj,List.getElem?_drop]
   · exact h.elim
 · exact h.elim
theorem b7m (hs:Sim A st sy) {i:TI} {p d:D} {s t:SV} (h:b6N sy i p d KY) (hr:i0 (okS A st) st.w (D7 st) p s) (hd:i0 (okS A st) st.w (D7 st) d t):a9r st i s t K:=by
 unfold b6N at h
 split at h
 · rename_i l hl
   obtain⟨r,hc,hrl⟩:=hd.cells hl
   split at h
   · rename_i hn hfl
     simp only [a9r,hc,←hrl.length,hn,hrl.one (b3B st) hfl]
     split at h
     · rename_i k o
       simp only [i0]at hr
       obtain⟨rfl,_⟩:=hr
       split at h
       · rename_i cs ty hf
         obtain⟨e',hf',he⟩:=hs.H _ _ hf
         cases e' with
         |row=>exact he.elim
         |blk b cs' ty'=>
          split at h
          · rename_i q hq
            obtain⟨q',h1,h2⟩:=he.2.over hrl hq
            simp only [hf',h1]
            exact hK (.upd k q) _ ⟨rfl,h2⟩ h
          · exact h.elim
       · exact h.elim
     · rename_i k o
       simp only [i0]at hr
       obtain⟨rfl,_⟩:=hr
       split at h
       · rename_i cs ty hf
         obtain⟨e',hf',he⟩:=hs.H _ _ hf
         cases e' with
         |row=>exact he.elim
         |blk b cs' ty'=>
          obtain⟨q,hq,h⟩:=h
          obtain⟨q',h1,h2⟩:=he.2.over hrl hq
          simp only [hf']
          exact⟨q',h1,hK (.upd k q) _ ⟨rfl,h2⟩ h⟩
       · exact h.elim
     · rename_i k z j o
       simp only [i0]at hr
       obtain⟨rfl,_⟩:=hr
       split at h
       · rename_i z' n q ty hf
         obtain⟨e',hf',he⟩:=hs.H _ _ hf
         cases e' with
         |blk=>exact he.elim
         |row v n' xs sz ty'=>
          obtain⟨rfl,rfl,rfl,hrep,hfq,hlen⟩:=he
          split at h
          · rename_i hz hno
            obtain rfl:=B9 hz
            obtain⟨cs,⟨rfl,hj⟩,h⟩:=h
            split at h
            · rename_i cs' ho
              obtain⟨r',rfl,h⟩:=h
              obtain⟨vals,rfl,hv⟩:=hrl.vals hno
              obtain⟨hcs,hle⟩:=a7j ho
              have hel:=b7z hlen hj
              have hjz:(j+1)*z'≤n*z':=Nat.mul_le_mul_right z' hj
              rw [Nat.add_mul]at hjz
              have hvl:=hv.length
              have hxl:=hrep.length
              have hov:over (j*z'+o) vals xs=some (xs.take (j*z'+o)++vals++xs.drop (j*z'+o+vals.length)):=c3h (by omega)
              simp only [hf']
              refine⟨_,by rw [O3];exact hov,hK (.updR k _) _ ⟨rfl, ?_, ?_,fun v n ys z ty hq=> ?_⟩ h⟩
              · have e1:a9t q z' j cs'=q.take (j*z'+o)++l++q.drop (j*z'+o+l.length):=by
                 rw [hcs]
                 simp only [a9t,el]
                 have a1:q.take (j*z'+o)=q.take (j*z')++((q.drop (j*z')).take z').take o:=by
                  rw [List.take_add,List.take_take,Nat.min_eq_left (by omega)]
                 have a2:q.drop (j*z'+o+l.length)=((q.drop (j*z')).take z').drop (o+l.length)++q.drop (j*z'+z'):=by
                  rw [List.drop_take,List.drop_drop]
                  have:q.drop (j*z'+z')=(q.drop (j*z'+(o+l.length))).drop (z'-(o+l.length)):=by rw [List.drop_drop];congr 1;omega
                  rw [this,List.take_append_drop];congr 1;omega
                 rw [a1,a2];simp [List.append_assoc]
                rw [e1,←hvl]
                exact(((hrep.take _).app hv).app (hrep.drop _))
              · refine U4 fun d hd=> ?_
                simp only [a9t,hcs,List.mem_append]at hd
                rcases hd with(hd|(hd|hd)|hd)|hd
                · exact C5 hfq (List.mem_of_mem_take hd)
                · exact C5 hfq (b6D (List.mem_of_mem_take hd))
                · exact C5 hfl hd
                · exact C5 hfq (b6D (List.mem_of_mem_drop hd))
                · exact C5 hfq (List.mem_of_mem_drop hd)
              · rw [hf']at hq;cases hq
                have hcl:=b0a ho
                simp only [a9t,List.length_append,List.length_take,List.length_drop,hcl,hel,hlen]
                omega
            · exact h.elim
          · exact h.elim
       · exact h.elim
     · exact h.elim
   · exact h.elim
 · exact h.elim
end
end Go.Sx
namespace Go.Sx
open Go Go.RowKit
theorem b3j {i:Int} {f:Nat}:∀(l:List (Int×Nat)) (es:List MapEntry) (k:Nat),es.map (fun e=>(e.key,e.val))=l.map (fun p=>(Value.int .i64 p.1,Value.func (.func p.2) #[] #[]))→a6D l i=some f→
 ∃j,Instr.findNow (.int .i64) (.int .i64 i) es k=some (some (j, .func (.func f) #[] #[]))
 | [],_,_,_,h=>by simp [a6D]at h
 |(a,g)::l, [],_,he,_=>by simp at he
 |(a,g)::l,e::es,k,he,h=>by
  simp only [List.map_cons,List.cons.injEq,Prod.mk.injEq]at he
  obtain⟨⟨h1,h2⟩,h3⟩:=he
  have hs:Instr.sameNow (.int .i64) (.int .i64 i) e.key=some (i==a):=by rw [h1];simp [Instr.sameNow]
  simp only [a6D]at h
  simp only [Instr.findNow,hs]
  cases hb:(i==a)with
  |true=>rw [hb]at h;cases h;exact⟨k,by rw [h2]⟩
  |false=>rw [hb]at h;exact b3j l es (k+1) h3 h
section
variable {A : Nat → Prop} {ok : Nat → Prop} {w : World} {R : Bool → Nat → Prop}
theorem i0.int {k:IntKind} {a:Int} {s:SV} (h:i0 ok w R (.v (.int k a)) s):s= .v (.int k a):=by simp only [i0]at h;exact h.1
theorem i0.sc {x:Value} {s:SV} (h:i0 ok w R (.v x) s):s= .v x:=by simp only [i0]at h;exact h.1
theorem b8a {k:CK} {x y:D} {s t:SV} {e:Bool} (h:b9Y k x y=some e) (h1:i0 ok w R x s) (h2:i0 ok w R y t):eqC k s t=some e:=by
 unfold b9Y at h
 split at h
 · rw [h1.sc,h2.sc];exact h
 · rw [h1.sc,h2.sc];exact h
 · rw [h1.sc,h2.sc];exact h
 · cases h
theorem c1t {ks : List CK} {l m : List D} {s t : List SV} {e : Bool} (h : a6l ks l m = some e) (h1 : d8 ok w R l s) (h2 : d8 ok w R m t) : a5F ks s t = some e := by
  induction ks generalizing l m s t e with
  | nil => cases l <;> cases m <;> simp [a6l] at h
           cases s <;> cases t <;> simp [d8] at h1 h2
           simpa [a5F] using h
  | cons k ks ih =>
    cases l with
    | nil => cases m <;> simp [a6l] at h
    | cons x l => cases m with
      | nil => simp [a6l] at h
      | cons y m => cases s with
        | nil => simp [d8] at h1
        | cons s ss => cases t with
          | nil => simp [d8] at h2
          | cons t tt =>
            simp only [d8] at h1 h2
            have gen : ∀ {e}, (match b9Y k x y, a6l ks l m with | some a, some b => some (a && b) | _, _ => none) = some e → (match eqC k s t, a5F ks ss tt with | some a, some b => some (a && b) | _, _ => none) = some e := by
              intro e h
              split at h
              · rename_i a b ha hb
                cases h
                rw [b8a ha h1.1 h2.1, ih hb h1.2 h2.2]
              · cases h
            cases ks with
            | nil => cases l with
              | nil => cases m with
                | nil => cases ss <;> cases tt <;> simp [d8] at h1 h2
                         simp only [a6l] at h
                         simp only [a5F]
                         exact b8a h h1 h2
                | cons => simp [a6l] at h
              | cons => cases m <;> simp [a6l] at h
            | cons k' ks' =>
              have e1 : a6l (k :: k' :: ks') (x :: l) (y :: m) = (match b9Y k x y, a6l (k' :: ks') l m with | some a, some b => some (a && b) | _, _ => none) := by
                cases l <;> cases m <;> rfl
              have e2 : a5F (k :: k' :: ks') (s :: ss) (t :: tt) = (match eqC k s t, a5F (k' :: ks') ss tt with | some a, some b => some (a && b) | _, _ => none) := by
                cases ss <;> cases tt <;> rfl
              rw [e1] at h
              rw [e2]
              exact gen h
theorem b1G {b:Bool} {x:D} {s:SV} {l:List D} (h:b0M b x=some l) (h1:i0 ok w R x s):(∃r,a5z b s=some r∧d8 ok w R l r)∧((b=true∧∃cs,a4B s=some cs)∨(∃c,s= .v (.bool c))):=by
 unfold b0M at h
 split at h
 · cases h
   simp only [i0]at h1
   obtain⟨cs,h2,h3,_⟩:=h1
   refine⟨⟨cs, ?_,h3⟩, .inl ⟨rfl,cs,h2⟩⟩
   cases s<;>simp [a4B]at h2
   · rename_i y;cases y<;>simp at h2;subst h2;rfl
   · subst h2;rfl
 · cases h
   have:=h1.sc
   subst this
   exact⟨⟨_,rfl,h1,trivial⟩, .inr ⟨_,rfl⟩⟩
 · cases h
theorem b5G {x:D} {s:SV} {l:List D} (h:c3q x=some l) (h1:i0 ok w R x s):∃r,a4B s=some r∧d8 ok w R l r:=by
 unfold c3q at h
 split at h
 · cases h;simp only [i0]at h1;obtain⟨cs,h2,h3,_⟩:=h1;exact⟨cs,h2,h3⟩
 · cases h
theorem b2H {x y:D} {s:SV} {off:Nat} (h:b0W x off=some y) (h1:i0 ok w R x s):∃t,a9I s off=some t∧i0 ok w R y t∧y≠ .bad:=by
 unfold b0W at h
 split at h
 · cases h;simp only [i0]at h1;obtain⟨rfl,h1⟩:=h1;exact⟨_,rfl,by simp only [i0];exact⟨trivial,h1⟩,by simp⟩
 · cases h;simp only [i0]at h1;obtain⟨rfl,h1⟩:=h1;exact⟨_,rfl,by simp only [i0];exact⟨trivial,h1⟩,by simp⟩
 · cases h;simp only [i0]at h1;obtain⟨rfl,h1⟩:=h1;exact⟨_,rfl,by simp only [i0];exact⟨by rw [Nat.add_assoc],h1⟩,by simp⟩
 · cases h;simp only [i0,Rep]at h1
   obtain⟨y,rfl,b,p,xs,rfl,h2,h3,h4,h5⟩:=h1
   refine⟨_,rfl, ?_,by simp⟩
   simp only [i0,Rep]
   exact⟨_,rfl,b,p,xs,by rw [Nat.add_assoc],h2,h3,h4,h5⟩
 · cases h
theorem b5U {x y:D} {s:SV} {off:Nat} (h:b1F x off=some y) (h1:i0 ok w R x s):∃t,b0T s off=some t∧i0 ok w R y t∧y≠ .bad:=by
 unfold b1F at h
 split at h
 · cases h;simp only [i0]at h1;obtain⟨rfl,h1⟩:=h1;exact⟨_,rfl,by simp only [i0];exact⟨trivial,h1⟩,by simp⟩
 · cases h;simp only [i0]at h1;obtain⟨rfl,h1⟩:=h1;exact⟨_,rfl,by simp only [i0];exact⟨trivial,h1⟩,by simp⟩
 · cases h
theorem d8.one1 {d:D} {s:List SV} (h:d8 ok w R [d] s):∃s1,s= [s1]∧i0 ok w R d s1:=by
 match s,h with
 | [s1],h=>exact⟨s1,rfl,h.1⟩
theorem d8.three {a b c:D} {s:List SV} (h:d8 ok w R [a,b,c] s):∃s1 s2 s3,s= [s1,s2,s3]∧i0 ok w R a s1∧i0 ok w R b s2∧i0 ok w R c s3:=by
 match s,h with
 | [s1,s2,s3],h=>exact⟨s1,s2,s3,rfl,h.1,h.2.1,h.2.2.1⟩
theorem d8.two {d e:D} {s:List SV} (h:d8 ok w R [d,e] s):∃s1 s2,s= [s1,s2]∧i0 ok w R d s1∧i0 ok w R e s2:=by
 match s,h with
 | [s1,s2],h=>exact⟨s1,s2,rfl,h.1,h.2.1⟩
theorem c3R {l:List D} {z n b o:Nat} {i:Int} {xs:List Value} (hlen:l.length=n*z) (hfl:D3 l=true) (hok:ok b) (hrep:j3 ok w l xs) (hcell:∀j,j<n*z→w.cell? ⟨b,o+j,none⟩=xs[j]?) (h0:0≤i) (hlt:i<n):
 Rep ok w (.ptr (el l z i.toNat) 0) (.pointer (some ⟨b,o+i.toNat*z,none⟩)):=by
 have hj:i.toNat<n:=by omega
 have hel:=b7z hlen hj
 have hjz:(i.toNat+1)*z≤n*z:=Nat.mul_le_mul_right z hj
 rw [Nat.add_mul]at hjz
 simp only [Rep]
 refine⟨b,o+i.toNat*z,(xs.drop (i.toNat*z)).take z,rfl,hok,a7k hfl fun d hd=>b6D hd,(hrep.drop _).take _,fun j hj=> ?_⟩
 rw [hel]at hj
 rw [show o+i.toNat*z+j=o+(i.toNat*z+j) from by omega,hcell _ (by omega),List.getElem?_take,if_pos hj,List.getElem?_drop]
theorem c3m {l:List D} {z n p q c':Nat} {a a':Option Addr} {m:Nat} {xs:List Value} (hlen:l.length=n*z) (hmx:(n:Int)≤9223372036854775807) (hfl:D3 l=true)
 (hmem:c'=0∨∃b o xs,a=some ⟨b,o,none⟩∧ok b∧j3 ok w l xs∧∀j,j<n*z→w.cell? ⟨b,o+j,none⟩=xs[j]?) (hpq:p≤q) (hqn:q≤n) (hnc:n≤c') (ha':a'=c0p a p c' z):
 Rep ok w (.lst z (q-p) ((l.drop (p*z)).take ((q-p)*z))) (.slice a' (q-p) (c'-p)):=by
 simp only [Rep]
 have hqz:q*z≤n*z:=Nat.mul_le_mul_right z hqn
 have hpz:p*z≤q*z:=Nat.mul_le_mul_right z hpq
 refine⟨a',c'-p,rfl,by omega,by omega,by simp [hlen,Nat.sub_mul];omega,a7k hfl fun d hd=>List.mem_of_mem_drop (List.mem_of_mem_take hd), ?_⟩
 rcases hmem with rfl|⟨b,o,xs,rfl,hok,hrep,hcell⟩
 · left
   omega
 · right
   have hq:(q-p)*z=q*z-p*z:=Nat.sub_mul ..
   by_cases hpc:c'=p
   · refine⟨b,o,(xs.drop (p*z)).take ((q-p)*z), ?_,hok,(hrep.drop _).take _,fun j hj=> ?_⟩
     · rw [ha'];unfold c0p;rw [if_pos hpc]
     · have:q=p:=by omega
       subst this;simp at hj
   · refine⟨b,o+p*z,(xs.drop (p*z)).take ((q-p)*z), ?_,hok,(hrep.drop _).take _,fun j hj=> ?_⟩
     · rw [ha'];unfold c0p;rw [if_neg hpc];simp [X9]
     · rw [show o+p*z+j=o+(p*z+j) from by omega,hcell _ (by omega),List.getElem?_take,if_pos hj,List.getElem?_drop]
theorem b9x {X:Cx} {st:St} {x y:Operand} {s t:SV} {op:BinOp} {ty yt:TypeId} {K:Out→Prop} {n:Nat} {agg:Bool} {z:List Value} {ks:List CK} {d:TD} {l m:List SV} {e:Bool} (hs:ev st x=some s) (ht:ev st y=some t)
 (n1:∀k a,s≠ .v (.int k a)) (n2:∀a,s≠ .v (.string a)) (hi:K9 X.tt ty=some ⟨n,agg,z,some ks,d⟩) (hl:a5z agg s=some l) (hm:a5z agg t=some m) (he:a5F ks l m=some e) (h:a4b op e K):ev1 X st (.binOp op ty x y yt) K:=by
 simp only [ev1,hs,ht]
 split
 · rename_i e1 _;cases e1;exact absurd rfl (n1 _ _)
 · rename_i e1 _;cases e1;exact absurd rfl (n2 _)
 · rename_i e1 e2;cases e1;cases e2;rw [hi];simp only [hl,hm,he];exact h
 · rename_i hno;exact hno _ _ rfl rfl
theorem b3r {z:Nat} {st:Sy}:∀ {ps:List (Nat×Operand)} {l l':List D},a4Z z st ps l=some l'→l'.length=l.length
 | [],l,l',h=>by simp only [a4Z]at h;cases h;rfl
 |(i,x)::ps,l,l',h=>by
  simp only [a4Z]at h
  split at h
  · split at h
    · split at h
      · split at h
        · rename_i q hq
          rw [b3r h,b0a hq]
        · cases h
      · cases h
    · cases h
  · cases h
theorem c1y (l:List Value):(vD l).length=l.length:=by
 induction l with
 |nil=>rfl
 |cons x l ih=>simp [vD,ih]
theorem b6r (n:Nat) (l:List D):(b0I n l).length=n*l.length:=by
 induction n with
 |zero=>simp [b0I]
 |succ n ih=>simp [b0I,ih,Nat.add_mul,Nat.add_comm]
theorem c4z (l:List Value):Z7 (vD l)=true:=by
 induction l with
 |nil=>rfl
 |cons x l ih=>simp only [vD,Z7,b3c];exact ih
theorem b8S {l r:List D} (h:Z7 l=true) (h':Z7 r=true):Z7 (l++r)=true:=by
 induction l with
 |nil=>exact h'
 |cons x l ih=>
  simp only [Z7]at h
  simp only [List.cons_append,Z7]
  cases hx:b3c x with
  |true=>rw [hx]at h;exact ih h
  |false=>rw [hx]at h;cases h
theorem c3w (n:Nat) {l:List D} (h:Z7 l=true):Z7 (b0I n l)=true:=by
 induction n with
 |zero=>rfl
 |succ n ih=>exact b8S h ih
theorem a7c {l:List D} (h:Z7 l=true):D3 l=true:=U4 fun d hd=>by
 have:=b7n h hd
 cases d<;>simp [b3c]at this<;>rfl
theorem b6d {l:List D} {r:List SV} (h:d8 ok w R l r) (n:Nat):d8 ok w R (b0I n l) (a5c n r):=by
 induction n with
 |zero=>trivial
 |succ n ih=>exact h.app ih
end
section
variable {A : Nat → Prop} {X : Cy} {w0 : World} {bor : List Nat} {st : St} {sy : Sy} {KY : a6r → Prop} {K : Out → Prop}
theorem b3e (hs:Sim A st sy) {fs:List (Nat×Nat×Nat)}:∀ {ps:List (Nat×Operand)} {l l':List D} {r:List SV},b2v fs sy ps l=some l'→d8 (okS A st) st.w (D7 st) l r→
 ∃r',b1L fs st ps r=some r'∧d8 (okS A st) st.w (D7 st) l' r'
 | [],l,l',r,h,hr=>by simp only [b2v]at h;cases h;exact⟨r,rfl,hr⟩
 |(i,x)::ps,l,l',r,h,hr=>by
  simp only [b2v]at h
  split at h
  · rename_i a off n d hn hd
    obtain⟨s,h1,h2,_⟩:=n8 hs hd
    split at h
    · rename_i cs hc
      obtain⟨cs',h3,h4⟩:=h2.cells hc
      split at h
      · rename_i hl hf
        split at h
        · rename_i q hq
          obtain⟨q',h5,h6⟩:=hr.over h4 hq
          obtain⟨r',h7,h8⟩:=b3e hs h h6
          refine⟨r', ?_,h8⟩
          simp only [b1L,hn,h1,h3,←h4.length,hl,h4.one (b3B st) hf,h5]
          exact h7
        · cases h
      · cases h
    · cases h
  · cases h
theorem a9z (hs:Sim A st sy) {z:Nat}:∀ {ps:List (Nat×Operand)} {l l':List D} {r:List SV},a4Z z sy ps l=some l'→d8 (okS A st) st.w (D7 st) l r→
 ∃r',a8x z st ps r=some r'∧d8 (okS A st) st.w (D7 st) l' r'
 | [],l,l',r,h,hr=>by simp only [a4Z]at h;cases h;exact⟨r,rfl,hr⟩
 |(i,x)::ps,l,l',r,h,hr=>by
  simp only [a4Z]at h
  split at h
  · rename_i d hd
    obtain⟨s,h1,h2,_⟩:=n8 hs hd
    split at h
    · rename_i cs hc
      obtain⟨cs',h3,h4⟩:=h2.cells hc
      split at h
      · rename_i hl hf
        split at h
        · rename_i q hq
          obtain⟨q',h5,h6⟩:=hr.over h4 hq
          obtain⟨r',h7,h8⟩:=a9z hs h h6
          refine⟨r', ?_,h8⟩
          simp only [a8x,h1,h3,←h4.length,hl,h4.one (b3B st) hf,h5]
          exact h7
        · cases h
      · cases h
    · cases h
  · cases h
theorem b4n (hs:Sim A st sy) {len cap cap':Nat} {lo hi mx:Option Operand} {B:Nat→Nat→Nat→Prop} {B':Nat→Nat→Nat→Prop} (hc:cap≤cap') (hlc:len≤cap) (h:b7w sy len cap lo hi mx B)
 (hB:∀a b m,a≤b→b≤cap→B a b m→B' a b cap'):bnd st len cap' lo hi mx B':=by
 unfold b7w at h
 split at h
 · split at h
   · split at h
     · exact hB _ _ _ (Nat.zero_le _) hlc h
     · split at h
       · rename_i hl
         obtain⟨s,h1,h2,_⟩:=n8 hs hl
         have:=h2.sc;subst this
         simp only [bnd,h1]
         refine⟨h.1,hB _ _ _ (by omega) hlc h.2⟩
       · exact h.elim
   · split at h
     · rename_i hl
       obtain⟨s,h1,h2,_⟩:=n8 hs hl
       have:=h2.sc;subst this
       simp only [bnd,h1]
       refine⟨⟨h.1.1,by omega⟩, ?_⟩
       replace h:=h
       obtain⟨h0,h⟩:=h
       split at h
       · exact hB _ _ _ (Nat.zero_le _) (by omega) h
       · split at h
         · rename_i hl2
           obtain⟨s,h3,h4,_⟩:=n8 hs hl2
           have:=h4.sc;subst this
           simp only [h3]
           exact⟨h.1,hB _ _ _ (by omega) (by omega) h.2⟩
         · exact h.elim
     · exact h.elim
 · exact h.elim
variable (hK : ∀ oy o, a7T st.H (okS A st) st.w (D7 st) oy o → KY oy → K o)
include hK
theorem a3c {x:Value} (h:KY (.val (.v x))) (ho:a5h x=true):K (.val (.v x)):=P1 hK h (by simp only [i0];exact⟨trivial,ho⟩) (by simp)
theorem b5I (hs:Sim A st sy) {b:Builtin} {args:List Operand} {tys:List TypeId} (h:b2u X sy b args tys KY):U1 (cx X w0 bor) st b args tys K:=by
 unfold b2u at h
 split at h
 · split at h
   · rename_i ht he
     obtain⟨s,h1,h2⟩:=Z8 hs he
     obtain⟨s1,rfl,h3⟩:=h2.one1
     have:=h3.sc;subst this
     simp only [U1,cx,ht,h1]
     exact a3c hK h rfl
   · rename_i ht he
     obtain⟨s,h1,h2⟩:=Z8 hs he
     obtain⟨s1,rfl,h3⟩:=h2.one1
     simp only [i0,Rep]at h3
     obtain⟨y,rfl,a,c,rfl,_⟩:=h3
     simp only [U1,cx,ht,h1]
     exact a3c hK h rfl
   · rename_i ht he
     obtain⟨s,h1,h2⟩:=Z8 hs he
     obtain⟨s1,rfl,h3⟩:=h2.one1
     simp only [i0]at h3
     obtain⟨rfl,_⟩:=h3
     simp only [U1,cx,ht,h1]
     exact a3c hK h rfl
   · rename_i ht he
     obtain⟨s,h1,h2⟩:=Z8 hs he
     obtain⟨s1,rfl,h3⟩:=h2.one1
     simp only [i0]at h3
     obtain⟨rfl,_⟩:=h3
     split at h
     · rename_i hf
       obtain⟨e',hf',he⟩:=hs.H _ _ hf
       cases e' with
       |blk=>exact he.elim
       |row v n' xs z' ty'=>
        obtain⟨rfl,_⟩:=he
        simp only [U1,cx,ht,h1,hf']
        exact a3c hK h rfl
     · exact h.elim
   · rename_i ht he
     obtain⟨s,h1,h2⟩:=Z8 hs he
     obtain⟨s1,rfl,h3⟩:=h2.one1
     have:=h3.sc;subst this
     simp only [U1,cx,ht,h1]
     exact a3c hK h rfl
   · exact h.elim
 · split at h
   · rename_i he
     obtain⟨s,h1,h2⟩:=Z8 hs he
     obtain⟨s1,s2,rfl,h3,h4⟩:=h2.two
     have:=h3.sc;subst this
     have:=h4.sc;subst this
     simp only [U1,h1]
     exact a3c hK h rfl
   · rename_i he
     obtain⟨s,h1,h2⟩:=Z8 hs he
     obtain⟨s1,s2,s3,rfl,h3,h4,h5⟩:=h2.three
     have:=h3.sc;subst this
     have:=h4.sc;subst this
     have:=h5.sc;subst this
     simp only [U1,h1]
     exact a3c hK h rfl
   · exact h.elim
 · split at h
   · rename_i he
     obtain⟨s,h1,h2⟩:=Z8 hs he
     obtain⟨s1,s2,rfl,h3,h4⟩:=h2.two
     have:=h3.sc;subst this
     have:=h4.sc;subst this
     simp only [U1,h1]
     exact a3c hK h rfl
   · exact h.elim
 · split at h
   · rename_i hb ht he
     obtain⟨s,h1,h2⟩:=Z8 hs he
     obtain⟨s1,s2,rfl,h3,h4⟩:=h2.two
     split at h
     · rename_i i hi
       split at h
       · rename_i hn
         simp only [U1,cx,hb,ht,h1,hi,hn]
         exact hK _ _ (by exact⟨rfl,rfl,rfl,h3,h4⟩) h
       · exact h.elim
     · exact h.elim
   · exact h.elim
 · exact h.elim
theorem b9S {fs:List (Nat×Nat×Nat)} {f:Nat} {x:D} {s:SV} (h:b6v X fs f x KY) (hr:i0 (okS A st) st.w (D7 st) x s):a9m (cx X w0 bor) fs f s K:=by
 unfold b6v at h
 split at h
 · rename_i hn ha
   obtain⟨r,h1,h2⟩:=b5G ha hr
   split at h
   · rename_i hi hq
     obtain⟨q,h3,h4⟩:=(h2.dropD _).takeD hq
     split at h
     · rename_i hb
       simp only [a9m,cx,hn,h1,hi,h3,hb]
       exact b4x hK h h4
     · exact h.elim
   · exact h.elim
 · exact h.elim
theorem b2M (hz:∀t i,K9 X.tt t=some i→(∀x,x∈i.z→a5h x=true)∧i.z.length=i.n) (hs:Sim A st sy) {t:TypeId} {l c:Operand} (h:y1 X sy (.makeSlice t l c) KY):ev1 (cx X w0 bor) st (.makeSlice t l c) K:=by
 simp only [y1]at h
 split at h
 · rename_i n0 agg0 z0 eq0 e esz bytes k1 p k2 q hi hl hc
   obtain⟨s,h1,h2,_⟩:=n8 hs hl
   obtain⟨u,h3,h4,_⟩:=n8 hs hc
   have:=h2.sc;subst this
   have:=h4.sc;subst this
   split at h
   · rename_i i hie
     split at h
     · rename_i hn
       obtain⟨h0,l',n',⟨rfl,rfl⟩,h⟩:=h
       simp only [ev1,cx,hi,h1,h3,hie,hn]
       have hzi:=hz _ _ hie
       have hrel:d8 (okS A st) st.w (D7 st) (b0I p.toNat (vD i.z)) (a5c p.toNat (vs i.z)):=b6d (b2r hzi.1) _
       have hno:Z7 (b0I p.toNat (vD i.z))=true:=c3w _ (c4z i.z)
       obtain⟨xs,hx,h5⟩:=hrel.vals hno
       refine⟨h0,hK (.newR (b0I p.toNat (vD i.z)) e esz p.toNat) _ (by exact⟨rfl,rfl,by rw [b6r,c1y,hzi.2,B9 hn],by simp only [maxLen];omega,a7c hno,xs,hx,h5⟩) h⟩
     · exact h.elim
   · exact h.elim
 · exact h.elim
theorem b6s (hs:Sim A st sy) {x:Operand} {n:Nat} (h:y1 X sy (.extract x n) KY):ev1 (cx X w0 bor) st (.extract x n) K:=by
 simp only [y1]at h
 cases hx:evY sy x with
 |none=>rw [hx]at h;exact h.elim
 |some d=>
  rw [hx]at h
  obtain⟨s,h1,h2,_⟩:=n8 hs hx
  cases d with
  |tup l=>
   simp only at h
   simp only [i0]at h2
   cases hq:dropD n l with
   |nil=>rw [hq]at h;exact h.elim
   |cons d r=>
    rw [hq]at h
    have hne:d≠ .bad:=fun e=>by subst e;exact h.elim
    have hk:KY (.val d):=by cases d<;>first|exact h|exact absurd rfl hne
    rcases h2 with⟨cs,rfl,h2⟩|⟨a,rfl,h2⟩
    · have h3:=h2.dropD n
      rw [hq]at h3
      simp only [ev1,h1]
      cases hq2:a2l n cs with
      |nil=>rw [hq2]at h3;simp [d8]at h3
      |cons q qs=>
       rw [hq2]at h3
       have hqb:=h3.1.ne hne
       have:=P1 hK hk h3.1 hne
       cases q<;>first|exact this|exact absurd rfl hqb
    · have h3:=h2.dropD n
      rw [hq]at h3
      simp only [ev1,h1]
      cases hq2:a2l n (vs a.toList)with
      |nil=>rw [hq2]at h3;simp [d8]at h3
      |cons q qs=>rw [hq2]at h3;exact P1 hK hk h3.1 hne
  |_=>exact h.elim
theorem b1p (hz:∀t i,K9 X.tt t=some i→(∀x,x∈i.z→a5h x=true)∧i.z.length=i.n) (hs:Sim A st sy) {t:TypeId} {n:Nat} {ps:Array (Nat×Operand)} (h:y1 X sy (.buildSlice t n ps) KY):ev1 (cx X w0 bor) st (.buildSlice t n ps) K:=by
 simp only [y1]at h
 cases hi:K9 X.tt t with
 |none=>rw [hi]at h;exact h.elim
 |some i=>
  rw [hi]at h
  obtain⟨in_,agg,iz,ieq,d⟩:=i
  cases d with
  |slice e esz bytes=>
   simp only at h
   cases hie:K9 X.tt e with
   |none=>rw [hie]at h;exact h.elim
   |some i=>
    rw [hie]at h
    simp only at h
    cases hb:Nat.ble (n*esz) 16777216 with
    |false=>rw [hb]at h;exact h.elim
    |true=>
     rw [hb]at h
     cases hn:Nat.beq i.n esz with
     |false=>rw [hn]at h;exact h.elim
     |true=>
      rw [hn]at h
      cases hl:a4Z esz sy ps.toList (b0I n (vD i.z))with
      |none=>rw [hl]at h;exact h.elim
      |some l=>
       rw [hl]at h
       simp only at h
       obtain⟨r,h1,h2⟩:=a9z hs hl (b6d (b2r (hz _ _ hie).1) _)
       simp only [ev1,cx,hi,hie,hb,hn,h1]
       have hlen:l.length=n*esz:=by rw [b3r hl,b6r,c1y,(hz _ _ hie).2,B9 hn]
       cases hno:Z7 l with
       |false=>rw [hno]at h;exact hK (.new l e (some (esz,n))) _ (by exact⟨rfl,h2,rfl⟩) (by cases Nat.ble n 16777216<;>exact h)
       |true=>
        rw [hno]at h
        cases hbn:Nat.ble n 16777216 with
        |false=>rw [hbn]at h;exact hK (.new l e (some (esz,n))) _ (by exact⟨rfl,h2,rfl⟩) h
        |true=>
         rw [hbn]at h
         obtain⟨l',n',⟨rfl,rfl⟩,h⟩:=h
         obtain⟨xs,rfl,h3⟩:=h2.vals hno
         exact hK (.newR l e esz n) _ (by exact⟨rfl,rfl,hlen,(by have:=Nat.le_of_ble_eq_true hbn;simp only [maxLen];omega),a7c hno,xs,rfl,h3⟩) h
  |_=>exact h.elim
theorem b6M (hs:Sim A st sy) {t:TypeId} {x ix:Operand} {ok:Bool} (h:y1 X sy (.lookup t x ix ok) KY):ev1 (cx X w0 bor) st (.lookup t x ix ok) K:=by
 simp only [y1]at h
 split at h
 · rename_i l i hx hi
   obtain⟨hT,f,hf,hk⟩:=h
   obtain⟨s,h1,h2,_⟩:=n8 hs hx
   obtain⟨s',h3,h4,_⟩:=n8 hs hi
   have:=h4.sc;subst this
   simp only [i0,Rep]at h2
   obtain⟨y,rfl,r,es,c,rfl,hok,hb,he⟩:=h2
   obtain⟨j,hj⟩:=b3j l es.toList 0 he hf
   simp only [ev1,h1,h3]
   exact⟨hT,es,c,j,_, .inr ⟨hok.2.2,hb⟩,hj,P1 hK hk (by simp only [i0];exact .inr ⟨#[], #[],rfl,trivial,trivial⟩) (by simp)⟩
 · exact h.elim
theorem c2g (hs:Sim A st sy) {c:Call} (h:y1 X sy (.call c) KY):ev1 (cx X w0 bor) st (.call c) K:=by
 obtain⟨callee,args,tys⟩:=c
 cases callee with
 |value f=>
  simp only [y1]at h
  cases hf:evY sy f with
  |none=>rw [hf]at h;exact h.elim
  |some d=>
   rw [hf]at h
   cases d with
   |fn g l caps=>
    try simp only at h
    cases ha:a8m sy args.toList with
    |none=>rw [ha]at h;exact h.elim
    |some as=>
     rw [ha]at h
     try simp only at h
     obtain⟨s,h1,h2,_⟩:=n8 hs hf
     obtain⟨t,h3,h4⟩:=Z8 hs ha
     simp only [i0]at h2
     rcases h2 with⟨p,q,rfl,h5,h6⟩|⟨p,q,rfl,h5,h6⟩
     · simp only [ev1,h1,h3]
       exact hK (.call g _) _ (by exact⟨rfl,h5.app (h4.app h6)⟩) h
     · simp only [ev1,h1,h3]
       exact hK (.call g _) _ (by exact⟨rfl,h5.app (h4.app h6)⟩) h
   |_=>exact h.elim
 |builtin b=>
  simp only [y1]at h
  simp only [ev1]
  exact b5I hK hs h
 |_=>exact h.elim
theorem b6H (hz:∀t i,K9 X.tt t=some i→(∀x,x∈i.z→a5h x=true)∧i.z.length=i.n) (hs:Sim A st sy) {op:Op} (h:y1 X sy op KY):ev1 (cx X w0 bor) st op K:=by
 unfold y1 at h
 split at h
 · exact b4l hK hs h
 · exact b4l hK hs h
 · split at h
   · rename_i hc
     obtain⟨s,h1,h2,_⟩:=n8 hs hc
     have:=h2.sc;subst this
     simp only [ev1,h1]
     rename_i t _
     cases t
     · exact b4l hK hs h
     · exact b4l hK hs h
   · exact h.elim
 · split at h
   · rename_i i hi
     simp only [ev1,cx,hi]
     exact hK _ _ (by exact⟨rfl,b2r (hz _ _ hi).1,rfl⟩) h
   · exact h.elim
 · split at h
   · rename_i i d hi hd
     obtain⟨s,h1,h2,_⟩:=n8 hs hd
     split at h
     · rename_i l hl
       obtain⟨r,h3,h4⟩:=h2.cells hl
       split at h
       · rename_i hf
         simp only [ev1,cx,hi,h1,h3,h4.one (b3B st) hf]
         exact hK _ _ (by exact⟨rfl,h4,rfl⟩) h
       · exact h.elim
     · exact h.elim
   · exact h.elim
 · split at h
   · rename_i i d hi hd
     obtain⟨s,h1,h2,_⟩:=n8 hs hd
     simp only [ev1,h1]
     simp only [cx,hi]
     exact b9a (X:=X) (w0:=w0) (bor:=bor) hK hs h h2
   · exact h.elim
 · split at h
   · rename_i i d e hi hd he
     obtain⟨s,h1,h2,_⟩:=n8 hs hd
     obtain⟨t,h3,h4,_⟩:=n8 hs he
     simp only [ev1,cx,hi,h1,h3]
     exact b7m hK hs h h2 h4
   · exact h.elim
 · split at h
   · rename_i hd
     obtain⟨s,h1,h2,h3⟩:=n8 hs hd
     have h2':=h2
     simp only [i0]at h2;obtain⟨rfl,_⟩:=h2
     simp only [ev1,h1];exact P1 hK h h2' h3
   · rename_i hd
     obtain⟨s,h1,h2,h3⟩:=n8 hs hd
     have h2':=h2
     simp only [i0]at h2;obtain⟨rfl,_⟩:=h2
     simp only [ev1,h1];exact P1 hK h h2' h3
   · rename_i hd
     obtain⟨s,h1,h2,h3⟩:=n8 hs hd
     have h2':=h2
     simp only [i0]at h2;obtain⟨rfl,_⟩:=h2
     simp only [ev1,h1];exact P1 hK h h2' h3
   · rename_i hd
     obtain⟨s,h1,h2,h3⟩:=n8 hs hd
     have h2':=h2
     simp only [i0,Rep]at h2;obtain⟨y,rfl,b,p,xs,rfl,_⟩:=h2
     simp only [ev1,h1];exact P1 hK h h2' h3
   · exact h.elim
 · split at h
   · rename_i hi hd
     obtain⟨s,h1,h2,_⟩:=n8 hs hd
     split at h
     · rename_i hn
       obtain⟨y,h3,h4⟩:=a3d h
       obtain⟨t,h5,h6,h7⟩:=b2H h3 h2
       simp only [ev1,cx,hi,h1,hn,h5]
       exact P1 hK h4 h6 h7
     · exact h.elim
   · exact h.elim
 · split at h
   · rename_i hi hd
     obtain⟨s,h1,h2,_⟩:=n8 hs hd
     simp only [ev1,h1]
     simp only [cx,hi]
     exact b9S (X:=X) (w0:=w0) (bor:=bor) hK h h2
   · exact h.elim
 · --indexAddr
   split at h
   · rename_i hi hd hx
     obtain⟨s,h1,h2,_⟩:=n8 hs hd
     obtain⟨t,h3,h4,_⟩:=n8 hs hx
     have:=h4.sc;subst this
     split at h
     · rename_i hz
       obtain rfl:=B9 hz
       obtain⟨cs,⟨rfl,h0,hlt⟩,h⟩:=h
       simp only [i0,Rep]at h2
       obtain⟨y,rfl,a,c,rfl,hnc,hmx,hlen,hfl,hmem⟩:=h2
       simp only [ev1,cx,hi,h1,h3]
       rcases hmem with rfl|⟨b,o,xs,rfl,hok,hrep,hcell⟩
       · omega
       · refine⟨b,o,⟨rfl,h0,hlt⟩,P1 hK h ?_ (by simp)⟩
         simp only [i0]
         exact⟨_,rfl,c3R hlen hfl hok hrep hcell h0 hlt⟩
     · exact h.elim
   · rename_i hi hd hx
     obtain⟨s,h1,h2,_⟩:=n8 hs hd
     obtain⟨t,h3,h4,_⟩:=n8 hs hx
     have:=h4.sc;subst this
     simp only [i0]at h2
     obtain⟨rfl,h2⟩:=h2
     split at h
     · rename_i hz
       obtain rfl:=B9 hz
       simp only [ev1,cx,hi,h1,h3]
       exact⟨h.1,P1 hK h.2 (by simp only [i0];exact⟨trivial,h2⟩) (by simp)⟩
     · exact h.elim
   · rename_i hi hd hx
     obtain⟨s,h1,h2,_⟩:=n8 hs hd
     obtain⟨t,h3,h4,_⟩:=n8 hs hx
     have:=h4.sc;subst this
     simp only [i0]at h2
     obtain⟨rfl,h2⟩:=h2
     split at h
     · rename_i hz hf
       obtain rfl:=B9 hz
       obtain⟨e',hf',he⟩:=hs.H _ _ hf
       cases e' with
       |blk=>exact he.elim
       |row v n' xs z' ty'=>
        obtain⟨rfl,_⟩:=he
        split at h
        · rename_i hz2
          simp only [ev1,cx,hi,h1,h3,hf']
          exact⟨h.1,P1 hK h.2 (by simp only [i0];exact⟨rfl,h2⟩) (by simp)⟩
        · exact h.elim
     · exact h.elim
   · omega
   · rename_i hi hd hx
     obtain⟨s,h1,h2,_⟩:=n8 hs hd
     obtain⟨t,h3,h4,_⟩:=n8 hs hx
     have:=h4.sc;subst this
     obtain⟨h0,h⟩:=h
     obtain⟨y,h5,h6⟩:=a3d h
     simp only [ev1,cx,hi,h1,h3]
     refine⟨h0, ?_⟩
     split at h5
     · obtain⟨u,h7,h8,h9⟩:=b2H h5 h2
       rename_i hc
       simp only [hc,h7];exact P1 hK h6 h8 h9
     · obtain⟨u,h7,h8,h9⟩:=b5U h5 h2
       rename_i hc
       simp only [hc,h7];exact P1 hK h6 h8 h9
   · exact h.elim
 · --index
   split at h
   · rename_i hi hd hx
     obtain⟨s,h1,h2,_⟩:=n8 hs hd
     obtain⟨t,h3,h4,_⟩:=n8 hs hx
     have:=h4.sc;subst this
     have:=h2.sc;subst this
     obtain⟨c,h0,h⟩:=h
     simp only [ev1,cx,hi,h1,h3]
     exact⟨c,h0,a3c hK h rfl⟩
   · rename_i hi hd hx
     obtain⟨s,h1,h2,_⟩:=n8 hs hd
     obtain⟨t,h3,h4,_⟩:=n8 hs hx
     have:=h4.sc;subst this
     split at h
     · rename_i ha hti
       obtain⟨r,h5,h6⟩:=b5G ha h2
       obtain⟨h0,h⟩:=h
       simp only [ev1,cx,hi,h1,h3,h5,hti]
       refine⟨h0, ?_⟩
       split at h
       · rename_i hb hq
         obtain⟨q,h7,h8⟩:=(h6.dropD _).takeD hq
         simp only [hb,h7]
         exact b4x hK h h8
       · exact h.elim
     · exact h.elim
   · exact h.elim
 · --binOp
   split at h
   · rename_i hx hy
     obtain⟨s,h1,h2,_⟩:=n8 hs hx
     obtain⟨t,h3,h4,_⟩:=n8 hs hy
     have:=h2.sc;subst this
     have:=h4.sc;subst this
     simp only [ev1,h1,h3]
     generalize hb1:c4l _=b1 at h⊢
     generalize hb2:kEq _ _=b2 at h⊢
     cases b1<;>cases b2<;>simp only at h⊢
     · exact b6I (fun o ho=>a2V hK ho) h
     · exact b3d (fun o ho=>a2V hK ho) h
     · exact b3d (fun o ho=>a2V hK ho) h
   · rename_i hx hy
     obtain⟨s,h1,h2,_⟩:=n8 hs hx
     obtain⟨t,h3,h4,_⟩:=n8 hs hy
     have:=h2.sc;subst this
     have:=h4.sc;subst this
     simp only [ev1,h1,h3]
     exact b6R (fun o ho=>a2V hK ho) h
   · rename_i hx hy
     obtain⟨s,h1,h2,_⟩:=n8 hs hx
     obtain⟨t,h3,h4,_⟩:=n8 hs hy
     split at h
     · rename_i hi
       split at h
       · rename_i hl hm
         obtain⟨⟨l',h5,h6⟩,h7⟩:=b1G hl h2
         obtain⟨⟨m',h8,h9⟩,h10⟩:=b1G hm h4
         split at h
         · rename_i e he
           have he':=c1t he h6 h9
           have nots:(∀k a,s≠ .v (.int k a))∧(∀a,s≠ .v (.string a)):=by
            rcases h7 with⟨_,cs,hcs⟩|⟨c,rfl⟩
            · exact⟨fun k a e=>by subst e;simp [a4B]at hcs,fun a e=>by subst e;simp [a4B]at hcs⟩
            · exact⟨fun k a e=>(by cases e),fun a e=>(by cases e)⟩
           exact b9x h1 h3 nots.1 nots.2 hi h5 h8 he' (a6G (fun o ho=>a2V hK ho) h)
         · exact h.elim
       · exact h.elim
     · rename_i hi
       split at h
       · simp only [i0,Rep]at h2
         obtain⟨y,rfl,a,c,rfl,hnc,hmx,hlen,hfl,hmem⟩:=h2
         have:=h4.sc;subst this
         simp only [ev1,cx,h1,h3,hi]
         refine a6G (fun o ho=>a2V hK ho) (h a.isNone fun hb=> ?_)
         rcases hmem with rfl|⟨b,o,xs,rfl,_⟩
         · omega
         · cases hb
       · have:=h2.sc;subst this
         have:=h4.sc;subst this
         simp only [ev1,cx,h1,h3,hi]
         exact a6G (fun o ho=>a2V hK ho) h
       · exact h.elim
     · exact h.elim
   · exact h.elim
 · split at h
   · rename_i hx
     obtain⟨s,h1,h2,_⟩:=n8 hs hx
     have:=h2.sc;subst this
     simp only [ev1,h1];exact a3c hK h rfl
   · rename_i hx
     obtain⟨s,h1,h2,_⟩:=n8 hs hx
     have:=h2.sc;subst this
     simp only [ev1,h1];exact a3c hK h rfl
   · exact h.elim
 · split at h
   · rename_i h1 h2 hx
     obtain⟨s,g1,g2,_⟩:=n8 hs hx
     have:=g2.sc;subst this
     simp only [ev1,cx,h1,h2,g1];exact a3c hK h rfl
   · exact h.elim
 · exact b6s hK hs (by simpa only [y1]using h)
 · split at h
   · rename_i hl hc
     obtain⟨l',h1,h2⟩:=Z8 hs hl
     obtain⟨c',h3,h4⟩:=Z8 hs hc
     simp only [ev1,h1,h3]
     exact P1 hK h (by simp only [i0];exact .inl ⟨_,_,rfl,h2,h4⟩) (by simp)
   · exact h.elim
 · split at h
   · rename_i hi
     split at h
     · rename_i l hl
       have hzz:=(hz _ _ hi).1
       obtain⟨r,h1,h2⟩:=b3e hs hl (b2r hzz)
       split at h
       · rename_i hf
         simp only [ev1,cx,hi,h1]
         exact P1 hK h (by simp only [i0];exact⟨r,rfl,h2,hf⟩) (by simp)
       · exact h.elim
     · exact h.elim
   · rename_i hi
     split at h
     · rename_i l hl
       have hzz:=(hz _ _ hi).1
       obtain⟨r,h1,h2⟩:=a9z hs hl (b2r hzz)
       split at h
       · rename_i hf
         simp only [ev1,cx,hi,h1]
         exact P1 hK h (by simp only [i0];exact⟨r,rfl,h2,hf⟩) (by simp)
       · exact h.elim
     · exact h.elim
   · exact h.elim
 · exact b1p hK hz hs (by simpa only [y1]using h)
 · exact b2M hK hz hs (by simpa only [y1]using h)
 · split at h
   · rename_i hi hd
     obtain⟨s,h1,h2,_⟩:=n8 hs hd
     split at h
     · rename_i hzz
       obtain rfl:=B9 hzz
       simp only [i0,Rep]at h2
       obtain⟨y,rfl,a,c,rfl,hnc,hmx,hlen,hfl,hmem⟩:=h2
       simp only [ev1,cx,hi,h1]
       refine b4n hs hnc (Nat.le_refl _) h fun p q m hpq hqn hk a' ha'=> ?_
       obtain⟨r,rfl,hk⟩:=hk
       refine P1 hK hk ?_ (by simp)
       simp only [i0]
       exact⟨_,rfl,c3m (xs:= []) (m:=0) hlen hmx hfl hmem hpq hqn hnc ha'⟩
     · exact h.elim
   · rename_i mx _ _ _ _ _ _ _ esz _ k z hi hd
     obtain⟨s,h1,h2,_⟩:=n8 hs hd
     simp only [i0]at h2
     obtain⟨rfl,hkey⟩:=h2
     split at h
     · rename_i hzz hf
       obtain rfl:=B9 hzz
       obtain⟨h0,h⟩:=h
       have hmx:mx=none:=by
        cases mx with
        |none=>rfl
        |some m=>simp [b7w]at h
       subst hmx
       obtain⟨e',hf',he⟩:=hs.H _ _ hf
       cases e' with
       |blk=>exact he.elim
       |row v n' xs z' ty'=>
        obtain⟨rfl,rfl,rfl,_⟩:=he
        simp only [ev1,cx,hi,h1,hf']
        refine⟨h0,fun c hnc=>b4n hs hnc (Nat.le_refl _) h fun p q m hpq hqn hk=> ?_⟩
        refine P1 hK (hk (if c=p then 0 else p*z) ⟨?_,fun hp=>by subst hp;simp⟩) ?_ (by simp)
        · by_cases hc:c=p
          · left;omega
          · right;rw [if_neg hc]
        · simp only [i0];exact⟨trivial,hkey.1,by simp⟩
     · exact h.elim
   · rename_i hi hd
     obtain⟨s,h1,h2,_⟩:=n8 hs hd
     have:=h2.sc;subst this
     simp only [ev1,cx,hi,h1]
     rename_i mx _ _ _ _ _ _ _ _
     have hmx:mx=none:=by
      cases mx with
      |none=>rfl
      |some m=>simp [b7w]at h
     subst hmx
     exact b4n hs (Nat.le_refl _) (Nat.le_refl _) h fun p q m _ _ hk=>a3c hK hk rfl
   · exact h.elim
 · exact b6M hK hs (by simpa only [y1]using h)
 · exact c2g hK hs (by simpa only [y1]using h)
 · exact h.elim
end
end Go.Sx
namespace Go.Sx
open Go Go.RowKit
mutual
def a3D (k:Nat):D→Bool
 | .own j _=>Nat.beq j k
 | .ownx j _=>Nat.beq j k
 | .row j _=>Nat.beq j k
 | .elr j _ _ _=>Nat.beq j k
 | .osl j _ _ _ _=>Nat.beq j k
 | .agg l=>a6C k l
 | .tup l=>a6C k l
 | .fn _ f c=>match a6C k f with|true=>true|false=>a6C k c
 |_=>false
def a6C (k:Nat):List D→Bool
 | []=>false
 |s::l=>match a3D k s with|true=>true|false=>a6C k l
end
def a9o (k:Nat) (s:D):D:=match a3D k s with|true=> .bad|false=>s
def b6C (k:Nat):List D→List D
 | []=> []
 |s::l=>a9o k s::b6C k l
def b4r (k:Nat):E→E
 | .blk cs ty=> .blk (b6C k cs) ty
 |e=>e
def a4U (k:Nat):Hy→Hy
 | []=> []
 |(j,e)::H=>(j,b4r k e)::a4U k H
def a8h (k:Nat) (T:List (Nat×D)) (K:List (Nat×D)→Prop):Prop:=match T with
 | []=>K []
 |(d,s)::T=>match a3D k s with
  |true=>a8h k T fun T'=>K ((d, .bad)::T')
  |false=>a8h k T fun T'=>K ((d,s)::T')
def b4T:Hy→Nat→E→(Hy→Prop)→Prop
 | [],_,_,_=>False
 |(k',e')::H,k,e,K=>match Nat.beq k' k with
  |true=>K ((k',e)::H)
  |false=>b4T H k e fun H'=>K ((k',e')::H')
mutual
def fzO (k:Nat) (e:E):D→Option D
 | .own j o=>match Nat.beq j k with
  |false=>some (.own j o)
  |true=>match e with| .blk cs _=>some (.ptr cs o)|_=>none
 | .ownx j o=>match Nat.beq j k with|false=>some (.ownx j o)|true=>none
 | .row j z=>match Nat.beq j k with
  |false=>some (.row j z)
  |true=>match e with| .row z' n l _=>some (.lst z' n l)|_=>none
 | .elr j z i o=>match Nat.beq j k with|false=>some (.elr j z i o)|true=>none
 | .osl j o z n c=>match Nat.beq j k with
  |false=>some (.osl j o z n c)
  |true=>match e with
   | .blk cs _=>match takeD (n*z) (dropD o cs),Nat.ble n c,Nat.ble n 9223372036854775807 with|some l,true,true=>some (.lst z n l)|_,_,_=>none
   |_=>none
 | .agg l=>match fzL k e l with|some l'=>some (.agg l')|none=>none
 | .tup l=>match fzL k e l with|some l'=>some (.tup l')|none=>none
 | .fn f a b=>match fzL k e a,fzL k e b with|some a',some b'=>some (.fn f a' b')|_,_=>none
 | .v x=>some (.v x)
 | .lst z n l=>some (.lst z n l)
 | .ptr l o=>some (.ptr l o)
 | .mp l=>some (.mp l)
 | .und=>some .und
 | .bad=>none
def fzL (k:Nat) (e:E):List D→Option (List D)
 | []=>some []
 |x::l=>match fzO k e x,fzL k e l with|some y,some r=>some (y::r)|_,_=>none
end
def fzG (k:Nat) (e:E) (x:D):D:=match fzO k e x with|some y=>y|none=> .bad
def fzT (k:Nat) (e:E):List (Nat×D)→List (Nat×D)
 | []=> []
 |(d,x)::T=>(d,fzG k e x)::fzT k e T
def fzC (k:Nat) (e:E):List D→List D
 | []=> []
 |x::l=>fzG k e x::fzC k e l
def fzE (k:Nat) (e:E):E→E
 | .blk cs ty=> .blk (fzC k e cs) ty
 |x=>x
def fzH (k:Nat) (e:E):Hy→Hy
 | []=> []
 |(j,x)::H=>match Nat.beq j k with
  |true=>fzH k e H
  |false=>(j,fzE k e x)::fzH k e H
mutual
def a0R:D→Bool
 | .v _=>true
 | .lst _ _ _=>true
 | .ptr _ _=>true
 | .mp _=>true
 | .agg l=>match V9 l with|true=>D3 l|false=>false
 | .tup l=>V9 l
 | .fn _ a b=>match V9 a with|true=>V9 b|false=>false
 |_=>false
def V9:List D→Bool
 | []=>true
 |x::l=>match a0R x with|true=>V9 l|false=>false
end
def okE:E→Bool
 | .blk cs _=>match V9 cs with|true=>D3 cs|false=>false
 | .row _ _ _ _=>true
def c0e (k:Nat) (e:E):List (Nat×D)→Option (List (Nat×D))
 | []=>some []
 |(d,x)::T=>match fzO k e x with
  |some y=>match c0e k e T with
   |some T'=>some ((d,y)::T')
   |none=>none
  |none=>match c0e k e T with
   |some T'=>some ((d, .bad)::T')
   |none=>none
def c1n (k:Nat) (e:E):List D→Option (List D)
 | []=>some []
 |x::l=>match fzO k e x with
  |some y=>match c1n k e l with
   |some l'=>some (y::l')
   |none=>none
  |none=>match c1n k e l with
   |some l'=>some (.bad::l')
   |none=>none
def b8O (k:Nat) (e:E):Hy→Option Hy
 | []=>some []
 |(j,x)::H=>match Nat.beq j k with
  |true=>b8O k e H
  |false=>match x with
   | .blk cs ty=>match c1n k e cs with
    |some cs'=>match b8O k e H with
     |some H'=>some ((j, .blk cs' ty)::H')
     |none=>none
    |none=>none
   | .row t c n m=>match b8O k e H with
    |some H'=>some ((j, .row t c n m)::H')
    |none=>none
theorem b8g (k:Nat) (e:E):∀T,c0e k e T=some (fzT k e T)
 | []=>rfl
 |(d,x)::T=>by
  simp only [c0e,b8g k e T,fzT,fzG]
  cases fzO k e x<;>rfl
theorem b8j (k:Nat) (e:E):∀l,c1n k e l=some (fzC k e l)
 | []=>rfl
 |x::l=>by
  simp only [c1n,b8j k e l,fzC,fzG]
  cases fzO k e x<;>rfl
theorem b8t (k:Nat) (e:E):∀H,b8O k e H=some (fzH k e H)
 | []=>rfl
 |(j,x)::H=>by
  simp only [b8O,b8t k e H,fzH]
  cases Nat.beq j k with
  |true=>rfl
  |false=>cases x<;>simp only [b8j,fzE]
def a5l:List Nat→Sy→List D→Option (Sy×List D)
 | [],st,l=>some (st,l)
 |k::ks,⟨T,H,nk⟩,l=>match o4 H k with
  |some e=>match okE e,fzL k e l with
   |true,some l'=>match c0e k e T with
    |some T'=>match b8O k e H with
     |some H'=>a5l ks ⟨T',H',nk⟩ l'
     |none=>none
    |none=>none
   |_,_=>none
  |none=>none
mutual
def c5c:Nat→Hy→List Nat→D→List Nat
 |0,_,acc,_=>acc
 |n+1,H,acc, .own j _=>b1V n H acc j
 |n+1,H,acc, .ownx j _=>b1V n H acc j
 |n+1,H,acc, .row j _=>b1V n H acc j
 |n+1,H,acc, .elr j _ _ _=>b1V n H acc j
 |n+1,H,acc, .osl j _ _ _ _=>b1V n H acc j
 |n+1,H,acc, .agg l=>a5D n H acc l
 |n+1,H,acc, .tup l=>a5D n H acc l
 |n+1,H,acc, .fn _ a b=>match a5D n H acc a with
  | []=>a5D n H [] b
  |y::r=>a5D n H (y::r) b
 |_,_,acc,_=>acc
def b1V:Nat→Hy→List Nat→Nat→List Nat
 |0,_,acc,_=>acc
 |n+1,H,acc,j=>match R8 j acc with
  |true=>acc
  |false=>match o4 H j with
   |some (.blk cs _)=>match a5D n H acc cs with
    | []=> [j]
    |y::r=>j::y::r
   |_=>j::acc
def a5D:Nat→Hy→List Nat→List D→List Nat
 |0,_,acc,_=>acc
 |_+1,_,acc, []=>acc
 |n+1,H,acc,x::l=>match c5c n H acc x with
  | []=>a5D n H [] l
  |y::r=>a5D n H (y::r) l
end
def c5F:List Nat→List Nat→List Nat
 | [],acc=>acc
 |x::l,acc=>c5F l (x::acc)
def b8y (H:Hy) (l:List D):List Nat:=c5F (a5D 40 H [] l) []
mutual
def a4S:D→Bool
 | .v _=>true
 | .agg l=>b5n l
 | .tup l=>b5n l
 |_=>false
def b5n:List D→Bool
 | []=>true
 |x::l=>match a4S x with|true=>b5n l|false=>false
end
def l8 (P:Program) (f:FuncId) (args:List D) (Q:D→Prop):Prop:=
 ∀(ok:Nat→Prop) (w:World) (vs:List Value),j3 ok w args vs→(∀b,ok b→b<w.heap.size)→
  Calls P f vs.toArray w fun e w'=>∃v r,e= .returned v∧Q r∧Rep (fun b=>ok b∨(w.heap.size≤b∧b<w'.heap.size)) w' r v∧Below w.heap.size w w'
def Y1 (X:Cy) (st:Sy) (dst:Option Nat) (s:D) (K:Sy→Prop):Prop:=
 match dst with
 |none=>K st
 |some d=>match Nat.blt d X.nt,st with
  |true,⟨T,H,nk⟩=>K ⟨(d,s)::T,H,nk⟩
  |false,_=>False
mutual
def leD:D→D→Prop
 | .v x,y=>y= .v x∨(x= .slice none 0 0∧∃z,y= .lst z 0 [])
 | .agg l,y=>∃r,y= .agg r∧a3L l r
 | .tup l,y=>∃r,y= .tup r∧a3L l r
 |x,y=>x=y
def a3L:List D→List D→Prop
 | [], []=>True
 |x::l,y::r=>leD x y∧a3L l r
 |_,_=>False
end
mutual
def back (n:Nat):D→D
 | .row k z=>match Nat.blt k n with|true=> .row k z|false=> .v (.slice none 0 0)
 | .agg l=> .agg (a2J n l)
 | .tup l=> .tup (a2J n l)
 | .fn f a b=> .fn f (a2J n a) (a2J n b)
 |x=>x
def a2J (n:Nat):List D→List D
 | []=> []
 |x::l=>back n x::a2J n l
end
mutual
def inK (n:Nat) (ks:List Nat):D→Bool
 | .own j _=>match Nat.blt j n with|true=>R8 j ks|false=>false
 | .ownx j _=>match Nat.blt j n with|true=>R8 j ks|false=>false
 | .row j _=>R8 j ks
 | .elr j _ _ _=>match Nat.blt j n with|true=>R8 j ks|false=>false
 | .osl j _ _ _ _=>match Nat.blt j n with|true=>R8 j ks|false=>false
 | .agg l=>b7D n ks l
 | .tup l=>b7D n ks l
 | .fn _ a b=>match b7D n ks a with|true=>b7D n ks b|false=>false
 | .bad=>false
 |_=>true
def b7D (n:Nat) (ks:List Nat):List D→Bool
 | []=>true
 |x::l=>match inK n ks x with|true=>b7D n ks l|false=>false
end
def c2U (n:Nat) (ks:List Nat):List (Nat×D)→Bool
 | []=>true
 |(_,x)::T=>match inK n ks x with|true=>c2U n ks T|false=>false
def b4M (n:Nat) (ks:List Nat):List D→Bool
 | []=>true
 | .bad::l=>b4M n ks l
 |x::l=>match inK n ks x,a4W x with|true,true=>b4M n ks l|_,_=>false
def b9V (n:Nat) (ks:List Nat):Hy→Bool
 | []=>true
 |(k, .blk cs _)::H=>match Nat.blt k n,b4M n ks cs with|true,true=>b9V n ks H|_,_=>false
 |(_, .row _ _ _ _)::H=>b9V n ks H
def a0U:Hy→List Nat
 | []=> []
 |(k,_)::H=>k::a0U H
def ltY (n:Nat):Hy→Bool
 | []=>true
 |(k,_)::H=>match Nat.blt k n with|true=>ltY n H|false=>false
def b1g (n:Nat) (st:Sy):Bool:=match ndB (a0U st.H),ltY st.nk st.H,c2U n (a0U st.H) st.T,b9V n (a0U st.H) st.H with|true,true,true,true=>true|_,_,_,_=>false
def a9H:List D→List D→Prop
 | [], []=>True
 |_::l, .bad::r=>a9H l r
 |x::l,y::r=>leD x y∧a9H l r
 |_,_=>False
def b1v (n:Nat) (T:List (Nat×D)):List (Nat×D)→Prop
 | []=>True
 |(d,s)::r=>(∃y,w8 T d=some y∧leD y (back n s))∧b1v n T r
def b7Q (n:Nat) (H:Hy) (k:Nat):E→Prop
 | .blk cs ty=>∃cs0,o4 H k=some (.blk cs0 ty)∧a9H cs0 (a2J n cs)
 | .row z m l ty=>match Nat.blt k n with
  |true=>∃m0 l0,o4 H k=some (.row z m0 l0 ty)∧m0=m∧l0=l
  |false=>m=0∧l= []
def b3g (n:Nat) (H:Hy):Hy→Prop
 | []=>True
 |(k,e)::r=>b7Q n H k e∧b3g n H r
structure c4h (st st':Sy):Prop where
 ex:∃n,b1g n st'=true∧b1v n st.T st'.T∧b3g n st.H st'.H
structure i4 (st st':Sy):Prop where
 ex:∃ks st1,a5l ks st []=some (st1, [])∧c4h st1 st'
def a1x (X:Cy) (st:Sy):List ResultVar→Option (List D)
 | []=>some []
 | .tmp t::r=>match a9y st.T t,a1x X st r with
  |some .bad,_=>none
  |some s,some l=>some (s::l)
  |_,_=>none
 | .cell a t::r=>match K9 X.tt t,a9y st.T a,a1x X st r with
  |some i,some (.own k o),some l=>match o4 st.H k with
   |some (.blk cs _)=>match takeD i.n (dropD o cs)with
    |some c=>match mkD i.agg c with
     |some s=>some (s::l)
     |none=>none
    |none=>none
   |_=>none
  |_,_,_=>none
def a2H:Nat→List D→List (Nat×D)
 |_, []=> []
 |n,s::l=>(n,s)::a2H (n+1) l
def a0u {α:Type} (nt:Nat):List (Nat×α)→List (Nat×α)
 | []=> []
 |(d,x)::T=>match Nat.blt d nt with
  |true=>(Nat.add 1000000 d,x)::a0u nt T
  |false=>match Nat.blt d 1000000 with
   |true=>a0u nt T
   |false=>(Nat.add d nt,x)::a0u nt T
def Q9 {α:Type} (nt:Nat):List (Nat×α)→List (Nat×α)
 | []=> []
 |(d,x)::T=>match Nat.blt d 1000000 with
  |true=>Q9 nt T
  |false=>match Nat.blt d (Nat.add 1000000 nt)with
   |true=>(Nat.mod d 1000000,x)::Q9 nt T
   |false=>(Nat.sub d nt,x)::Q9 nt T
def b8G:List D→D
 | [x]=>x
 |l=> .tup l
def c0x (X X':Cy) (rs:List ResultVar) (dst:Option Nat) (K:Sy→Prop) (e:Exit) (st:Sy):Prop:=
 match e,st with
 | .normal,⟨T,H,nk⟩=>match a1x X' ⟨T,H,nk⟩ rs with
  |some l=>Y1 X ⟨Q9 X.nt T,H,nk⟩ dst (b8G l) K
  |none=>False
 | .ret,⟨T,H,nk⟩=>match a1x X' ⟨T,H,nk⟩ rs with
  |some l=>Y1 X ⟨Q9 X.nt T,H,nk⟩ dst (b8G l) K
  |none=>False
 |_,_=>False
def c2d (X:Cy) (c:Code) (st0:Sy) (K:Exit→Sy→Prop):Prop:=
 ∀(A:Nat→Prop) (w0:World) (bor:List Nat) (sv:List Value) (st:St) (a:Act) (w:World) (Q:Exit→Act→World→Prop),(∀b,(w0.heap.size≤b∨b∈bor)→A b)→Sim A st st0→Rel (cx { X with sv:=sv} w0 bor) st a w→
  (∀e st' sy' a' w',plain e→K e sy'→Sim A st' sy'→Lv (cx { X with sv:=sv} w0 bor) st.H w st' a' w'→Q e a' w')→c.wp X.P Q a w
structure O9 (X:Cy) (f:FuncId) (args:List D) (dst:Option Nat) (st:Sy) (K:Sy→Prop):Prop where
 ex:∃(nt:Nat) (pl:List (Nat×PT)) (ln un inl:List Nat) (fn:Func) (c:Code) (st0 st1:Sy),
  (X.P.funcs[f]?=some fn∧fn.body=some c∧nt=fn.ntmps∧Nat.ble nt 1000000=true∧Nat.ble args.length nt=true)∧
  i4 ⟨a2H 0 args++a0u X.nt st.T,st.H,st.nk⟩ st0∧c2d ⟨X.P,X.tt,nt,pl,ln,un, [],inl, []⟩ c st0 (c0x X ⟨X.P,X.tt,nt,pl,ln,un, [],inl, []⟩ fn.results.toList dst fun sy=>i4 sy st1)∧K st1
structure a8V (P:Program) (seq:Bool) (f:FuncId) (fa:List D) (st st':Sy) (K:Sy→D→Prop):Prop where
 ex:∃Q,l8 P f fa Q∧∀r,Q r→match a4S r,seq with
  |true,_=>K st r
  |false,true=>K st' r
  |false,false=>False
structure a5u (P:Program) (f:FuncId) (args:List D) (st:Sy) (K:Sy→D→Prop):Prop where
 ex:∃Q,l8 P f args Q∧∀r,Q r→K st r
def a8W (ok:Nat→Prop) (w:World) (z n:Nat) (l:List D) (ty:TypeId) (v:Value):Prop:=
 ∃xs,w.ownsRow 0 ty z v n xs∧j3 ok w l xs∧D3 l=true∧l.length=n*z
def b0x (P:Program) (f:FuncId) (args:List D) (z n:Nat) (l:List D) (ty:TypeId):Prop:=
 ∀(ok:Nat→Prop) (w:World) (vs:List Value),j3 ok w args vs→(∀b,ok b→b<w.heap.size)→
  Calls P f vs.toArray w fun e w'=>∃v,e= .returned v∧(∀b,b∈q9 v→w.heap.size≤b)∧a8W (fun b=>(ok b∨(w.heap.size≤b∧b<w'.heap.size))∧b∉q9 v) w' z n l ty v∧Below w.heap.size w w'
def b2z (P:Program) (f:FuncId) (z n:Nat) (l:List D) (ty:TypeId) (args:List D) (z' n':Nat) (l':List D):Prop:=
 ∀(ok:Nat→Prop) (w:World) (v:Value) (vs:List Value),a8W ok w z n l ty v→(∀b,b∈q9 v→¬ok b)→j3 ok w args vs→(∀b,ok b→b<w.heap.size)→
  Calls P f (v::vs).toArray w fun e w'=>∃v',e= .returned v'∧(∀b,b∈q9 v'→b∈q9 v∨w.heap.size≤b)∧
   a8W (fun b=>(ok b∨b∈q9 v∨(w.heap.size≤b∧b<w'.heap.size))∧b∉q9 v') w' z' n' l' ty v'∧Fx (q9 v) w w'
structure b1O (P:Program) (f:FuncId) (args:List D) (st:Sy) (K:Sy→D→Prop):Prop where
 ex:∃z n l ty,b0x P f args z n l ty∧K ⟨st.T,(st.nk, .row z n l ty)::st.H,st.nk+1⟩ (.row st.nk z)
def Y5 (ok:Nat→Prop) (w:World) (rv:List Value):List D→List Value→Prop
 | [], []=>True
 | .row i _::l,y::r=>rv[i]?=some y∧Y5 ok w rv l r
 |d::l,y::r=>Rep ok w d y∧Y5 ok w rv l r
 |_,_=>False
def a3p (ok:Nat→Prop) (w:World):List (Nat×Nat×List D×TypeId)→List Value→Prop
 | [], []=>True
 |(z,n,l,ty)::rs,v::vs=>a8W ok w z n l ty v∧a3p ok w rs vs
 |_,_=>False
def b8v (P:Program) (f:FuncId) (args:List D) (rows:List (Nat×Nat×List D×TypeId)) (cells:List D):Prop:=
 D3 cells=true∧∀(ok:Nat→Prop) (w:World) (vs:List Value),j3 ok w args vs→(∀b,ok b→b<w.heap.size)→
  Calls P f vs.toArray w fun e w'=>∃(a rv:List Value),e= .returned (.agg a.toArray)∧(∀b,b∈rv.flatMap q9→w.heap.size≤b∧b<w'.heap.size)∧(rv.flatMap q9).Nodup∧
   a3p (fun b=>(ok b∨(w.heap.size≤b∧b<w'.heap.size))∧b∉rv.flatMap q9) w' rows rv∧Y5 (fun b=>(ok b∨(w.heap.size≤b∧b<w'.heap.size))∧b∉rv.flatMap q9) w' rv cells a∧Below w.heap.size w w'
def b6h:Nat→List (Nat×Nat×List D×TypeId)→Hy→Hy
 |_, [],H=>H
 |k,(z,n,l,ty)::rs,H=>b6h (k+1) rs ((k, .row z n l ty)::H)
def shC (nk:Nat):List D→List D
 | []=> []
 | .row i z::l=> .row (nk+i) z::shC nk l
 |d::l=>d::shC nk l
structure a7N (P:Program) (f:FuncId) (args:List D) (st:Sy) (K:Sy→D→Prop):Prop where
 ex:∃rows cells,b8v P f args rows cells∧K ⟨st.T,b6h st.nk rows st.H,st.nk+rows.length⟩ (.agg (shC st.nk cells))
structure b1D (P:Program) (f:FuncId) (k:Nat) (e:E) (fa:List D) (st:Sy) (K:Sy→D→Prop):Prop where
 ex:∃z n l ty z' n' l',e= .row z n l ty∧b2z P f z n l ty fa z' n' l'∧b4T (a4U k st.H) k (.row z' n' l' ty) fun H'=>a8h k st.T fun T'=>K ⟨T',H',st.nk⟩ (.row k z')
def c0f (P:Program) (f:FuncId) (z n:Nat) (l:List D) (ty:TypeId) (args:List D) (n':Nat) (l':List D):Prop:=
 n'=n∧∀(ok:Nat→Prop) (w:World) (v:Value) (vs:List Value),a8W ok w z n l ty v→(∀b,b∈q9 v→¬ok b)→j3 ok w args vs→(∀b,ok b→b<w.heap.size)→
  Calls P f (v::vs).toArray w fun e w'=>e= .returned (.tuple #[])∧a8W (fun b=>ok b∧b∉q9 v) w' z n l' ty v∧Fx (q9 v) w w'
structure c0G (P:Program) (f:FuncId) (k:Nat) (e:E) (fa:List D) (st:Sy) (K:Sy→D→Prop):Prop where
 ex:∃z n l ty n' l',e= .row z n l ty∧c0f P f z n l ty fa n' l'∧b4T st.H k (.row z n' l' ty) fun H'=>K ⟨st.T,H',st.nk⟩ (.tup [])
def b0p (X:Cy) (seq:Bool) (f:FuncId) (args:List D) (st:Sy) (K:Sy→D→Prop):Prop:=
 match R8 f X.ln,R8 f X.un with
 |true,_=>match seq,args with
  |true,x::rest=>match a5l (b8y st.H rest) st (x::rest)with
   |some (st', .row k _::fa)=>match V9 fa,o4 st'.H k with
    |true,some e=>b1D X.P f k e fa st' K∨c0G X.P f k e fa st' K
    |_,_=>False
   |_=>False
  |_,_=>False
 |false,true=>match seq,V9 args with
  |true,true=>b1O X.P f args st K∨a7N X.P f args st K
  |_,_=>False
 |false,false=>match V9 args with
  |true=>a5u X.P f args st K
  |false=>match a5l (b8y st.H args) st args with
   |some (st',fa)=>match V9 fa with
    |true=>a8V X.P seq f fa st st' K
    |false=>False
   |none=>False
def c0Q (st:Sy) (esz:Nat) (x:D) (K:Nat→List D→Prop):Prop:=
 match x with
 | .osl k o z n _=>match Nat.beq z esz,o4 st.H k with
  |true,some (.blk cs _)=>match takeD (n*z) (dropD o cs)with
   |some l=>match Z7 l with|true=>K n l|false=>False
   |none=>False
  |true,some (.row z' N r _)=>match Nat.beq z' z with
   |true=>(n=0∨o+n*z≤N*z)∧K n ((r.drop o).take (n*z))
   |false=>False
  |_,_=>False
 | .row k _=>match o4 st.H k with
  |some (.row z n l _)=>match Nat.beq z esz with|true=>K n l|false=>False
  |_=>False
 | .v (.slice none 0 0)=>K 0 []
 | .lst z n l=>match Nat.beq z esz with|true=>K n l|false=>False
 |_=>False
def c3Y (e esz bytes:Nat) (s x:D) (st:Sy) (K:Sy→D→Prop):Prop:=
 match Nat.ble 1 esz with
 |false=>False
 |true=>c0Q st esz x fun m l=>match s,st with
  | .v (.slice none 0 0),⟨T,H,nk⟩=>(m*bytes≤140737488355328∧m≤9223372036854775807)∧∃r' n',(l=r'∧m=n')∧K ⟨T,(nk, .row esz n' r' e)::H,nk+1⟩ (.row nk esz)
  | .row k _,⟨T,H,nk⟩=>match o4 H k with
   |some (.row z n r ty)=>match Nat.beq z esz,Nat.beq ty e with
    |true,true=>((n+m)*bytes≤140737488355328∧n+m≤9223372036854775807)∧∃r' n',(r++l=r'∧n+m=n')∧b4T (a4U k H) k (.row esz n' r' e) fun H'=>a8h k T fun T'=>K ⟨T',H',nk⟩ (.row k esz)
    |_,_=>False
   |_=>False
  | .osl k o z0 n c,⟨T,H,nk⟩=>match Nat.beq o 0,Nat.beq c 0,Nat.beq z0 esz,o4 H k with
   |true,true,true,some (.row z N r ty)=>match Nat.beq z esz,Nat.beq ty e with
    |true,true=>(0<N∧n≤N∧(n+m)*bytes≤140737488355328∧n+m≤9223372036854775807)∧∃r' n',(r.take (n*z)++l=r'∧n+m=n')∧b4T (a4U k H) k (.row esz n' r' e) fun H'=>a8h k T fun T'=>K ⟨T',H',nk⟩ (.row k esz)
    |_,_=>False
   |_,_,_,_=>False
  |_,_=>False
def a6n (X:Cy) (seq:Bool) (st:Sy) (dst:Option Nat) (K:Sy→Prop) (o:a6r):Prop:=
 match o with
 | .val s=>Y1 X st dst s K
 | .new cs ty sl=>match st with
  |⟨T,H,nk⟩=>Y1 X ⟨T,(nk, .blk cs ty)::H,nk+1⟩ dst (match sl with|none=> .own nk 0|some (z,n)=> .osl nk 0 z n n) K
 | .newR l ty z n=>match st with
  |⟨T,H,nk⟩=>Y1 X ⟨T,(nk, .row z n l ty)::H,nk+1⟩ dst (.row nk z) K
 | .call f args=>match R8 f X.inl with
  |true=>match seq with
   |true=>O9 X f args dst st K
   |false=>False
  |false=>b0p X seq f args st fun st' s=>Y1 X st' dst s K
 | .upd k cs=>match st,o4 st.H k with
  |⟨T,H,nk⟩,some (.blk _ ty)=>b4T H k (.blk cs ty) fun H'=>Y1 X ⟨T,H',nk⟩ dst .und K
  |_,_=>False
 | .updR k l=>match st,o4 st.H k with
  |⟨T,H,nk⟩,some (.row z n _ ty)=>b4T H k (.row z n l ty) fun H'=>Y1 X ⟨T,H',nk⟩ dst .und K
  |_,_=>False
 | .app e esz bytes s x=>c3Y e esz bytes s x st fun st' s=>Y1 X st' dst s K
def a2M (ops:List Oper) (g:Option (Nat×Bool)) (st:Sy) (yes no:Sy→Prop):Prop:=
 match g with
 |none=>yes st
 |some (j,want)=>match b1T ops j with
  |some d=>match a9y st.T d with
   |some (.v (.bool b))=>match st with
    |⟨T,H,nk⟩=>VIf b
     (match want with|true=>yes ⟨(d, .v (.bool true))::T,H,nk⟩|false=>no ⟨(d, .v (.bool true))::T,H,nk⟩)
     (match want with|true=>no ⟨(d, .v (.bool false))::T,H,nk⟩|false=>yes ⟨(d, .v (.bool false))::T,H,nk⟩)
   |some .und=>no st
   |_=>False
  |none=>False
def b4S (X:Cy) (ops:List Oper):List Oper→Sy→(Sy→Prop)→Prop
 | [],st,K=>K st
 |o::rest,st,K=>a2M ops o.guard st
  (fun st=>y1 X st o.op (a6n X true st o.dst fun st=>b4S X ops rest st K))
  (fun st=>Y1 X st o.dst .und fun st=>b4S X ops rest st K)
def c5X:D→Option Nat
 | .own k _=>some k
 | .ownx k _=>some k
 | .elr k _ _ _=>some k
 |_=>none
def b1K:a6r→Option Nat
 | .upd k _=>some k
 | .updR k _=>some k
 | .app _ _ _ (.row k _) _=>some k
 | .app _ _ _ (.osl k _ _ _ _) _=>some k
 |_=>none
def rdY (fl:Bool) (i:Nat) (op:Op) (st:Sy) (pr:List (Nat×Option Nat)) (K:List (Nat×Option Nat)→Prop):Prop:=
 match op with
 | .load _ p=>match evY st p with
  |some s=>match c5X s with
   |some k=>K ((i,some k)::pr)
   |none=>match s with
    | .ptr _ _=>K ((i,none)::pr)
    |_=>False
  |none=>False
 | .lookup _ _ _ _=>False
 |_=>K pr
def b5N (X:Cy) (i:Nat) (S:List Nat) (fl:Bool) (pr:List (Nat×Option Nat)) (o:Oper) (st:Sy) (K:Sy→List (Nat×Option Nat)→Prop) (out:a6r):Prop:=
 match a6S o with
 |true=>(match out with| .val s=>rdY fl i o.op st pr fun pr=>Y1 X st o.dst s fun st=>K st pr|_=>False)
 |false=>match G8 o with
  |true=>(match out with| .new _ _ none=>a6n X false st o.dst (fun st=>K st pr) out| .newR _ _ _ _=>a6n X false st o.dst (fun st=>K st pr) out|_=>False)
  |false=>match a1Q o with
   |true=>(match out with| .call _ _=>a6n X false st o.dst (fun st=>K st pr) out|_=>False)
   |false=>(match out with
    | .call _ _=>False
    |out=>match b1K out with
     |some k=>match b5Z pr S k with|true=>a6n X false st o.dst (fun st=>K st pr) out|false=>False
     |none=>a6n X false st o.dst (fun st=>K st pr) out)
def b5j (X:Cy) (S:List Nat) (st:Sy) (dst:Option Nat) (K:Sy→Prop) (o:a6r):Prop:=
 match S with
 | []=>a6n X true st dst K o
 |_::_=>match o with
  | .call f args=>match R8 f X.inl,R8 f X.ln with
   |false,false=>b0p X true f args st fun st' s=>Y1 X st' dst s K
   |_,_=>False
  |_=>False
def b3o (X:Cy) (ops:List Oper) (rest:PT) (i:Nat) (S:List Nat) (fl:Bool) (pr:List (Nat×Option Nat)) (o:Oper) (st:Sy) (K:Sy→List (Nat×Option Nat)→Prop):Prop:=
 match a1Q o,fl with
 |true,true=>y1 X st o.op (b5j X S st o.dst fun st=>match st with|⟨T,H,nk⟩=>K ⟨a2I .bad ops (b4p rest) T,H,nk⟩ pr)
 |_,_=>y1 X st o.op (b5N X i S fl pr o st K)
def a6d (X:Cy) (ops:List Oper):PT→Sy→List (Nat×Option Nat)→(Sy→Prop)→Prop
 | .nil,st,_,K=>K st
 | .op i S fl rest,st,pr,K=>match b2W ops i with
  |some o=>a2M ops o.guard st
   (fun st=>b3o X ops rest i S fl pr o st fun st pr=>a6d X ops rest st pr K)
   (fun st=>Y1 X st o.dst .und fun st=>a6d X ops rest st pr K)
  |none=>False
 | .fork a b,st,pr,K=>a6d X ops a st pr K∧a6d X ops b st pr K
def a7a:List Oper→List (Nat×D)→List (Nat×D)
 | [],T=>T
 |o::l,T=>match G8 o,o.dst with
  |true,some d=>(d, .bad)::a7a l T
  |_,_=>a7a l T
structure z7 (body:Sy→(Exit→Sy→Prop)→Prop) (st:Sy) (K:Exit→Sy→Prop):Prop where
 ex:∃(α:Type) (f:α→Sy) (inv:α→Prop) (μ:α→Nat),
  (∃x,i4 st (f x)∧inv x)∧
  ∀x,inv x→body (f x) fun e st2=>match e with
   | .normal=>∃y,i4 st2 (f y)∧inv y∧μ y<μ x
   |e=>K e st2
def U8 (X:Cy):Code→Sy→(Exit→Sy→Prop)→Prop
 | .skip,st,K=>K .normal st
 | .region id ops draw,st,K=>match draw with
  |false=>b4S X ops.toList ops.toList st (K .normal)
  |true=>match b6T X.pl id with
   |some p=>a6t X.tt X.nt ops p=true∧(match st with|⟨T,H,nk⟩=>a6d X ops.toList p ⟨a7a ops.toList T,H,nk⟩ [] (K .normal))
   |none=>False
 | .seq a b,st,K=>U8 X a st fun e st'=>match e with
  | .normal=>U8 X b st' K
  |e=>K e st'
 | .cond c t e,st,K=>match evY st c with
  |some (.v (.bool b))=>VIf b (U8 X t st K) (U8 X e st K)
  |_=>False
 | .block id c,st,K=>U8 X c st fun e st'=>match e with
  | .exit j=>match Nat.beq j id with
   |true=>K .normal st'
   |false=>K (.exit j) st'
  |e=>K e st'
 | .loop c,st,K=>z7 (U8 X c) st K
 | .exit id,st,K=>K (.exit id) st
 | .ret,st,K=>K .ret st
 | .scope c,st,K=>U8 X c st K
 | .label _,st,K=>K .normal st
 |_,_,_=>False
structure j2 (r:D) (Q:D→Prop):Prop where
 ex:∃r',leD r r'∧Q r'
def a3m (st:Sy) (r:D) (Q:D→Prop):Prop:=
 match a0R r with
 |true=>j2 r Q
 |false=>match a5l (b8y st.H [r]) st [r]with
  |some (_, [r'])=>match a0R r' with
   |true=>j2 r' Q
   |false=>False
  |_=>False
def b9O (X:Cy) (rs:List ResultVar) (Q:D→Prop) (e:Exit) (st:Sy):Prop:=
 match e with
 | .normal=>match a1x X st rs with
  |some [s]=>a3m st s Q
  |some l=>a3m st (.tup l) Q
  |none=>False
 | .ret=>match a1x X st rs with
  |some [s]=>a3m st s Q
  |some l=>a3m st (.tup l) Q
  |none=>False
 |_=>False
end Go.Sx
namespace Go.Sx
open Go Go.RowKit
mutual
theorem i0.mentE {ok:Nat→Prop} {w:World} {R:Bool→Nat→Prop} (k:Nat):∀(d:D) (s:SV),i0 ok w R d s→ment k s=a3D k d
 | .v x,s,h=>by simp only [i0]at h;rw [h.1];rfl
 | .agg l,s,h=>by
  simp only [i0]at h
  obtain⟨cs,h1,h2,_⟩:=h
  have:=d8.mentE k l _ h2
  cases s<;>simp [a4B]at h1
  · rename_i x;cases x<;>simp at h1
    subst h1;rw [b0R]at this;simp only [a3D,←this];rfl
  · subst h1;simpa [ment,a3D]using this
 | .lst z n l,s,h=>by simp only [i0]at h;obtain⟨y,rfl,_⟩:=h;rfl
 | .ptr l o,s,h=>by simp only [i0]at h;obtain⟨y,rfl,_⟩:=h;rfl
 | .own j o,s,h=>by simp only [i0]at h;rw [h.1];rfl
 | .ownx j o,s,h=>by simp only [i0]at h;rw [h.1];rfl
 | .row j z,s,h=>by simp only [i0]at h;rw [h.1];rfl
 | .elr j z i o,s,h=>by simp only [i0]at h;rw [h.1];rfl
 | .osl j o z n c,s,h=>by simp only [i0]at h;rw [h.1];rfl
 | .tup l,s,h=>by
  simp only [i0]at h
  rcases h with⟨cs,rfl,h2⟩|⟨a,rfl,h2⟩
  · have:=d8.mentE k l _ h2;simpa [ment,a3D]using this
  · have:=d8.mentE k l _ h2;rw [b0R]at this;simp only [a3D,←this];rfl
 | .fn f a b,s,h=>by
  simp only [i0]at h
  rcases h with⟨p,q,rfl,h2,h3⟩|⟨p,q,rfl,h2,h3⟩
  · have e1:=d8.mentE k a _ h2;have e2:=d8.mentE k b _ h3
    simp only [ment,a3D,e1,e2];cases a6C k a<;>rfl
  · have e1:=d8.mentE k a _ h2;have e2:=d8.mentE k b _ h3
    rw [b0R]at e1 e2
    simp only [a3D,←e1,←e2];rfl
 | .mp l,s,h=>by simp only [i0]at h;obtain⟨y,rfl,_⟩:=h;rfl
 | .und,s,h=>by simp only [i0]at h;rw [h];rfl
 | .bad,s,h=>by simp only [i0]at h;rw [h];rfl
theorem d8.mentE {ok:Nat→Prop} {w:World} {R:Bool→Nat→Prop} (k:Nat):∀(l:List D) (r:List SV),d8 ok w R l r→O8 k r=a6C k l
 | [], [],_=>rfl
 |d::l,y::r,h=>by
  simp only [d8]at h;simp only [O8,a6C,i0.mentE k d y h.1,d8.mentE k l r h.2];cases a3D k d<;>rfl
 | [],_::_,h=>by simp [d8]at h
 |_::_, [],h=>by simp [d8]at h
end
theorem b2e {ok:Nat→Prop} {w:World} {R:Bool→Nat→Prop} {k:Nat} {l:List D} {r:List SV} (h:d8 ok w R l r):d8 ok w R (b6C k l) (b0A k r):=by
 induction l generalizing r with
 |nil=>cases r with
  |nil=>trivial
  |cons=>simp [d8]at h
 |cons d l ih=>cases r with
  |nil=>simp [d8]at h
  |cons s r=>
   simp only [d8]at h
   refine⟨?_,ih h.2⟩
   simp only [a9o,a9A,h.1.mentE k]
   cases a3D k d
   · exact h.1
   · simp only [i0]
theorem b1N {k:Nat} {T:List (Nat×SV)} {d:Nat} {s:SV} (h:C6 T d=some s):C6 (a1w k T) d=some (a9A k s):=by
 induction T with
 |nil=>simp [C6]at h
 |cons x T ih=>
  obtain⟨d',s'⟩:=x
  simp only [C6,a1w]at h⊢
  split at h
  · cases h;rfl
  · exact ih h
def a5X (k:Nat):List (Nat×D)→List (Nat×D)
 | []=> []
 |(d,s)::T=>(d,a9o k s)::a5X k T
theorem a9B {k:Nat} {T:List (Nat×D)} {K:List (Nat×D)→Prop}:a8h k T K=K (a5X k T):=by
 induction T generalizing K with
 |nil=>rfl
 |cons x T ih=>
  obtain⟨d,s⟩:=x
  simp only [a8h,a5X,a9o]
  split<;>rw [ih]
theorem b1X {k:Nat} {T:List (Nat×D)} {d:Nat} {x:D} (h:w8 (a5X k T) d=some x):∃y,w8 T d=some y∧x=a9o k y:=by
 induction T with
 |nil=>simp [w8,a5X]at h
 |cons q T ih=>
  obtain⟨d',s'⟩:=q
  simp only [w8,a5X]at h⊢
  split at h
  · cases h;exact⟨_,rfl,rfl⟩
  · exact ih h
theorem b0r {j k:Nat} {T:List (Nat×SV)} (h:B0 j T=true):B0 j (a1w k T)=true:=by
 induction T with
 |nil=>rfl
 |cons x T ih=>
  obtain⟨d,s⟩:=x
  simp only [B0,a1w]at h⊢
  split at h
  · cases h
  · rename_i hm
    have:ment j (a9A k s)=false:=by unfold a9A;split;rfl;exact hm
    rw [this];exact ih h
theorem b6w {j k:Nat} {l:List SV} (h:O8 j l=false):O8 j (b0A k l)=false:=by
 induction l with
 |nil=>rfl
 |cons s l ih=>
  simp only [O8,b0A]at h⊢
  split at h
  · cases h
  · rename_i hm
    have:ment j (a9A k s)=false:=by unfold a9A;split;rfl;exact hm
    rw [this];exact ih h
theorem b0f {j k:Nat} {H:Hp} (h:I2 j H=true):I2 j (E4 k H)=true:=by
 induction H with
 |nil=>rfl
 |cons x H ih=>
  obtain⟨i,e⟩:=x
  cases e with
  |blk b cs ty=>
   simp only [I2,E4,a1A]at h⊢
   split at h
   · cases h
   · rename_i hm
     rw [b6w hm];exact ih h
  |row v n xs sz ty=>simp only [I2,E4,a1A]at h⊢;exact ih h
def a1u:Hp→Nat→Ent→Hp
 | [],_,_=> []
 |(k',e')::H,k,e=>match Nat.beq k' k with|true=>(k',e)::H|false=>(k',e')::a1u H k e
def b0E:Hy→Nat→E→Hy
 | [],_,_=> []
 |(k',e')::H,k,e=>match Nat.beq k' k with|true=>(k',e)::H|false=>(k',e')::b0E H k e
theorem a5B {H:Hp} {k:Nat} {e e0:Ent} {K:Hp→Prop} (h:i6 H k=some e0) (hK:K (a1u H k e)):a8E H k e K:=by
 induction H generalizing K with
 |nil=>simp [i6]at h
 |cons x H ih=>
  obtain⟨k',e'⟩:=x
  simp only [i6,a8E,a1u]at h hK⊢
  split
  · rename_i hb;rw [hb]at hK;exact hK
  · rename_i hb;rw [hb]at hK h;exact ih h hK
theorem a3S {H:Hy} {k:Nat} {e:E} {K:Hy→Prop} (h:b4T H k e K):K (b0E H k e):=by
 induction H generalizing K with
 |nil=>exact h.elim
 |cons x H ih=>
  obtain⟨k',e'⟩:=x
  simp only [b4T,b0E]at h⊢
  split at h
  · rename_i hb
    try rw [hb]
    exact h
  · rename_i hb
    try rw [hb]
    exact ih h
theorem a1p {H:Hp} {k j:Nat} {e e0:Ent} (h:i6 H k=some e0):i6 (a1u H k e) j=if j=k then some e else i6 H j:=by
 induction H with
 |nil=>simp [i6]at h
 |cons x H ih=>
  obtain⟨k',e'⟩:=x
  simp only [i6,a1u]at h⊢
  cases hb:Nat.beq k' k with
  |true=>
   have:=B9 hb;subst this
   simp only [i6]
   by_cases hj:j=k'
   · subst hj;simp
   · rw [if_neg hj,a0c (Ne.symm hj)]
  |false=>
   rw [hb]at h
   simp only [i6]
   by_cases hj:j=k
   · subst hj;rw [hb];simp only;rw [ih h];simp
   · cases hb2:Nat.beq k' j with
     |true=>simp [hj]
     |false=>simp only;rw [ih h]
theorem a9C {H:Hy} {k j:Nat} {e x:E} (h:o4 (b0E H k e) j=some x):(j=k∧x=e)∨(j≠k∧o4 H j=some x):=by
 induction H with
 |nil=>simp [o4,b0E]at h
 |cons q H ih=>
  obtain⟨k',e'⟩:=q
  simp only [b0E]at h
  cases hb:Nat.beq k' k with
  |true=>
   have:=B9 hb;subst this
   rw [hb]at h
   simp only [o4]at h⊢
   cases hb2:Nat.beq k' j with
   |true=>rw [hb2]at h;cases h;exact .inl ⟨(B9 hb2).symm,rfl⟩
   |false=>rw [hb2]at h;exact .inr ⟨fun e=>a2Y hb2 e.symm,h⟩
  |false=>
   rw [hb]at h
   simp only [o4]at h⊢
   cases hb2:Nat.beq k' j with
   |true=>rw [hb2]at h;cases h;exact .inr ⟨fun e=>by subst e;exact a2Y hb (B9 hb2),rfl⟩
   |false=>rw [hb2]at h;exact ih h
theorem a9G {H:Hp} {k c:Nat} {e:Ent} (h:c∈bs (a1u H k e)):c∈bs H∨c∈bsE e:=by
 induction H with
 |nil=>simp [a1u,bs]at h
 |cons x H ih=>
  obtain⟨k',e'⟩:=x
  simp only [a1u]at h
  split at h
  · simp only [bs,List.mem_append]at h⊢
    rcases h with h|h
    · exact .inr h
    · exact .inl (.inr h)
  · simp only [bs,List.mem_append]at h⊢
    rcases h with h|h
    · exact .inl (.inl h)
    · rcases ih h with h|h
      · exact .inl (.inr h)
      · exact .inr h
def a5K (j:Nat):Ent→Bool
 | .blk _ cs _=> !O8 j cs
 | .row _ _ _ _ _=>true
theorem a0k {j k:Nat} {e:Ent} {H:Hp} (he:a5K j e=true) (h:I2 j H=true):I2 j ((k,e)::H)=true:=by
 cases e with
 |blk b cs ty=>simp only [a5K,Bool.not_eq_true']at he;simp only [I2,he];exact h
 |row v n xs sz ty=>exact h
theorem b6L {j k:Nat} {e:Ent} {H:Hp} (h:I2 j ((k,e)::H)=true):a5K j e=true∧I2 j H=true:=by
 cases e with
 |blk b cs ty=>
  simp only [I2]at h
  split at h
  · cases h
  · rename_i hm;exact⟨by simp [a5K,hm],h⟩
 |row v n xs sz ty=>exact⟨rfl,h⟩
theorem a8c {j k:Nat} {e:Ent} {H:Hp} (he:a5K j e=true) (h:I2 j H=true):I2 j (a1u H k e)=true:=by
 induction H with
 |nil=>rfl
 |cons x H ih=>
  obtain⟨k',e'⟩:=x
  obtain⟨h1,h2⟩:=b6L h
  simp only [a1u]
  split
  · exact a0k he h2
  · exact a0k h1 (ih h2)
theorem b1E {H:Hy} {k j:Nat} {x:E} (h:o4 (a4U k H) j=some x):∃y,o4 H j=some y∧x=b4r k y:=by
 induction H with
 |nil=>simp [o4,a4U]at h
 |cons q H ih=>
  obtain⟨k',e'⟩:=q
  simp only [o4,a4U]at h⊢
  split at h
  · cases h;exact⟨_,rfl,rfl⟩
  · exact ih h
section
variable {A : Nat → Prop} {X : Cy} {w0 : World} {bor : List Nat} {st : St} {sy : Sy} {KY : Sy → Prop}
theorem a8L {st:St} {j:Nat} (h:st.nk≤j) (q:Bool):¬D7 st q j:=fun hk=>by have:=hk.1;omega
theorem Sim.mono {st st':St} {T:List (Nat×D)} {H:Hy} {nk:Nat} (hs:Sim A st ⟨T,H,nk⟩) (hok:∀b,okS A st b→okS A st' b∧st'.w.heap[b]?=st.w.heap[b]?) (hk:∀q k,D7 st q k→D7 st' q k)
 (hT:∀d s,C6 st.T d=some s→C6 st'.T d=some s) (hH:∀k e,i6 st.H k=some e→i6 st'.H k=some e) (hn:st'.nk=st.nk) (fT:∀j,st'.nk≤j→B0 j st'.T=true) (fH:∀j,st'.nk≤j→I2 j st'.H=true):Sim A st' ⟨T,H,nk⟩:=by
 refine⟨fun d x hx=> ?_,fun k e he=> ?_,by rw [hn];exact hs.nk,fT,fH⟩
 · rcases hs.T d x hx with h|⟨s,h1,h2⟩
   · exact .inl h
   · exact .inr ⟨s,hT d s h1,i0.mono hok hk _ _ h2⟩
 · obtain⟨e',h1,h2⟩:=hs.H k e he
   refine⟨e',hH k e' h1, ?_⟩
   cases e<;>cases e'<;>simp only [a3z]at h2⊢
   · exact⟨h2.1,d8.mono hok hk _ _ h2.2⟩
   · exact⟨h2.1,h2.2.1,h2.2.2.1,j3.mono hok _ _ h2.2.2.2.1,h2.2.2.2.2⟩
theorem a3z.mono {ok ok':Nat→Prop} {w w':World} {R R':Bool→Nat→Prop} (hok:∀b,ok b→ok' b∧w'.heap[b]?=w.heap[b]?) (hk:∀q k,R q k→R' q k) {e:E} {e':Ent} (h:a3z ok w R e e'):a3z ok' w' R' e e':=by
 cases e<;>cases e'<;>simp only [a3z]at h⊢
 · exact⟨h.1,d8.mono hok hk _ _ h.2⟩
 · exact⟨h.1,h.2.1,h.2.2.1,j3.mono hok _ _ h.2.2.2.1,h.2.2.2.2⟩
theorem K8 {dst:Option Nat} {x:D} {s:SV} (h:Y1 X sy dst x KY) (hs:Sim A st sy) (hr:i0 (okS A st) st.w (D7 st) x s):put (cx X w0 bor) st dst s fun st'=>∃sy',KY sy'∧Sim A st' sy':=by
 unfold Y1 at h
 cases dst with
 |none=>exact⟨sy,h,hs⟩
 |some d=>
  obtain⟨T,H,nk⟩:=sy
  obtain⟨T',H',nk',w,lo,iv⟩:=st
  simp only at h
  simp only [put,cx]
  split at h
  · rename_i hd heq
    cases heq
    rw [hd]
    refine⟨_,h,fun d' x' hx'=> ?_,hs.H,hs.nk,fun j hj=> ?_,hs.fH⟩
    · simp only [w8]at hx'
      simp only [C6]
      cases hb:Nat.beq d d' with
      |true=>rw [hb]at hx';cases hx';exact .inr ⟨s,rfl,hr⟩
      |false=>rw [hb]at hx';exact hs.T d' x' hx'
    · simp only [B0,hr.ment (fun q=>a8L hj q)]
      exact hs.fT j hj
  · exact h.elim
theorem c2t {T:List (Nat×D)} {H:Hy} {nk:Nat} {T':List (Nat×SV)} {H':Hp} {nk':Nat} {w:World} {lo:Nat} {iv:List (Nat×Nat)} {b:Nat} {cs:List D} {cs':List SV} {ty:TypeId}
 (hs:Sim A ⟨T',H',nk',w,lo,iv⟩ ⟨T,H,nk⟩) (hr:d8 (okS A ⟨T',H',nk',w,lo,iv⟩) w (D7 ⟨T',H',nk',w,lo,iv⟩) cs cs') (hb:lo≤b) (hiv:a5x iv b):
 Sim A ⟨T',(nk', .blk b cs' ty)::H',nk'+1,w,lo,iv⟩ ⟨T,(nk, .blk cs ty)::H,nk+1⟩:=by
 have hnk:nk=nk':=hs.nk
 subst hnk
 have hok:∀c,okS A ⟨T',H',nk,w,lo,iv⟩ c→okS A ⟨T',(nk, .blk b cs' ty)::H',nk+1,w,lo,iv⟩ c∧w.heap[c]?=w.heap[c]?:=by
  intro c ⟨h1,h2,h3⟩
  refine⟨⟨h1,h2,fun x hx=> ?_⟩,rfl⟩
  simp only [bs,bsE,List.mem_append,List.mem_singleton]at hx
  rcases hx with rfl|hx
  · intro e;subst e
    rcases h1 with h1|⟨p,hp,h4,h5⟩
    · simp only at h1;omega
    · simp only at hp
      clear hr hs h2 h3
      induction iv with
      |nil=>cases hp
      |cons y l ih=>
       simp only [a5x]at hiv
       rcases List.mem_cons.1 hp with rfl|hp
       · omega
       · exact ih hiv.2 hp
  · exact h3 x hx
 have hk:∀q k,D7 ⟨T',H',nk,w,lo,iv⟩ q k→D7 ⟨T',(nk, .blk b cs' ty)::H',nk+1,w,lo,iv⟩ q k:=by
  intro q k ⟨h1,h2⟩
  simp only at h1
  refine⟨by simp only;omega,fun hq=> ?_⟩
  simp only
  rw [Y3 (by omega)]
  exact h2 hq
 refine⟨fun d x hx=> ?_,fun k e he=> ?_,rfl,fun j hj=>hs.fT j (by simp only at hj⊢;omega),fun j hj=> ?_⟩
 · rcases hs.T d x hx with h|⟨s,h1,h2⟩
   · exact .inl h
   · exact .inr ⟨s,h1,i0.mono hok hk _ _ h2⟩
 · simp only [o4]at he
   simp only [i6]
   cases hb:Nat.beq nk k with
   |true=>
    rw [hb]at he;cases he
    exact⟨_,rfl,by exact⟨rfl,d8.mono hok hk _ _ hr⟩⟩
   |false=>
    rw [hb]at he
    obtain⟨e',h1,h2⟩:=hs.H k e he
    exact⟨e',h1,a3z.mono hok hk h2⟩
 · simp only at hj
   refine a0k ?_ (hs.fH j (by simp only;omega))
   simp only [a5K,Bool.not_eq_true']
   exact d8.ment (fun q=>a8L (st:=⟨T',H',nk,w,lo,iv⟩) (by simp only;omega) q) _ _ hr
theorem c1T {T:List (Nat×D)} {H:Hy} {nk:Nat} {T':List (Nat×SV)} {H':Hp} {nk':Nat} {w:World} {lo:Nat} {iv:List (Nat×Nat)} {b:Nat} {l:List D} {xs:List Value} {z n:Nat} {ty:TypeId}
 (hs:Sim A ⟨T',H',nk',w,lo,iv⟩ ⟨T,H,nk⟩) (hr:j3 (okS A ⟨T',H',nk',w,lo,iv⟩) w l xs) (hfl:D3 l=true) (hlen:l.length=n*z) (hb:lo≤b) (hiv:a5x iv b):
 Sim A ⟨T',(nk', .row (.slice (some ⟨b,0,none⟩) n n) n xs z ty)::H',nk'+1,w,lo,iv⟩ ⟨T,(nk, .row z n l ty)::H,nk+1⟩:=by
 have hnk:nk=nk':=hs.nk
 subst hnk
 have hok:∀c,okS A ⟨T',H',nk,w,lo,iv⟩ c→okS A ⟨T',(nk, .row (.slice (some ⟨b,0,none⟩) n n) n xs z ty)::H',nk+1,w,lo,iv⟩ c∧w.heap[c]?=w.heap[c]?:=by
  intro c ⟨h1,h2,h3⟩
  refine⟨⟨h1,h2,fun x hx=> ?_⟩,rfl⟩
  simp only [bs,bsE,q9,List.mem_append,List.mem_singleton]at hx
  rcases hx with rfl|hx
  · intro e;subst e
    rcases h1 with h1|⟨p,hp,h4,h5⟩
    · simp only at h1;omega
    · simp only at hp
      clear hr hs h2 h3
      induction iv with
      |nil=>cases hp
      |cons y l ih=>
       simp only [a5x]at hiv
       rcases List.mem_cons.1 hp with rfl|hp
       · omega
       · exact ih hiv.2 hp
  · exact h3 x hx
 have hk:∀q k,D7 ⟨T',H',nk,w,lo,iv⟩ q k→D7 ⟨T',(nk, .row (.slice (some ⟨b,0,none⟩) n n) n xs z ty)::H',nk+1,w,lo,iv⟩ q k:=by
  intro q k ⟨h1,h2⟩
  simp only at h1
  refine⟨by simp only;omega,fun hq=> ?_⟩
  simp only
  rw [Y3 (by omega)]
  exact h2 hq
 refine⟨fun d x hx=> ?_,fun k e he=> ?_,rfl,fun j hj=>hs.fT j (by simp only at hj⊢;omega),fun j hj=> ?_⟩
 · rcases hs.T d x hx with h|⟨s,h1,h2⟩
   · exact .inl h
   · exact .inr ⟨s,h1,i0.mono hok hk _ _ h2⟩
 · simp only [o4]at he
   simp only [i6]
   cases hb:Nat.beq nk k with
   |true=>
    rw [hb]at he;cases he
    exact⟨_,rfl,by exact⟨rfl,rfl,rfl,j3.mono hok _ _ hr,hfl,hlen⟩⟩
   |false=>
    rw [hb]at he
    obtain⟨e',h1,h2⟩:=hs.H k e he
    exact⟨e',h1,a3z.mono hok hk h2⟩
 · simp only at hj
   exact a0k rfl (hs.fH j (by simp only;omega))
theorem b4t {T:List (Nat×D)} {H:Hy} {nk:Nat} {T':List (Nat×SV)} {H':Hp} {nk':Nat} {w:World} {lo:Nat} {iv:List (Nat×Nat)} {k:Nat} {e:E} {e0 e':Ent}
 (hs:Sim A ⟨T',H',nk',w,lo,iv⟩ ⟨T,H,nk⟩) (hf:i6 H' k=some e0) (hr:a3z (okS A ⟨T',H',nk',w,lo,iv⟩) w (D7 ⟨T',H',nk',w,lo,iv⟩) e e') (hb:bsE e'=bsE e0)
 (hrow:(∃v n xs sz ty,e0= .row v n xs sz ty)→∃v n xs sz ty,e'= .row v n xs sz ty) (hfe:∀j,nk'≤j→a5K j e'=true):
 Sim A ⟨T',a1u H' k e',nk',w,lo,iv⟩ ⟨T,b0E H k e,nk⟩:=by
 have hok:∀c,okS A ⟨T',H',nk',w,lo,iv⟩ c→okS A ⟨T',a1u H' k e',nk',w,lo,iv⟩ c∧w.heap[c]?=w.heap[c]?:=by
  intro c ⟨h1,h2,h3⟩
  refine⟨⟨h1,h2,fun x hx=> ?_⟩,rfl⟩
  rcases a9G hx with hx|hx
  · exact h3 x hx
  · rw [hb]at hx;exact h3 x (D0.2 ⟨k,e0,p0 hf,hx⟩)
 have hk:∀q j,D7 ⟨T',H',nk',w,lo,iv⟩ q j→D7 ⟨T',a1u H' k e',nk',w,lo,iv⟩ q j:=by
  intro q j ⟨h1,h2⟩
  refine⟨h1,fun hq=> ?_⟩
  simp only
  rw [a1p hf]
  obtain⟨v,n,xs,sz,ty,h3⟩:=h2 hq
  split
  · rename_i hjk
    subst hjk
    simp only at h3
    rw [hf]at h3;cases h3
    obtain⟨v,n,xs,sz,ty,rfl⟩:=hrow ⟨_,_,_,_,_,rfl⟩
    exact⟨_,_,_,_,_,rfl⟩
  · exact⟨_,_,_,_,_,h3⟩
 refine⟨fun d x hx=> ?_,fun j x hx=> ?_,hs.nk,hs.fT,fun j hj=>a8c (hfe j hj) (hs.fH j hj)⟩
 · rcases hs.T d x hx with h|⟨s,h1,h2⟩
   · exact .inl h
   · exact .inr ⟨s,h1,i0.mono hok hk _ _ h2⟩
 · simp only
   rw [a1p hf]
   rcases a9C hx with⟨rfl,rfl⟩|⟨hne,hx⟩
   · exact⟨e',by simp,a3z.mono hok hk hr⟩
   · obtain⟨e1,h1,h2⟩:=hs.H j x hx
     exact⟨e1,by rw [if_neg hne];exact h1,a3z.mono hok hk h2⟩
end
end Go.Sx
namespace Go.Sx
open Go Go.RowKit
section
variable {A : Nat → Prop} {X : Cy} {w0 : World} {bor : List Nat} {st : St} {sy : Sy} {KY : Sy → Prop}
theorem c1J {esz:Nat} {x:D} {s:SV} {Kn:Nat→List D→Prop} (h:c0Q sy esz x Kn) (hs:Sim A st sy) (hr:i0 (okS A st) st.w (D7 st) x s):
 ∃m l news,Kn m l∧a4n (cx X w0 bor) st esz s m news∧j3 (okS A st) st.w l news∧D3 l=true∧l.length=m*esz:=by
 unfold c0Q at h
 split at h
 · rename_i k o z n c
   simp only [i0]at hr
   obtain⟨rfl,_⟩:=hr
   split at h
   · rename_i cs ty hz hf
     obtain rfl:=B9 hz
     obtain⟨e',hf',he⟩:=hs.H _ _ hf
     cases e' with
     |row=>exact he.elim
     |blk b cs' ty'=>
      split at h
      · rename_i l hl
        split at h
        · rename_i hno
          obtain⟨r,h1,h2⟩:=(he.2.dropD o).takeD hl
          obtain⟨xs,rfl,h3⟩:=h2.vals hno
          refine⟨n,l,xs,h, ?_,h3,a7c hno,(b1U hl).1⟩
          simp only [a4n,hf']
          exact⟨trivial,vs xs,h1,h2.one (b3B st) (a7c hno),(O3 _ _).symm⟩
        · exact h.elim
      · exact h.elim
   · rename_i z' N r ty hz hf
     obtain rfl:=B9 hz
     obtain⟨e',hf',he⟩:=hs.H _ _ hf
     cases e' with
     |blk=>exact he.elim
     |row v n' xs z2 ty'=>
      obtain⟨rfl,rfl,rfl,hrep,hfl,hlen⟩:=he
      split at h
      · rename_i hzz
        obtain rfl:=B9 hzz
        obtain⟨hb,h⟩:=h
        refine⟨n,_,(xs.drop o).take (n*z'),h, ?_,(hrep.drop _).take _,a7k hfl fun d hd=>List.mem_of_mem_drop (List.mem_of_mem_take hd), ?_⟩
        · simp only [a4n,hf']
          exact⟨trivial,trivial,hb,trivial,hrep.one hfl⟩
        · rcases hb with rfl|hb
          · simp
          · simp only [List.length_take,List.length_drop];omega
      · exact h.elim
   · exact h.elim
 · rename_i k z0
   simp only [i0]at hr
   obtain⟨rfl,_⟩:=hr
   split at h
   · rename_i z n l ty hf
     obtain⟨e',hf',he⟩:=hs.H _ _ hf
     cases e' with
     |blk=>exact he.elim
     |row v n' xs z' ty'=>
      obtain⟨rfl,rfl,rfl,hrep,hfl,hlen⟩:=he
      split at h
      · rename_i hz
        obtain rfl:=B9 hz
        refine⟨n,l,xs,h, ?_,hrep,hfl,hlen⟩
        simp only [a4n,hf']
        exact⟨trivial,trivial,trivial,hrep.one hfl⟩
      · exact h.elim
   · exact h.elim
 · have:=hr.sc;subst this
   exact⟨0, [], [],h,by simp [a4n],trivial,rfl,by simp⟩
 · rename_i z n l
   simp only [i0,Rep]at hr
   obtain⟨y,rfl,a,c,rfl,hnc,hmx,hlen,hfl,hmem⟩:=hr
   split at h
   · rename_i hz
     obtain rfl:=B9 hz
     rcases hmem with rfl|⟨b,o,xs,rfl,hok,hrep,hcell⟩
     · have hn:n=0:=by omega
       subst hn
       have hl:l= []:=List.eq_nil_of_length_eq_zero (by simpa using hlen)
       subst hl
       refine⟨0, [], [],h, ?_,trivial,rfl,by simp⟩
       cases a with
       |none=>simp [a4n]
       |some ad=>obtain⟨b,o,sp⟩:=ad;simp [a4n]
     · refine⟨n,l,xs,h, ?_,hrep,hfl,hlen⟩
       simp only [a4n]
       have hxl:=hrep.length
       exact .inr ⟨trivial,trivial,hrep.one hfl,by omega, .inr ⟨hok.2.2,fun j hj=>hcell j hj⟩⟩
   · exact h.elim
 · exact h.elim
theorem b5q {T:List (Nat×D)} {H:Hy} {nk:Nat} {T':List (Nat×SV)} {H':Hp} {nk':Nat} {w w1:World} {lo lo1:Nat} {iv iv1:List (Nat×Nat)} {k:Nat} {e0:Ent} {v':Value} {n z:Nat} {l:List D} {xs:List Value} {ty:TypeId}
 (hs:Sim A ⟨T',H',nk',w,lo,iv⟩ ⟨T,H,nk⟩) (hf:i6 H' k=some e0) (hv:∀b,b∈q9 v'→b∈bs H'∨w.heap.size≤b) (hfx:Fx (bs H') w w1) (hlo:(lo1=w1.heap.size)∨(lo1=lo∧iv1=iv))
 (hrep:j3 (okS A ⟨T',H',nk',w,lo,iv⟩) w l xs) (hfl:D3 l=true) (hlen:l.length=n*z):
 Sim A ⟨a1w k T',a1u (E4 k H') k (.row v' n xs z ty),nk',w1,lo1,iv1⟩ ⟨a5X k T,b0E (a4U k H) k (.row z n l ty),nk⟩:=by
 have hf2:i6 (E4 k H') k=some (a1A k e0):=by rw [P9,hf];rfl
 have hok:∀c,okS A ⟨T',H',nk',w,lo,iv⟩ c→okS A ⟨a1w k T',a1u (E4 k H') k (.row v' n xs z ty),nk',w1,lo1,iv1⟩ c∧w1.heap[c]?=w.heap[c]?:=by
  intro c ⟨h1,h2,h3⟩
  refine⟨⟨⟨?_,h1.2⟩,Nat.lt_of_lt_of_le h2 hfx.size,fun x hx=> ?_⟩,hfx.block c h2 h3⟩
  · rcases hlo with rfl|⟨rfl,rfl⟩
    · exact .inl (Nat.lt_of_lt_of_le h2 hfx.size)
    · exact h1.1
  · rcases a9G hx with hx|hx
    · rw [a4R]at hx;exact h3 x hx
    · rcases hv x hx with hx|hx
      · exact h3 x hx
      · intro e;simp only at h2;omega
 have hk:∀q j,D7 ⟨T',H',nk',w,lo,iv⟩ q j→D7 ⟨a1w k T',a1u (E4 k H') k (.row v' n xs z ty),nk',w1,lo1,iv1⟩ q j:=by
  intro q j ⟨h1,h2⟩
  refine⟨h1,fun hq=> ?_⟩
  simp only
  rw [a1p hf2,P9]
  obtain⟨v,n,xs,sz,ty,h3⟩:=h2 hq
  split
  · exact⟨_,_,_,_,_,rfl⟩
  · simp only at h3;rw [h3];exact⟨_,_,_,_,_,rfl⟩
 refine⟨fun d x hx=> ?_,fun j x hx=> ?_,hs.nk,fun j hj=>b0r (hs.fT j hj),fun j hj=>a8c rfl (b0f (hs.fH j hj))⟩
 · obtain⟨y,hy,rfl⟩:=b1X hx
   rcases hs.T d y hy with h|⟨s,h1,h2⟩
   · subst h;exact .inl (by simp [a9o,a3D])
   · unfold a9o
     cases hm:a3D k y with
     |true=>exact .inl rfl
     |false=>
      refine .inr ⟨s, ?_,i0.mono hok hk _ _ h2⟩
      have:=b1N (k:=k) h1
      simp only [a9A,h2.mentE k,hm]at this
      exact this
 · simp only
   rw [a1p hf2,P9]
   rcases a9C hx with⟨rfl,rfl⟩|⟨hne,hx⟩
   · exact⟨.row v' n xs z ty,by simp,by exact⟨rfl,rfl,rfl,j3.mono hok _ _ hrep,hfl,hlen⟩⟩
   · obtain⟨y,hy,rfl⟩:=b1E hx
     obtain⟨e1,h1,h2⟩:=hs.H j y hy
     refine⟨a1A k e1,by rw [if_neg hne];simp only at h1;rw [h1];rfl, ?_⟩
     have h3:=a3z.mono hok hk h2
     cases y<;>cases e1<;>simp only [b4r,a1A,a3z]at h3⊢
     · exact⟨h3.1,b2e h3.2⟩
     · exact h3
theorem b7k {T:List (Nat×D)} {H:Hy} {nk:Nat} {T':List (Nat×SV)} {H':Hp} {nk':Nat} {w w1:World} {lo lo1:Nat} {iv iv1:List (Nat×Nat)} {v':Value} {n z:Nat} {l:List D} {xs:List Value} {ty:TypeId}
 (hs:Sim A ⟨T',H',nk',w,lo,iv⟩ ⟨T,H,nk⟩) (hv:∀b,b∈q9 v'→b∈bs H'∨w.heap.size≤b) (hfx:Fx (bs H') w w1) (hlo:(lo1=w1.heap.size)∨(lo1=lo∧iv1=iv))
 (hrep:j3 (okS A ⟨T',H',nk',w,lo,iv⟩) w l xs) (hfl:D3 l=true) (hlen:l.length=n*z):
 Sim A ⟨T',(nk', .row v' n xs z ty)::H',nk'+1,w1,lo1,iv1⟩ ⟨T,(nk, .row z n l ty)::H,nk+1⟩:=by
 have hnk:nk=nk':=hs.nk
 subst hnk
 have hok:∀c,okS A ⟨T',H',nk,w,lo,iv⟩ c→okS A ⟨T',(nk, .row v' n xs z ty)::H',nk+1,w1,lo1,iv1⟩ c∧w1.heap[c]?=w.heap[c]?:=by
  intro c ⟨h1,h2,h3⟩
  refine⟨⟨⟨?_,h1.2⟩,Nat.lt_of_lt_of_le h2 hfx.size,fun x hx=> ?_⟩,hfx.block c h2 h3⟩
  · rcases hlo with rfl|⟨rfl,rfl⟩
    · exact .inl (Nat.lt_of_lt_of_le h2 hfx.size)
    · exact h1.1
  · simp only [bs,bsE,List.mem_append]at hx
    rcases hx with hx|hx
    · rcases hv x hx with hx|hx
      · exact h3 x hx
      · intro e;simp only at h2;omega
    · exact h3 x hx
 have hk:∀q k,D7 ⟨T',H',nk,w,lo,iv⟩ q k→D7 ⟨T',(nk, .row v' n xs z ty)::H',nk+1,w1,lo1,iv1⟩ q k:=by
  intro q k ⟨h1,h2⟩
  simp only at h1
  refine⟨by simp only;omega,fun hq=> ?_⟩
  simp only
  rw [Y3 (by omega)]
  exact h2 hq
 refine⟨fun d x hx=> ?_,fun k e he=> ?_,rfl,fun j hj=>hs.fT j (by simp only at hj⊢;omega),fun j hj=>a0k rfl (hs.fH j (by simp only at hj⊢;omega))⟩
 · rcases hs.T d x hx with h|⟨s,h1,h2⟩
   · exact .inl h
   · exact .inr ⟨s,h1,i0.mono hok hk _ _ h2⟩
 · simp only [o4]at he
   simp only [i6]
   cases hb:Nat.beq nk k with
   |true=>
    rw [hb]at he;cases he
    exact⟨_,rfl,by exact⟨rfl,rfl,rfl,j3.mono hok _ _ hrep,hfl,hlen⟩⟩
   |false=>
    rw [hb]at he
    obtain⟨e',h1,h2⟩:=hs.H k e he
    exact⟨e',h1,a3z.mono hok hk h2⟩
theorem b8J {T:List (Nat×D)} {H:Hy} {nk:Nat} {T':List (Nat×SV)} {H':Hp} {nk':Nat} {w w1:World} {lo lo1:Nat} {iv iv1:List (Nat×Nat)} {k:Nat} {e0:Ent} {v':Value} {n z:Nat} {l:List D} {xs:List Value} {ty:TypeId}
 (hs:Sim A ⟨T',H',nk',w,lo,iv⟩ ⟨T,H,nk⟩) (hf:i6 H' k=some e0) (hv:∀b,b∈q9 v'→b∈bs H'∨w.heap.size≤b) (hfx:Fx (bs H') w w1) (hlo:(lo1=w1.heap.size)∨(lo1=lo∧iv1=iv))
 (hrep:j3 (okS A ⟨a1w k T',a1u (E4 k H') k (.row v' n xs z ty),nk',w1,lo1,iv1⟩) w1 l xs) (hfl:D3 l=true) (hlen:l.length=n*z):
 Sim A ⟨a1w k T',a1u (E4 k H') k (.row v' n xs z ty),nk',w1,lo1,iv1⟩ ⟨a5X k T,b0E (a4U k H) k (.row z n l ty),nk⟩:=by
 have hf2:i6 (E4 k H') k=some (a1A k e0):=by rw [P9,hf];rfl
 have hok:∀c,okS A ⟨T',H',nk',w,lo,iv⟩ c→okS A ⟨a1w k T',a1u (E4 k H') k (.row v' n xs z ty),nk',w1,lo1,iv1⟩ c∧w1.heap[c]?=w.heap[c]?:=by
  intro c ⟨h1,h2,h3⟩
  refine⟨⟨⟨?_,h1.2⟩,Nat.lt_of_lt_of_le h2 hfx.size,fun x hx=> ?_⟩,hfx.block c h2 h3⟩
  · rcases hlo with rfl|⟨rfl,rfl⟩
    · exact .inl (Nat.lt_of_lt_of_le h2 hfx.size)
    · exact h1.1
  · rcases a9G hx with hx|hx
    · rw [a4R]at hx;exact h3 x hx
    · rcases hv x hx with hx|hx
      · exact h3 x hx
      · intro e;simp only at h2;omega
 have hk:∀q j,D7 ⟨T',H',nk',w,lo,iv⟩ q j→D7 ⟨a1w k T',a1u (E4 k H') k (.row v' n xs z ty),nk',w1,lo1,iv1⟩ q j:=by
  intro q j ⟨h1,h2⟩
  refine⟨h1,fun hq=> ?_⟩
  simp only
  rw [a1p hf2,P9]
  obtain⟨v,n,xs,sz,ty,h3⟩:=h2 hq
  split
  · exact⟨_,_,_,_,_,rfl⟩
  · simp only at h3;rw [h3];exact⟨_,_,_,_,_,rfl⟩
 refine⟨fun d x hx=> ?_,fun j x hx=> ?_,hs.nk,fun j hj=>b0r (hs.fT j hj),fun j hj=>a8c rfl (b0f (hs.fH j hj))⟩
 · obtain⟨y,hy,rfl⟩:=b1X hx
   rcases hs.T d y hy with h|⟨s,h1,h2⟩
   · subst h;exact .inl (by simp [a9o,a3D])
   · unfold a9o
     cases hm:a3D k y with
     |true=>exact .inl rfl
     |false=>
      refine .inr ⟨s, ?_,i0.mono hok hk _ _ h2⟩
      have:=b1N (k:=k) h1
      simp only [a9A,h2.mentE k,hm]at this
      exact this
 · simp only
   rw [a1p hf2,P9]
   rcases a9C hx with⟨rfl,rfl⟩|⟨hne,hx⟩
   · exact⟨.row v' n xs z ty,by simp,by exact⟨rfl,rfl,rfl,hrep,hfl,hlen⟩⟩
   · obtain⟨y,hy,rfl⟩:=b1E hx
     obtain⟨e1,h1,h2⟩:=hs.H j y hy
     refine⟨a1A k e1,by rw [if_neg hne];simp only at h1;rw [h1];rfl, ?_⟩
     have h3:=a3z.mono hok hk h2
     cases y<;>cases e1<;>simp only [b4r,a1A,a3z]at h3⊢
     · exact⟨h3.1,b2e h3.2⟩
     · exact h3
theorem b6j {T:List (Nat×D)} {H:Hy} {nk:Nat} {T':List (Nat×SV)} {H':Hp} {nk':Nat} {w w1:World} {lo lo1:Nat} {iv iv1:List (Nat×Nat)} {v':Value} {n z:Nat} {l:List D} {xs:List Value} {ty:TypeId}
 (hs:Sim A ⟨T',H',nk',w,lo,iv⟩ ⟨T,H,nk⟩) (hv:∀b,b∈q9 v'→b∈bs H'∨w.heap.size≤b) (hfx:Fx (bs H') w w1) (hlo:(lo1=w1.heap.size)∨(lo1=lo∧iv1=iv))
 (hrep:j3 (okS A ⟨T',(nk', .row v' n xs z ty)::H',nk'+1,w1,lo1,iv1⟩) w1 l xs) (hfl:D3 l=true) (hlen:l.length=n*z):
 Sim A ⟨T',(nk', .row v' n xs z ty)::H',nk'+1,w1,lo1,iv1⟩ ⟨T,(nk, .row z n l ty)::H,nk+1⟩:=by
 have hnk:nk=nk':=hs.nk
 subst hnk
 have hok:∀c,okS A ⟨T',H',nk,w,lo,iv⟩ c→okS A ⟨T',(nk, .row v' n xs z ty)::H',nk+1,w1,lo1,iv1⟩ c∧w1.heap[c]?=w.heap[c]?:=by
  intro c ⟨h1,h2,h3⟩
  refine⟨⟨⟨?_,h1.2⟩,Nat.lt_of_lt_of_le h2 hfx.size,fun x hx=> ?_⟩,hfx.block c h2 h3⟩
  · rcases hlo with rfl|⟨rfl,rfl⟩
    · exact .inl (Nat.lt_of_lt_of_le h2 hfx.size)
    · exact h1.1
  · simp only [bs,bsE,List.mem_append]at hx
    rcases hx with hx|hx
    · rcases hv x hx with hx|hx
      · exact h3 x hx
      · intro e;simp only at h2;omega
    · exact h3 x hx
 have hk:∀q k,D7 ⟨T',H',nk,w,lo,iv⟩ q k→D7 ⟨T',(nk, .row v' n xs z ty)::H',nk+1,w1,lo1,iv1⟩ q k:=by
  intro q k ⟨h1,h2⟩
  simp only at h1
  refine⟨by simp only;omega,fun hq=> ?_⟩
  simp only
  rw [Y3 (by omega)]
  exact h2 hq
 refine⟨fun d x hx=> ?_,fun k e he=> ?_,rfl,fun j hj=>hs.fT j (by simp only at hj⊢;omega),fun j hj=>a0k rfl (hs.fH j (by simp only at hj⊢;omega))⟩
 · rcases hs.T d x hx with h|⟨s,h1,h2⟩
   · exact .inl h
   · exact .inr ⟨s,h1,i0.mono hok hk _ _ h2⟩
 · simp only [o4]at he
   simp only [i6]
   cases hb:Nat.beq nk k with
   |true=>
    rw [hb]at he;cases he
    exact⟨_,rfl,by exact⟨rfl,rfl,rfl,hrep,hfl,hlen⟩⟩
   |false=>
    rw [hb]at he
    obtain⟨e',h1,h2⟩:=hs.H k e he
    exact⟨e',h1,a3z.mono hok hk h2⟩
theorem c3v {seq:Bool} {e esz bytes:Nat} {s x:D} {s' x':SV} {dst:Option Nat} (h:c3Y e esz bytes s x sy fun st' d=>Y1 X st' dst d KY) (hs:Sim A st sy) (h1:i0 (okS A st) st.w (D7 st) s s') (h2:i0 (okS A st) st.w (D7 st) x x'):
 b3R (cx X w0 bor) seq e esz bytes s' x' st fun st' d=>put (cx X w0 bor) st' dst d fun st'=>∃sy',KY sy'∧Sim A st' sy':=by
 unfold c3Y at h
 split at h
 · exact h.elim
 rename_i hez
 have hez:=Nat.le_of_ble_eq_true hez
 have hnews:=h
 clear h
 obtain⟨m,l,news,h,hn,hrep,hfl,hlen⟩:=c1J (X:=X) (w0:=w0) (bor:=bor) hnews hs h2
 clear hnews
 obtain⟨T',H',nk',w,lo,iv⟩:=st
 have reW_of:∀ {w1:World} {K:List (Nat×SV)→Hp→Nat→World→Nat→List (Nat×Nat)→Prop},(∀lo1 iv1,(lo1=w1.heap.size∨(lo1=lo∧iv1=iv))→K T' H' nk' w1 lo1 iv1)→reW seq ⟨T',H',nk',w,lo,iv⟩ w1 K:=by
  intro w1 K hh
  cases seq with
  |true=>exact hh _ _ (.inl rfl)
  |false=>exact hh _ _ (.inr ⟨rfl,rfl⟩)
 split at h
 · rename_i T H nk
   have:=h1.sc;subst this
   obtain⟨hb,r',n',⟨rfl,rfl⟩,h⟩:=h
   have hnk:nk=nk':=hs.nk
   subst hnk
   refine⟨0,0,m, .slice none 0 0, [],news,⟨hez,hn,by simpa using hb.1,by simpa [maxLen]using hb.2⟩, .inl ⟨rfl,rfl,fun v' w1 hv hz hf=>reW_of fun lo1 iv1 hlo=> ?_⟩⟩
   have hsim:=b7k (ty:=e) hs hz hf hlo hrep hfl hlen
   refine⟨hs.fT nk (Nat.le_refl _),hs.fH nk (Nat.le_refl _),K8 h hsim ?_⟩
   simp only [i0]
   exact⟨trivial,by simp only;omega,fun _=>⟨_,_,_,_,_,by simp [i6];exact⟨rfl,rfl,rfl,rfl,rfl⟩⟩⟩
 · rename_i k z0 T H nk
   have h1':=h1
   simp only [i0]at h1
   obtain⟨rfl,hkey⟩:=h1
   split at h
   · rename_i z n r ty hfy
     split at h
     · rename_i hzz hty
       obtain rfl:=B9 hzz
       obtain rfl:=B9 hty
       obtain⟨hb,r',n',⟨rfl,rfl⟩,h⟩:=h
       obtain⟨e',hf',he⟩:=hs.H _ _ hfy
       cases e' with
       |blk=>exact he.elim
       |row v n' xs z' ty'=>
        obtain⟨rfl,rfl,rfl,hrep0,hfl0,hlen0⟩:=he
        refine⟨k,n,m,v,xs,news,⟨hez,hn,hb.1,by simpa [maxLen]using hb.2⟩, .inr (.inl ⟨rfl,hf',fun v' w1 hv hz hf=>reW_of fun lo1 iv1 hlo=> ?_⟩)⟩
        have h:=a3S h
        rw [a9B]at h
        have hsim:=b5q (k:=k) (v':=v') (n:=n+m) (z:=z) (ty:=ty) (l:=r++l) (xs:=xs++news) hs hf' hz hf hlo (hrep0.app hrep) (U4 fun d hd=>by
         rcases List.mem_append.1 hd with hd|hd
         · exact C5 hfl0 hd
         · exact C5 hfl hd) (by simp [hlen0,hlen,Nat.add_mul])
        refine a5B (e0:=a1A k _) (by rw [P9];simp only at hf';rw [hf'];rfl) ?_
        rw [a4a]
        refine K8 h hsim ?_
        simp only [i0]
        exact⟨trivial,hkey.1,fun _=>⟨_,_,_,_,_,by simp only;rw [a1p (e0:=a1A k _) (by rw [P9];simp only at hf';rw [hf'];rfl)];simp;exact⟨rfl,rfl,rfl,rfl,rfl⟩⟩⟩
     · exact h.elim
   · exact h.elim
 · rename_i k o z0 n c T H nk
   simp only [i0]at h1
   obtain⟨rfl,hkey⟩:=h1
   split at h
   · rename_i z N r ty ho hc hz0 hfy
     obtain rfl:=B9 ho
     obtain rfl:=B9 hc
     split at h
     · rename_i hzz hty
       obtain rfl:=B9 hzz
       obtain rfl:=B9 hty
       obtain⟨⟨hN0,hnN,hb⟩,r',n',⟨rfl,rfl⟩,h⟩:=h
       obtain⟨e',hf',he⟩:=hs.H _ _ hfy
       cases e' with
       |blk=>exact he.elim
       |row v N' xs z' ty'=>
        obtain⟨rfl,rfl,rfl,hrep0,hfl0,hlen0⟩:=he
        have hle:n*z≤N*z:=Nat.mul_le_mul_right _ hnN
        refine⟨k,n,m,v,xs.take (n*z),news,⟨hez,hn,hb.1,by simpa [maxLen]using hb.2⟩, .inr (.inr (.inl ⟨rfl,⟨v,N,xs,hf',hN0,hnN,rfl⟩,fun v' w1 hv hz hf=>reW_of fun lo1 iv1 hlo=> ?_⟩))⟩
        have h:=a3S h
        rw [a9B]at h
        have hsim:=b5q (k:=k) (v':=v') (n:=n+m) (z:=z) (ty:=ty) (l:=r.take (n*z)++l) (xs:=xs.take (n*z)++news) hs hf' hz hf hlo ((hrep0.take _).app hrep) (U4 fun d hd=>by
         rcases List.mem_append.1 hd with hd|hd
         · exact C5 hfl0 (List.mem_of_mem_take hd)
         · exact C5 hfl hd) (by simp only [List.length_append,List.length_take,hlen0,hlen,Nat.min_eq_left hle,Nat.add_mul])
        refine a5B (e0:=a1A k _) (by rw [P9];simp only at hf';rw [hf'];rfl) ?_
        rw [a4a]
        refine K8 h hsim ?_
        simp only [i0]
        exact⟨trivial,hkey.1,fun _=>⟨_,_,_,_,_,by simp only;rw [a1p (e0:=a1A k _) (by rw [P9];simp only at hf';rw [hf'];rfl)];simp;exact⟨rfl,rfl,rfl,rfl,rfl⟩⟩⟩
     · exact h.elim
   · exact h.elim
 · exact h.elim
end
end Go.Sx
namespace Go.Sx
open Go Go.RowKit
def T0 (k:Nat):Hp→Hp
 | []=> []
 |(j,e)::H=>match Nat.beq j k with|true=>T0 k H|false=>(j,e)::T0 k H
theorem a5L {H:Hp} {k j:Nat} (h:j≠k):i6 (T0 k H) j=i6 H j:=by
 induction H with
 |nil=>rfl
 |cons x H ih=>
  obtain⟨i,e⟩:=x
  simp only [T0,i6]
  cases hb:Nat.beq i k with
  |true=>
   have:=B9 hb;subst this
   rw [a0c (Ne.symm h)];exact ih
  |false=>simp only [i6];rw [ih]
theorem a4v {H:Hp} {k j:Nat} {e:Ent} (h:(j,e)∈T0 k H):(j,e)∈H∧j≠k:=by
 induction H with
 |nil=>cases h
 |cons x H ih=>
  obtain⟨i,e'⟩:=x
  simp only [T0]at h
  cases hb:Nat.beq i k with
  |true=>rw [hb]at h;obtain⟨h1,h2⟩:=ih h;exact⟨List.mem_cons_of_mem _ h1,h2⟩
  |false=>
   rw [hb]at h
   rcases List.mem_cons.1 h with h|h
   · cases h;exact⟨List.mem_cons_self,a2Y hb⟩
   · obtain⟨h1,h2⟩:=ih h;exact⟨List.mem_cons_of_mem _ h1,h2⟩
theorem b5s {k:Nat} (H:Hp):(T0 k H).Sublist H:=by
 induction H with
 |nil=>exact List.Sublist.slnil
 |cons x H ih=>
  obtain⟨i,e⟩:=x
  simp only [T0]
  cases hb:Nat.beq i k with
  |true=>exact List.Sublist.cons _ ih
  |false=>exact List.Sublist.cons_cons _ ih
theorem c4x {H H':Hp} (h:H.Sublist H'):(bs H).Sublist (bs H'):=by
 induction h with
 |slnil=>exact List.Sublist.slnil
 |cons x _ ih=>obtain⟨i,e⟩:=x;exact ih.trans (List.sublist_append_right _ _)
 |cons_cons x _ ih=>obtain⟨i,e⟩:=x;exact List.Sublist.append (List.Sublist.refl _) ih
def a2R (g:Nat→List SV→List SV):Hp→Hp
 | []=> []
 |(j, .blk b cs ty)::H=>(j, .blk b (g j cs) ty)::a2R g H
 |(j,e)::H=>(j,e)::a2R g H
theorem a9X {g:Nat→List SV→List SV} {H:Hp} {j:Nat}:i6 (a2R g H) j=(i6 H j).map (fun| .blk b cs ty=> .blk b (g j cs) ty|e=>e):=by
 induction H with
 |nil=>rfl
 |cons x H ih=>
  obtain⟨i,e⟩:=x
  cases e<;>simp only [a2R,i6]<;>cases hb:Nat.beq i j
  · exact ih
  · have:=B9 hb;subst this;rfl
  · exact ih
  · rfl
theorem mem_map {g:Nat→List SV→List SV} {H:Hp} {j:Nat} {e:Ent} (h:(j,e)∈a2R g H):(∃b cs ty,(j, .blk b cs ty)∈H∧e= .blk b (g j cs) ty)∨((j,e)∈H∧∃v n xs sz ty,e= .row v n xs sz ty):=by
 induction H with
 |nil=>cases h
 |cons x H ih=>
  obtain⟨i,e'⟩:=x
  cases e' with
  |blk b cs ty=>
   simp only [a2R]at h
   rcases List.mem_cons.1 h with h|h
   · cases h;exact .inl ⟨b,cs,ty,List.mem_cons_self,rfl⟩
   · rcases ih h with⟨b,cs,ty,h1,h2⟩|⟨h1,h2⟩
     · exact .inl ⟨b,cs,ty,List.mem_cons_of_mem _ h1,h2⟩
     · exact .inr ⟨List.mem_cons_of_mem _ h1,h2⟩
  |row v n xs sz ty=>
   simp only [a2R]at h
   rcases List.mem_cons.1 h with h|h
   · cases h;exact .inr ⟨List.mem_cons_self,_,_,_,_,_,rfl⟩
   · rcases ih h with⟨b,cs,ty,h1,h2⟩|⟨h1,h2⟩
     · exact .inl ⟨b,cs,ty,List.mem_cons_of_mem _ h1,h2⟩
     · exact .inr ⟨List.mem_cons_of_mem _ h1,h2⟩
theorem b6F {g:Nat→List SV→List SV} {H:Hp}:bs (a2R g H)=bs H:=by
 induction H with
 |nil=>rfl
 |cons x H ih=>obtain⟨i,e⟩:=x;cases e<;>simp [a2R,bs,bsE,ih]
theorem c1f {g:Nat→List SV→List SV} {H:Hp}:(a2R g H).map (·.1)=H.map (·.1):=by
 induction H with
 |nil=>rfl
 |cons x H ih=>obtain⟨i,e⟩:=x;cases e<;>simp [a2R,ih]
theorem c2H {g:Nat→List SV→List SV} {H:Hp} (j:Nat):bOf (a2R g H) j=bOf H j∧o9 (a2R g H) j=o9 H j:=by
 simp only [bOf,o9,a9X]
 cases i6 H j with
 |none=>exact⟨rfl,rfl⟩
 |some e=>cases e<;>exact⟨rfl,rfl⟩
section
variable {A : Nat → Prop} {Xx : Cx} {w : World}
structure c2V (ok ok':Nat→Prop) (R R':Bool→Nat→Prop) (H:Hp) (w:World) (k:Nat) (e:E):Prop where
 ok:∀b,ok b→ok' b
 R:∀q j,j≠k→R q j→R' q j
 blk:∀cs ty,e= .blk cs ty→D3 cs=true∧o9 H k=undef∧∃b xs,bOf H k=b∧ok' b∧j3 ok' w cs xs∧∀j,j<cs.length→w.cell? ⟨b,j,none⟩=xs[j]?
 row:∀z n l ty,e= .row z n l ty→Rep ok' w (.lst z n l) (o9 H k)
variable {ok ok' : Nat → Prop} {R R' : Bool → Nat → Prop} {H : Hp} {k : Nat} {e : E}
theorem a6P {s:SV} (h:ment k s=false):den (T0 k H) s=den H s:=a7n k (fun j hj=>⟨by simp [bOf,a5L hj],by simp [o9,a5L hj]⟩) s h
theorem c2O {x x':D} (h:fzO k e x=some x') (ho:a4W x=true):a4W x'=true:=by
 cases x<;>simp [a4W]at ho<;>simp only [fzO]at h
 · cases h;rfl
 · cases h;rfl
 · cases h;rfl
 · split at h
   · cases h;rfl
   · split at h<;>cases h;rfl
 · split at h<;>cases h;rfl
 · split at h
   · cases h;rfl
   · split at h<;>cases h;rfl
 · split at h<;>cases h;rfl
 · split at h
   · cases h;rfl
   · split at h
     · split at h<;>cases h;rfl
     · cases h
 · split at h<;>cases h;rfl
 · cases h;rfl
theorem c0k {l l':List D} (h:fzL k e l=some l') (ho:D3 l=true):D3 l'=true:=by
 induction l generalizing l' with
 |nil=>simp [fzL]at h;subst h;rfl
 |cons x l ih=>
  simp only [fzL]at h
  split at h
  · rename_i y r hy hr
    cases h
    simp only [D3]
    rw [c2O hy (C5 ho List.mem_cons_self)]
    exact ih hr (U4 fun d hd=>C5 ho (List.mem_cons_of_mem _ hd))
  · cases h
mutual
theorem b7x (hz:c2V ok ok' R R' H w k e):∀(x:D) (s:SV) (x':D),i0 ok w R x s→fzO k e x=some x'→∃s',i0 ok' w R' x' s'∧den (T0 k H) s'=den H s∧ment k s'=false
 | .v x,s,x',h,hx=>by
  simp only [i0]at h
  simp only [fzO]at hx;cases hx
  obtain⟨rfl,h⟩:=h
  exact⟨.v x,by simp only [i0];exact⟨trivial,h⟩,rfl,rfl⟩
 | .lst z n l,s,x',h,hx=>by
  simp only [fzO]at hx;cases hx
  simp only [i0]at h
  obtain⟨y,rfl,h⟩:=h
  exact⟨.v y,by simp only [i0];exact⟨y,rfl,Rep.mono (fun b hb=>⟨hz.ok b hb,rfl⟩) _ _ h⟩,rfl,rfl⟩
 | .ptr l o,s,x',h,hx=>by
  simp only [fzO]at hx;cases hx
  simp only [i0]at h
  obtain⟨y,rfl,h⟩:=h
  exact⟨.v y,by simp only [i0];exact⟨y,rfl,Rep.mono (fun b hb=>⟨hz.ok b hb,rfl⟩) _ _ h⟩,rfl,rfl⟩
 | .own j o,s,x',h,hx=>by
  simp only [i0]at h
  obtain⟨rfl,h⟩:=h
  simp only [fzO]at hx
  cases hb:Nat.beq j k with
  |false=>
   rw [hb]at hx;cases hx
   exact⟨_,by simp only [i0];exact⟨trivial,hz.R _ _ (a2Y hb) h⟩,a6P (by simpa [ment]using hb),by simpa [ment]using hb⟩
  |true=>
   have:=B9 hb;subst this
   rw [hb]at hx
   simp only at hx
   split at hx
   · cases hx
     obtain⟨hfl,hrv,b,xs,h1,h2,h3,h4⟩:=hz.blk _ _ rfl
     refine⟨.v (.pointer (some ⟨b,o,none⟩)), ?_,by simp [den,h1],rfl⟩
     simp only [i0,Rep]
     exact⟨_,rfl,b,0,xs,by rw [Nat.zero_add],h2,hfl,h3,fun i hi=>by rw [Nat.zero_add];exact h4 i hi⟩
   · cases hx
 | .ownx j o,s,x',h,hx=>by
  simp only [i0]at h
  obtain⟨rfl,h⟩:=h
  simp only [fzO]at hx
  cases hb:Nat.beq j k with
  |false=>rw [hb]at hx;cases hx;exact⟨_,by simp only [i0];exact⟨trivial,hz.R _ _ (a2Y hb) h⟩,a6P (by simpa [ment]using hb),by simpa [ment]using hb⟩
  |true=>rw [hb]at hx;cases hx
 | .elr j z i o,s,x',h,hx=>by
  simp only [i0]at h
  obtain⟨rfl,h⟩:=h
  simp only [fzO]at hx
  cases hb:Nat.beq j k with
  |false=>rw [hb]at hx;cases hx;exact⟨_,by simp only [i0];exact⟨trivial,hz.R _ _ (a2Y hb) h⟩,a6P (by simpa [ment]using hb),by simpa [ment]using hb⟩
  |true=>rw [hb]at hx;cases hx
 | .row j z,s,x',h,hx=>by
  simp only [i0]at h
  obtain⟨rfl,h⟩:=h
  simp only [fzO]at hx
  cases hb:Nat.beq j k with
  |false=>rw [hb]at hx;cases hx;exact⟨_,by simp only [i0];exact⟨trivial,hz.R _ _ (a2Y hb) h⟩,a6P (by simpa [ment]using hb),by simpa [ment]using hb⟩
  |true=>
   have:=B9 hb;subst this
   rw [hb]at hx
   simp only at hx
   split at hx
   · cases hx
     exact⟨.v (o9 H j),by simp only [i0];exact⟨_,rfl,hz.row _ _ _ _ rfl⟩,rfl,rfl⟩
   · cases hx
 | .osl j o z n c,s,x',h,hx=>by
  simp only [i0]at h
  obtain⟨rfl,h⟩:=h
  simp only [fzO]at hx
  cases hb:Nat.beq j k with
  |false=>rw [hb]at hx;cases hx;exact⟨_,by simp only [i0];exact⟨trivial,hz.R _ _ (a2Y hb) h⟩,a6P (by simpa [ment]using hb),by simpa [ment]using hb⟩
  |true=>
   have:=B9 hb;subst this
   rw [hb]at hx
   simp only at hx
   split at hx
   · split at hx
     · rename_i l hl hnc hnm
       cases hx
       obtain⟨hfl,hrv,b,xs,h1,h2,h3,h4⟩:=hz.blk _ _ rfl
       obtain⟨g1,g2,g3⟩:=h3.part hl
       refine⟨.v (.slice (some ⟨b,o,none⟩) n c), ?_,by simp [den,h1,hrv,b1o,undef],rfl⟩
       simp only [i0,Rep]
       have hll:=(b1U hl).2.1
       rw [b5p]at hll
       refine⟨_,rfl,_,c,rfl,Nat.le_of_ble_eq_true hnc,by have:=Nat.le_of_ble_eq_true hnm;omega,g2,a7k hfl fun d hd=>List.mem_of_mem_drop (List.mem_of_mem_take (hll▸hd)), .inr ⟨b,o,_,rfl,h2,g1,fun i hi=> ?_⟩⟩
       rw [h4 (o+i) (by omega),List.getElem?_take,if_pos hi,List.getElem?_drop]
     · cases hx
   · cases hx
 | .agg l,s,x',h,hx=>by
  simp only [i0]at h
  obtain⟨cs,h1,h2,h3⟩:=h
  simp only [fzO]at hx
  split at hx
  · rename_i l' hl
    cases hx
    obtain⟨cs',g1,g2,g3⟩:=a3M hz l cs l' h2 hl
    refine⟨.agg cs',by simp only [i0];exact⟨cs',rfl,g1,c0k hl h3⟩, ?_,by simpa [ment]using g3⟩
    cases s<;>simp [a4B]at h1
    · rename_i y;cases y<;>simp at h1
      subst h1
      rw [O3]at g2
      simp [den,g2]
    · subst h1;simp [den,g2]
  · cases hx
 | .tup l,s,x',h,hx=>by
  simp only [i0]at h
  simp only [fzO]at hx
  split at hx
  · rename_i l' hl
    cases hx
    rcases h with⟨cs,rfl,h2⟩|⟨a,rfl,h2⟩
    · obtain⟨cs',g1,g2,g3⟩:=a3M hz l cs l' h2 hl
      exact⟨.tup cs',by simp only [i0];exact .inl ⟨cs',rfl,g1⟩,by simp [den,g2],by simpa [ment]using g3⟩
    · obtain⟨cs',g1,g2,g3⟩:=a3M hz l _ l' h2 hl
      rw [O3]at g2
      exact⟨.tup cs',by simp only [i0];exact .inl ⟨cs',rfl,g1⟩,by simp [den,g2],by simpa [ment]using g3⟩
  · cases hx
 | .fn f a b,s,x',h,hx=>by
  simp only [i0]at h
  simp only [fzO]at hx
  split at hx
  · rename_i a' b' ha hb
    cases hx
    rcases h with⟨p,q,rfl,h2,h3⟩|⟨p,q,rfl,h2,h3⟩
    · obtain⟨p',g1,g2,g3⟩:=a3M hz a p a' h2 ha
      obtain⟨q',g4,g5,g6⟩:=a3M hz b q b' h3 hb
      exact⟨.fn f p' q',by simp only [i0];exact .inl ⟨p',q',rfl,g1,g4⟩,by simp [den,g2,g5],by simp only [ment,g3,g6]⟩
    · obtain⟨p',g1,g2,g3⟩:=a3M hz a _ a' h2 ha
      obtain⟨q',g4,g5,g6⟩:=a3M hz b _ b' h3 hb
      rw [O3]at g2 g5
      exact⟨.fn f p' q',by simp only [i0];exact .inl ⟨p',q',rfl,g1,g4⟩,by simp [den,g2,g5],by simp only [ment,g3,g6]⟩
  · cases hx
 | .mp l,s,x',h,hx=>by
  simp only [fzO]at hx;cases hx
  simp only [i0]at h⊢
  obtain⟨y,rfl,h⟩:=h
  exact⟨.v y,⟨y,rfl,Rep.mono (fun b hb=>⟨hz.ok b hb,rfl⟩) _ _ h⟩,rfl,rfl⟩
 | .und,s,x',h,hx=>by
  simp only [fzO]at hx;cases hx
  simp only [i0]at h
  subst h
  exact⟨.v undef,by simp only [i0],rfl,rfl⟩
 | .bad,_,_,_,hx=>by simp [fzO]at hx
theorem a3M (hz:c2V ok ok' R R' H w k e):∀(l:List D) (r:List SV) (l':List D),d8 ok w R l r→fzL k e l=some l'→∃r',d8 ok' w R' l' r'∧j7 (T0 k H) r'=j7 H r∧O8 k r'=false
 | [], [],l',_,hx=>by simp only [fzL]at hx;cases hx;exact⟨[],trivial,rfl,rfl⟩
 |d::l,y::r,l',h,hx=>by
  simp only [d8]at h
  simp only [fzL]at hx
  split at hx
  · rename_i d' l'' hd hl
    cases hx
    obtain⟨s',g1,g2,g3⟩:=b7x hz d y d' h.1 hd
    obtain⟨r',g4,g5,g6⟩:=a3M hz l r l'' h.2 hl
    exact⟨s'::r',⟨g1,g4⟩,by simp [j7,g2,g5],by simp only [O8,g3,g6]⟩
  · cases hx
 | [],_::_,_,h,_=>by simp [d8]at h
 |_::_, [],_,h,_=>by simp [d8]at h
end
theorem b8s (hz:c2V ok ok' R R' H w k e):∀(l:List D) (r:List SV),d8 ok w R l r→∃r',d8 ok' w R' (fzC k e l) r'∧O8 k r'=false∧∀xs,o0 H r xs→o0 (T0 k H) r' xs
 | [], [],_=>⟨[],trivial,rfl,fun xs h=>by cases xs with
  |nil=>trivial
  |cons=>simp [o0]at h⟩
 |d::l,y::r,h=>by
  simp only [d8]at h
  obtain⟨r',g4,g5,g6⟩:=b8s hz l r h.2
  simp only [fzC,fzG]
  cases hd:fzO k e d with
  |none=>exact⟨.bad::r',⟨by simp only [i0],g4⟩,by simp only [O8,ment,g5],fun xs hc=>by
   cases xs with
   |nil=>simp [o0]at hc
   |cons x xs=>simp only [o0]at hc;exact⟨.inl rfl,g6 xs hc.2⟩⟩
  |some d'=>
   obtain⟨s',g1,g2,g3⟩:=b7x hz d y d' h.1 hd
   have hne:d≠ .bad:=fun e=>by subst e;simp [fzO]at hd
   have hy:=h.1.ne hne
   refine⟨s'::r',⟨g1,g4⟩,by simp only [O8,g3,g5],fun xs hc=> ?_⟩
   cases xs with
   |nil=>simp [o0]at hc
   |cons x xs=>
    simp only [o0]at hc
    refine⟨?_,g6 xs hc.2⟩
    rcases hc.1 with h|h
    · exact absurd h hy
    · exact .inr (by rw [g2];exact h)
 | [],_::_,h=>by simp [d8]at h
 |_::_, [],h=>by simp [d8]at h
theorem c2b {T:List (Nat×D)} {d:Nat} {x:D} (h:w8 (fzT k e T) d=some x):∃y,w8 T d=some y∧x=fzG k e y:=by
 induction T with
 |nil=>simp [w8,fzT]at h
 |cons q T ih=>
  obtain⟨d',s'⟩:=q
  simp only [w8,fzT]at h⊢
  cases hb:Nat.beq d' d with
  |true=>rw [hb]at h;cases h;exact⟨_,rfl,rfl⟩
  |false=>rw [hb]at h;exact ih h
theorem c1C {Hd:Hy} {j:Nat} {x:E} (h:o4 (fzH k e Hd) j=some x):j≠k∧∃y,o4 Hd j=some y∧x=fzE k e y:=by
 induction Hd with
 |nil=>simp [o4,fzH]at h
 |cons q Hd ih=>
  obtain⟨i,s'⟩:=q
  simp only [fzH]at h
  simp only [o4]
  cases hb:Nat.beq i k with
  |true=>
   rw [hb]at h
   obtain⟨h1,y,h2,h3⟩:=ih h
   have:=B9 hb;subst this
   rw [a0c (Ne.symm h1)]
   exact⟨h1,y,h2,h3⟩
  |false=>
   rw [hb]at h
   simp only [o4]at h
   cases hb2:Nat.beq i j with
   |true=>rw [hb2]at h;cases h;exact⟨by have:=B9 hb2;subst this;exact a2Y hb,_,rfl,rfl⟩
   |false=>rw [hb2]at h;exact ih h
end
end Go.Sx
namespace Go.Sx
open Go Go.RowKit
mutual
theorem a3U {ok:Nat→Prop} {w:World} {R:Bool→Nat→Prop} {H:Hp}:∀(x:D) (s:SV),i0 ok w R x s→a0R x=true→Rep ok w x (den H s)
 | .v x,s,h,_=>by simp only [i0]at h;rw [h.1];simp only [Rep,den];exact⟨trivial,h.2⟩
 | .lst z n l,s,h,_=>by simp only [i0]at h;obtain⟨y,rfl,h⟩:=h;exact h
 | .ptr l o,s,h,_=>by simp only [i0]at h;obtain⟨y,rfl,h⟩:=h;exact h
 | .agg l,s,h,hc=>by
  simp only [i0]at h
  obtain⟨cs,h1,h2,h3⟩:=h
  simp only [a0R]at hc
  split at hc
  · rename_i hcl
    have:=M1 (H:=H) l cs h2 hcl
    simp only [Rep]
    cases s<;>simp [a4B]at h1
    · rename_i y;cases y<;>simp at h1
      subst h1
      rw [O3]at this
      exact⟨_,rfl,this,h3⟩
    · subst h1;exact⟨_,rfl,by simpa using this,h3⟩
  · cases hc
 | .tup l,s,h,hc=>by
  simp only [i0]at h
  simp only [a0R]at hc
  simp only [Rep]
  rcases h with⟨cs,rfl,h⟩|⟨a,rfl,h⟩
  · exact⟨_,rfl,by simpa using M1 (H:=H) l cs h hc⟩
  · have:=M1 (H:=H) l _ h hc
    rw [O3]at this
    exact⟨_,rfl,this⟩
 | .mp l,s,h,hc=>by
  simp only [i0]at h
  obtain⟨y,rfl,h⟩:=h
  exact h
 | .fn f a b,s,h,hc=>by
  simp only [i0]at h
  simp only [a0R]at hc
  split at hc
  · rename_i ha
    simp only [Rep]
    rcases h with⟨p,q,rfl,h2,h3⟩|⟨p,q,rfl,h2,h3⟩
    · exact⟨_,_,rfl,by simpa using M1 (H:=H) a p h2 ha,by simpa using M1 (H:=H) b q h3 hc⟩
    · have g1:=M1 (H:=H) a _ h2 ha
      have g2:=M1 (H:=H) b _ h3 hc
      rw [O3]at g1 g2
      exact⟨_,_,rfl,g1,g2⟩
  · cases hc
 | .own _ _,_,_,h=>by simp [a0R]at h
 | .ownx _ _,_,_,h=>by simp [a0R]at h
 | .row _ _,_,_,h=>by simp [a0R]at h
 | .elr _ _ _ _,_,_,h=>by simp [a0R]at h
 | .osl _ _ _ _ _,_,_,h=>by simp [a0R]at h
 | .und,_,_,h=>by simp [a0R]at h
 | .bad,_,_,h=>by simp [a0R]at h
theorem M1 {ok:Nat→Prop} {w:World} {R:Bool→Nat→Prop} {H:Hp}:∀(l:List D) (r:List SV),d8 ok w R l r→V9 l=true→j3 ok w l (j7 H r)
 | [], [],_,_=>trivial
 |d::l,y::r,h,hc=>by
  simp only [d8]at h
  simp only [V9]at hc
  split at hc
  · rename_i hd
    exact⟨a3U d y h.1 hd,M1 l r h.2 hc⟩
  · cases hc
 | [],_::_,h,_=>by simp [d8]at h
 |_::_, [],h,_=>by simp [d8]at h
end
theorem b0o {ok:Nat→Prop} {w:World} {R:Bool→Nat→Prop}:∀(l:List D) (r:List SV),d8 ok w R l r→V9 l=true→ .bad∉r
 | [], [],_,_=>by simp
 |d::l,y::r,h,hc=>by
  simp only [d8]at h
  simp only [V9]at hc
  split at hc
  · rename_i hd
    have h2:=b0o l r h.2 hc
    intro hm
    rcases List.mem_cons.1 hm with e|hm
    · subst e
      cases d<;>simp_all [i0,a0R,a4B]
    · exact h2 hm
  · cases hc
 | [],_::_,h,_=>by simp [d8]at h
 |_::_, [],h,_=>by simp [d8]at h
section
variable {A : Nat → Prop} {Xx : Cx} {w : World} {st : St} {sy : Sy}
def c0L (st st':St):Prop:=∀d s,C6 st'.T d=some s→s= .bad∨∃s0,C6 st.T d=some s0∧s0≠ .bad∧den st'.H s=den st.H s0
theorem b3Q {α:Type} {p:α→Prop} (d:α):∃x,(p x∨¬(∃y,p y)∧x=d):=by
 by_cases h:∃y,p y
 · obtain⟨y,hy⟩:=h;exact⟨y, .inl hy⟩
 · exact⟨d, .inr ⟨h,rfl⟩⟩
theorem b3E {g:Nat→SV→SV} {T:List (Nat×SV)} {d:Nat}:C6 (T.map fun p=>(p.1,g p.1 p.2)) d=(C6 T d).map (g d):=by
 induction T with
 |nil=>rfl
 |cons x T ih=>
  obtain⟨i,s⟩:=x
  simp only [List.map_cons,C6]
  cases hb:Nat.beq i d with
  |true=>have:=B9 hb;subst this;rfl
  |false=>exact ih
theorem b5h {g:Nat→SV→SV} {T:List (Nat×SV)} {j:Nat} (h:∀d s,ment j (g d s)=false):B0 j (T.map fun p=>(p.1,g p.1 p.2))=true:=by
 induction T with
 |nil=>rfl
 |cons x T ih=>simp only [List.map_cons,B0,h];exact ih
theorem b5w {g:Nat→List SV→List SV} {H:Hp} {j:Nat} (h:∀i cs,O8 j (g i cs)=false):I2 j (a2R g H)=true:=by
 induction H with
 |nil=>rfl
 |cons x H ih=>
  obtain⟨i,e⟩:=x
  cases e with
  |blk b cs ty=>simp only [a2R,I2,h];exact ih
  |row v n xs sz ty=>simp only [a2R,I2];exact ih
theorem b2q {H:Hp}:∀(xs:List Value),o0 H (xs.map fun _=>SV.bad) xs
 | []=>trivial
 |x::xs=>⟨.inl rfl,b2q xs⟩
theorem b9W {α:Type} (k:Nat) (l:List α):O8 k (l.map fun _=>SV.bad)=false:=by
 induction l with
 |nil=>rfl
 |cons x l ih=>simp only [List.map_cons,O8,ment];exact ih
def a7t (H' H:Hp):Prop:=∀j e,(j,e)∈H'→∃e0,(j,e0)∈H∧∀b,b∈bsE e→b∈bsE e0
theorem a7t.bs {H' H:Hp} (h:a7t H' H) (b:Nat) (hb:b∈bs H'):b∈Sx.bs H:=by
 obtain⟨j,e,h1,h2⟩:=D0.1 hb
 obtain⟨e0,h3,h4⟩:=h j e h1
 exact D0.2 ⟨j,e0,h3,h4 b h2⟩
theorem a7t.refl (H:Hp):a7t H H:=fun _ e h=>⟨e,h,fun _ h=>h⟩
theorem a7t.trans {A B C:Hp} (h:a7t A B) (k:a7t B C):a7t A C:=fun j e hm=>by
 obtain⟨e1,h1,h2⟩:=h j e hm
 obtain⟨e2,h3,h4⟩:=k j e1 h1
 exact⟨e2,h3,fun b hb=>h4 b (h2 b hb)⟩
theorem c2p (hA:∀b,(Xx.w0.heap.size≤b∨b∈Xx.bor)→A b) (hc:Cls Xx st.H st.nk w w) (hat:At st w) (hs:Sim A st sy) {k:Nat} {e:E} (hf:o4 sy.H k=some e) (hok:okE e=true):
 ∃st',Cls Xx st'.H st'.nk w w∧At st' w∧Sim A st' ⟨fzT k e sy.T,fzH k e sy.H,sy.nk⟩∧a7t st'.H st.H∧st'.nk=st.nk∧c0L st st'∧
  ∀l r l',d8 (okS A st) w (D7 st) l r→fzL k e l=some l'→∃r',d8 (okS A st') w (D7 st') l' r'∧j7 st'.H r'=j7 st.H r:=by
 obtain⟨T,H,nk,ws,lo,iv⟩:=st
 obtain⟨h1,h2,h3⟩:=hat
 simp only at h1 h2 h3 hc
 subst h1 h2 h3
 obtain⟨e',hf',hr⟩:=hs.H k e hf
 simp only at hf'
 have hmem:=p0 hf'
 have hkb:∀b,b∈bsE e'→b∉bs (T0 k H):=by
  intro b hb hb2
  obtain⟨j,x,hj,hbx⟩:=D0.1 hb2
  obtain⟨hj1,hj2⟩:=a4v hj
  exact a4x hc.nd hc.keys hmem hj1 (Ne.symm hj2) hb hbx
 have hsubl:=c4x (b5s (k:=k) H)
 --what is allowed now
 let ok':Nat→Prop:=fun b=>(b<ws.heap.size∧b8D (T0 k H) b)∧A b
 let R':Bool→Nat→Prop:=fun q j=>j<nk∧(q=true→∃v n xs sz ty,i6 (T0 k H) j=some (.row v n xs sz ty))
 have hz:c2V (okS A ⟨T,H,nk,ws,ws.heap.size, []⟩) ok' (D7 ⟨T,H,nk,ws,ws.heap.size, []⟩) R' H ws k e:=by
  have hok1:∀b,okS A ⟨T,H,nk,ws,ws.heap.size, []⟩ b→ok' b:=fun b h=>⟨⟨h.2.1,fun c hcb=>h.2.2 c (hsubl.subset hcb)⟩,h.1.2⟩
  have hkok:∀b,b∈bsE e'→ok' b:=fun b hb=>⟨⟨b5F (hc.own k e' hmem) hb,fun c hcb e=>hkb b hb (e▸hcb)⟩,hA b (by
   rcases hc.lb b (D0.2 ⟨k,e',hmem,hb⟩)with h|h
   · exact .inr h
   · exact .inl h)⟩
  refine⟨hok1,fun q j hj hq=>⟨hq.1,fun h=> ?_⟩,fun cs ty he=> ?_,fun z n l ty he=> ?_⟩
  · rw [a5L hj];exact hq.2 h
  · subst he
    cases e' with
    |row=>exact hr.elim
    |blk b cs' ty'=>
     simp only [okE]at hok
     split at hok
     · rename_i hno
       have hrep:=M1 (H:=H) _ _ hr.2 hno
       obtain⟨ys,hy,hh⟩:=hc.blk hf'
       have hys:=b8R hy (b0o _ _ hr.2 hno)
       rw [←hys]at hrep
       refine⟨hok,by simp [o9,hf'],b,ys,a5S hf',hkok b (by simp [bsE]),j3.mono (fun b hb=>⟨hok1 b hb,rfl⟩) _ _ hrep,fun j hj=> ?_⟩
       rw [a5w hh];simp
     · cases hok
  · subst he
    cases e' with
    |blk=>exact hr.elim
    |row v n' xs z' ty'=>
     obtain⟨rfl,rfl,rfl,hrep,hfl,hlen⟩:=hr
     have hown:=hc.row hf'
     have hrv:o9 H k=v:=by simp [o9,hf']
     rw [hrv]
     simp only [Rep]
     rcases hown.2 with⟨rfl,rfl⟩|⟨g,cap,cur,rfl,hb,hg,hnc,hcm,_⟩
     · exact⟨none,0,rfl,Nat.le_refl _,by simp,hlen,hfl, .inl rfl⟩
     · refine⟨_,cap,rfl,hnc,by simp only [maxLen]at hcm;omega,hlen,hfl, .inr ⟨g,0,xs,rfl,hkok g (by simp [bsE,q9]),j3.mono (fun b hb=>⟨hok1 b hb,rfl⟩) _ _ hrep,fun j hj=> ?_⟩⟩
       have hxl:=hrep.length
       have hlt:j<xs.length:=by omega
       have:=hown.cells (g:=g) rfl j (xs[j]) (by simp [hlt])
       rw [X9]at this
       rw [this];simp [hlt]
 --the slots
 have hg:∀d s,∃s',((∃x x',w8 sy.T d=some x∧fzO k e x=some x'∧i0 ok' ws R' x' s'∧den (T0 k H) s'=den H s∧s≠ .bad∧ment k s'=false)∨
  ¬(∃s',∃x x',w8 sy.T d=some x∧fzO k e x=some x'∧i0 ok' ws R' x' s'∧den (T0 k H) s'=den H s∧s≠ .bad∧ment k s'=false)∧s'=SV.bad):=fun d s=>b3Q (SV.bad)
 let g:Nat→SV→SV:=fun d s=>(hg d s).choose
 have hgs:∀d s,_:=fun d s=>(hg d s).choose_spec
 --the cells
 have hq:∀j cs,∃cs',((∃dcs ty,o4 sy.H j=some (.blk dcs ty)∧d8 ok' ws R' (fzC k e dcs) cs'∧O8 k cs'=false∧∀xs,o0 H cs xs→o0 (T0 k H) cs' xs)∨
  ¬(∃cs',∃dcs ty,o4 sy.H j=some (.blk dcs ty)∧d8 ok' ws R' (fzC k e dcs) cs'∧O8 k cs'=false∧∀xs,o0 H cs xs→o0 (T0 k H) cs' xs)∧cs'=cs.map fun _=>SV.bad):=fun j cs=>b3Q _
 let q:Nat→List SV→List SV:=fun j cs=>(hq j cs).choose
 have hqs:∀j cs,_:=fun j cs=>(hq j cs).choose_spec
 have hR'lt:∀ {p j},R' p j→j<nk:=fun h=>h.1
 have hgm:∀j,nk≤j→∀d s,ment j (g d s)=false:=by
  intro j hj d s
  rcases hgs d s with⟨x,x',_,_,h3,_⟩|⟨_,h⟩
  · exact h3.ment (fun p hp=>by have:=hR'lt hp;omega)
  · show ment j (hg d s).choose=false
    rw [h];rfl
 have hqm:∀j,nk≤j→∀i cs,O8 j (q i cs)=false:=by
  intro j hj i cs
  rcases hqs i cs with⟨dcs,ty,_,h3,_⟩|⟨_,h⟩
  · exact h3.ment (fun p hp=>by have:=hR'lt hp;omega)
  · show O8 j (hq i cs).choose=false
    rw [h];exact b9W _ _
 have hden:∀s,den (a2R q (T0 k H)) s=den (T0 k H) s:=fun s=>a6H (fun j=>c2H j) s
 have hcell:∀l xs,o0 (T0 k H) l xs→o0 (a2R q (T0 k H)) l xs:=fun l xs h=>a1Y h fun s _ _=>hden s
 have hksub:a7t (a2R q (T0 k H)) H:=fun j x hm=>by
  rcases mem_map hm with⟨b,cs,ty,h1,rfl⟩|⟨h1,v,n,xs,sz,ty,rfl⟩
  · exact⟨_,(a4v h1).1,fun _ h=>h⟩
  · exact⟨_,(a4v h1).1,fun _ h=>h⟩
 have hbs:∀b,b∈bs (a2R q (T0 k H))→b∈bs H:=hksub.bs
 have hks:∀b,okS A ⟨T.map fun p=>(p.1,g p.1 p.2),a2R q (T0 k H),nk,ws,ws.heap.size, []⟩ b↔ok' b:=by
  intro b
  constructor
  · intro h;exact⟨⟨h.2.1,fun c hcb=>h.2.2 c (by rw [b6F];exact hcb)⟩,h.1.2⟩
  · intro h;exact⟨⟨.inl h.1.1,h.2⟩,h.1.1,fun c hcb=>h.1.2 c (by simp only [b6F]at hcb;exact hcb)⟩
 have hkk:∀p j,R' p j→D7 ⟨T.map fun p=>(p.1,g p.1 p.2),a2R q (T0 k H),nk,ws,ws.heap.size, []⟩ p j:=by
  intro p j h
  refine⟨h.1,fun hp=> ?_⟩
  obtain⟨v,n,xs,sz,ty,h2⟩:=h.2 hp
  simp only
  rw [a9X,h2]
  exact⟨_,_,_,_,_,rfl⟩
 have up:∀x s,i0 ok' ws R' x s→i0 (okS A ⟨T.map fun p=>(p.1,g p.1 p.2),a2R q (T0 k H),nk,ws,ws.heap.size, []⟩) ws (D7 ⟨T.map fun p=>(p.1,g p.1 p.2),a2R q (T0 k H),nk,ws,ws.heap.size, []⟩) x s:=
  fun x s h=>i0.mono (fun b hb=>⟨(hks b).2 hb,rfl⟩) hkk _ _ h
 have upL:∀x s,d8 ok' ws R' x s→d8 (okS A ⟨T.map fun p=>(p.1,g p.1 p.2),a2R q (T0 k H),nk,ws,ws.heap.size, []⟩) ws (D7 ⟨T.map fun p=>(p.1,g p.1 p.2),a2R q (T0 k H),nk,ws,ws.heap.size, []⟩) x s:=
  fun x s h=>d8.mono (fun b hb=>⟨(hks b).2 hb,rfl⟩) hkk _ _ h
 refine⟨⟨T.map fun p=>(p.1,g p.1 p.2),a2R q (T0 k H),nk,ws,ws.heap.size, []⟩, ?_,⟨rfl,rfl,rfl⟩, ?_,hksub,rfl, ?_, ?_⟩
 · refine⟨Fx.refl _ _,hc.fx0,fun j x hm=> ?_,by simp only [b6F];exact hsubl.nodup hc.nd,fun b hb=>hc.lb b (hbs b hb),by simp only [c1f];exact((b5s H).map _).nodup hc.keys,fun j x hm=> ?_⟩
   · rcases mem_map hm with⟨b,cs,ty,h1,rfl⟩|⟨h1,v,n,xs,sz,ty,rfl⟩
     · obtain⟨h2,h3⟩:=a4v h1
       obtain⟨xs,h4,h5⟩:=hc.own j _ h2
       refine⟨xs,hcell _ _ ?_,h5⟩
       rcases hqs j cs with⟨dcs,ty',_,_,_,h6⟩|⟨_,h6⟩
       · exact h6 xs h4
       · show o0 _ (hq j cs).choose xs
         rw [h6]
         have hl:=a7E h4
         have:(cs.map fun _=>SV.bad)=(xs.map fun _=>SV.bad):=by
          simp only [List.map_const',hl]
         rw [this];exact b2q xs
     · exact hc.own j _ (a4v h1).1
   · rcases mem_map hm with⟨b,cs,ty,h1,rfl⟩|⟨h1,_⟩
     · exact hc.lt j _ (a4v h1).1
     · exact hc.lt j _ (a4v h1).1
 · refine⟨fun d x hx=> ?_,fun j x hx=> ?_,hs.nk,fun j hj=>b5h (hgm j hj),fun j hj=>b5w (hqm j hj)⟩
   · obtain⟨y,hy,rfl⟩:=c2b hx
     unfold fzG
     cases hfz:fzO k e y with
     |none=>exact .inl rfl
     |some x'=>
      right
      have hyne:y≠ .bad:=fun e=>by subst e;simp [fzO]at hfz
      rcases hs.T d y hy with h|⟨s,h1,h2⟩
      · exact absurd h hyne
      · simp only at h1 h2
        refine⟨g d s,by simp only [b3E,h1];rfl,up _ _ ?_⟩
        rcases hgs d s with⟨y2,x2,h3,h4,h5,_⟩|⟨h3,_⟩
        · rw [hy]at h3;cases h3
          rw [hfz]at h4;cases h4
          exact h5
        · exfalso
          obtain⟨s',g1,g2,g3⟩:=b7x hz y s x' h2 hfz
          exact h3 ⟨s',y,x',hy,hfz,g1,g2,h2.ne hyne,g3⟩
   · obtain⟨hjk,y,hy,rfl⟩:=c1C hx
     obtain⟨e1,h1,h2⟩:=hs.H j y hy
     simp only at h1 h2
     simp only
     rw [a9X,a5L hjk,h1]
     cases y with
     |blk dcs ty=>
      cases e1 with
      |row=>exact h2.elim
      |blk b cs ty'=>
       obtain⟨rfl,h2⟩:=h2
       refine⟨_,rfl, ?_⟩
       simp only [fzE,a3z]
       refine⟨trivial,upL _ _ ?_⟩
       rcases hqs j cs with⟨dcs',ty',h3,h4,_⟩|⟨h3,_⟩
       · rw [hy]at h3;cases h3;exact h4
       · exfalso
         obtain⟨r',g1,g2,g3⟩:=b8s hz dcs cs h2
         exact h3 ⟨r',dcs,ty,hy,g1,g2,g3⟩
     |row z n l ty=>
      cases e1 with
      |blk=>exact h2.elim
      |row v n' xs z' ty'=>
       refine⟨_,rfl, ?_⟩
       simp only [a3z]at h2
       simp only [fzE,a3z]
       exact⟨h2.1,h2.2.1,h2.2.2.1,j3.mono (fun b hb=>⟨(hks b).2 (hz.ok b hb),rfl⟩) _ _ h2.2.2.2.1,h2.2.2.2.2⟩
 · intro d s hd
   simp only [b3E]at hd
   cases hl:C6 T d with
   |none=>rw [hl]at hd;cases hd
   |some s0=>
    rw [hl]at hd
    simp only [Option.map_some,Option.some.injEq]at hd
    rcases hgs d s0 with⟨x,x',h3,h4,h5,h6,h7,_⟩|⟨_,h3⟩
    · right
      refine⟨s0,rfl,h7, ?_⟩
      simp only
      rw [hden,←hd];exact h6
    · left;rw [←hd];exact h3
 · intro l r l' hl hfl
   obtain⟨r',g1,g2,_⟩:=a3M hz l r l' hl hfl
   refine⟨r',upL _ _ g1, ?_⟩
   simp only
   rw [←g2,X4,X4]
   exact List.map_congr_left fun s _=>hden s
end
end Go.Sx
namespace Go.Sx
open Go Go.RowKit
mutual
theorem a8X {ok ok':Nat→Prop} {w w':World}:∀(x:D) (y:Value),Rep ok w x y→a4S x=true→Rep ok' w' x y
 | .v x,y,h,_=>h
 | .agg l,y,h,hc=>by
  simp only [Rep]at h⊢
  obtain⟨a,h1,h2,h3⟩:=h
  exact⟨a,h1,a9Y l _ h2 (by simpa [a4S]using hc),h3⟩
 | .tup l,y,h,hc=>by
  simp only [Rep]at h⊢
  obtain⟨a,h1,h2⟩:=h
  exact⟨a,h1,a9Y l _ h2 (by simpa [a4S]using hc)⟩
 | .lst _ _ _,_,_,h=>by simp [a4S]at h
 | .ptr _ _,_,_,h=>by simp [a4S]at h
 | .mp _,_,_,h=>by simp [a4S]at h
 | .fn _ _ _,_,_,h=>by simp [a4S]at h
 | .own _ _,_,_,h=>by simp [a4S]at h
 | .ownx _ _,_,_,h=>by simp [a4S]at h
 | .row _ _,_,_,h=>by simp [a4S]at h
 | .elr _ _ _ _,_,_,h=>by simp [a4S]at h
 | .osl _ _ _ _ _,_,_,h=>by simp [a4S]at h
 | .und,_,_,h=>by simp [a4S]at h
 | .bad,_,_,h=>by simp [a4S]at h
theorem a9Y {ok ok':Nat→Prop} {w w':World}:∀(l:List D) (r:List Value),j3 ok w l r→b5n l=true→j3 ok' w' l r
 | [], [],_,_=>trivial
 |d::l,y::r,h,hc=>by
  simp only [j3]at h
  simp only [b5n]at hc
  split at hc
  · rename_i hd;exact⟨a8X d y h.1 hd,a9Y l r h.2 hc⟩
  · cases hc
 | [],_::_,h,_=>by simp [j3]at h
 |_::_, [],h,_=>by simp [j3]at h
end
section
variable {A : Nat → Prop} {Xx : Cx} {X : Cy} {w0 : World} {bor : List Nat} {st : St} {sy : Sy} {a : Act} {w : World}
theorem b7r {s1 s2 s3:St} (h:c0L s1 s2) (h':c0L s2 s3):c0L s1 s3:=by
 intro d s hd
 rcases h' d s hd with e|⟨t,h1,h2,h3⟩
 · exact .inl e
 · rcases h d t h1 with e|⟨u,h4,h5,h6⟩
   · exact absurd e h2
   · exact .inr ⟨u,h4,h5,by rw [h3,h6]⟩
theorem a5r (hA:∀b,(Xx.w0.heap.size≤b∨b∈Xx.bor)→A b):∀(ks:List Nat) {st:St} {sy sy':Sy} {l l':List D} {r:List SV},Cls Xx st.H st.nk w w→At st w→Sim A st sy→d8 (okS A st) w (D7 st) l r→a5l ks sy l=some (sy',l')→
 ∃st' r',Cls Xx st'.H st'.nk w w∧At st' w∧Sim A st' sy'∧a7t st'.H st.H∧c0L st st'∧d8 (okS A st') w (D7 st') l' r'∧j7 st'.H r'=j7 st.H r
 | [],st,sy,sy',l,l',r,hc,hat,hs,hl,h=>by
  simp only [a5l]at h;cases h
  exact⟨st,r,hc,hat,hs,a7t.refl _,fun d s h=>by
   by_cases hb:s= .bad
   · exact .inl hb
   · exact .inr ⟨s,h,hb,rfl⟩,hl,rfl⟩
 |k::ks,st,sy,sy',l,l',r,hc,hat,hs,hl,h=>by
  obtain⟨T,H,nk⟩:=sy
  simp only [a5l]at h
  split at h
  · rename_i e he
    split at h
    · rename_i l1 hok hfl
      simp only [b8g,b8t]at h
      obtain⟨st1,c1,a1,s1,b1,n1,o1,f1⟩:=c2p hA hc hat hs he hok
      obtain⟨r1,g1,g2⟩:=f1 l r l1 hl hfl
      obtain⟨st2,r2,c2,a2,s2,b2,o2,g3,g4⟩:=a5r hA ks c1 a1 s1 g1 h
      exact⟨st2,r2,c2,a2,s2,b2.trans b1,b7r o1 o2,g3,by rw [g4,g2]⟩
    · cases h
  · cases h
def now (st:St) (w:World):St:=⟨st.T,st.H,st.nk,w,w.heap.size, []⟩
theorem Rel.now (hr:Rel Xx st a w):Rel Xx (now st w) a w:=by
 refine⟨hr.size,hr.T,hr.dfs, ?_,Nat.le_refl _,by simp [Sx.now]⟩
 have hc:=hr.cls
 exact⟨Fx.refl _ _,hc.fx0,hc.own,hc.nd,hc.lb,hc.keys,hc.lt⟩
theorem a4T (hc:Cls Xx st.H st.nk st.w w):∀b,okS A st b→okS A (now st w) b∧w.heap[b]?=st.w.heap[b]?:=fun b hb=>
 ⟨⟨⟨.inl (Nat.lt_of_lt_of_le hb.2.1 hc.fx.size),hb.1.2⟩,Nat.lt_of_lt_of_le hb.2.1 hc.fx.size,hb.2.2⟩,hc.fx.block b hb.2.1 hb.2.2⟩
theorem Sim.now (hs:Sim A st sy) (hc:Cls Xx st.H st.nk st.w w):Sim A (now st w) sy:=by
 obtain⟨T,H,nk⟩:=sy
 exact hs.mono (a4T hc) (fun _ _ h=>h) (fun _ _ h=>h) (fun _ _ h=>h) rfl hs.fT hs.fH
theorem d8.now {l:List D} {r:List SV} (h:d8 (okS A st) st.w (D7 st) l r) (hc:Cls Xx st.H st.nk st.w w):d8 (okS A (now st w)) w (D7 (now st w)) l r:=d8.mono (a4T hc) (fun _ _ h=>h) _ _ h
theorem Rel.past {w':World} (hr:Rel Xx st a w) (hb:Below w.heap.size w w'):Rel Xx (Sx.now st w') a w':=by
 have hc:=hr.cls
 have hown:∀b,b∈bs st.H→w'.heap[b]?=w.heap[b]?:=fun b hbm=>hb.block b (hc.lt_size hbm)
 exact⟨hr.size,hr.T,hr.dfs,⟨Fx.refl _ _,hc.fx0.of_below hb,fun k e he=>Y4 (hc.own k e he) fun b hbe=>hown b (D0.2 ⟨k,e,he,hbe⟩),hc.nd,hc.lb,hc.keys,hc.lt⟩,Nat.le_refl _,by simp [Sx.now]⟩
theorem b4V {w':World} (hc:Cls Xx st.H st.nk st.w w) (hb:Below w.heap.size w w'):∀b,okS A st b→okS A (now st w') b∧w'.heap[b]?=st.w.heap[b]?:=fun b h=>
 ⟨⟨⟨.inl (Nat.lt_of_lt_of_le h.2.1 (Nat.le_trans hc.fx.size hb.size)),h.1.2⟩,Nat.lt_of_lt_of_le h.2.1 (Nat.le_trans hc.fx.size hb.size),h.2.2⟩,by
  rw [hb.block b (Nat.lt_of_lt_of_le h.2.1 hc.fx.size)];exact hc.fx.block b h.2.1 h.2.2⟩
theorem Sim.past {w':World} (hs:Sim A st sy) (hc:Cls Xx st.H st.nk st.w w) (hb:Below w.heap.size w w'):Sim A (Sx.now st w') sy:=by
 obtain⟨T,H,nk⟩:=sy
 exact hs.mono (b4V hc hb) (fun _ _ h=>h) (fun _ _ h=>h) (fun _ _ h=>h) rfl hs.fT hs.fH
def LvY (A:Nat→Prop) (Xx:Cx) (H:Hp) (w:World) (KY:Sy→Prop) (a':Act) (w':World):Prop:=∃st' sy',KY sy'∧Sim A st' sy'∧Lv Xx H w st' a' w'
theorem a5M (v:Value):(q9 v).Nodup:=by unfold q9;split<;>simp
theorem b3W {k b:Nat} {e e':Ent}:∀ {H:Hp},(bs H).Nodup→i6 H k=some e→b∈bsE e→b∉bsE e'→b∉bs (a1u H k e')
 | [],_,h,_,_=>by simp [i6]at h
 |(j,ej)::H,hn,h,hb,hb'=>by
  simp only [bs,List.nodup_append]at hn
  simp only [i6]at h
  simp only [a1u]
  cases hj:Nat.beq j k with
  |true=>
   rw [hj]at h;cases h
   simp only [bs,List.mem_append,not_or]
   exact⟨hb',fun hm=>hn.2.2 b hb b hm rfl⟩
  |false=>
   rw [hj]at h
   simp only [bs,List.mem_append,not_or]
   exact⟨fun hm=>hn.2.2 b hm b (D0.2 ⟨k,e,p0 h,hb⟩) rfl,b3W hn.2.1 h hb hb'⟩
theorem c1m {k:Nat} {v v':Value} {n n' z z' ty ty':Nat} {xs xs':List Value} {w':World} (hr:Rel Xx st a w) (hat:At st w) (hf:i6 st.H k=some (.row v n xs z ty)) (hfx:Fx (q9 v) w w') (hown:w'.ownsRow 0 ty' z' v' n' xs')
 (hb:∀b,b∈q9 v'→b∈q9 v∨w.heap.size≤b):Rel Xx ⟨a1w k st.T,a1u (E4 k st.H) k (.row v' n' xs' z' ty'),st.nk,w',w'.heap.size, []⟩ a w':=by
 have hsplit:∃H1 H2,st.H=H1++(k, .row v n xs z ty)::H2∧(∀e',(k,e')∉H1):=by
  have:∀H:Hp,i6 H k=some (.row v n xs z ty)→∃H1 H2,H=H1++(k, .row v n xs z ty)::H2∧(∀e',(k,e')∉H1):=by
   intro H
   induction H with
   |nil=>intro h;simp [i6]at h
   |cons x H ih=>
    obtain⟨j,e⟩:=x
    intro h
    simp only [i6]at h
    cases hb:Nat.beq j k with
    |true=>rw [hb]at h;cases h;have:=B9 hb;subst this;exact⟨[],H,rfl,by simp⟩
    |false=>
     rw [hb]at h
     obtain⟨H1,H2,rfl,h1⟩:=ih h
     refine⟨(j,e)::H1,H2,rfl,fun e' hm=> ?_⟩
     rcases List.mem_cons.1 hm with hm|hm
     · cases hm;exact a2Y hb rfl
     · exact h1 e' hm
  exact this _ hf
 obtain⟨H1,H2,hH,hk1⟩:=hsplit
 have hupd:∀e,a1u (E4 k st.H) k e=E4 k H1++(k,e)::E4 k H2:=by
  intro e
  rw [hH]
  clear hH hf
  induction H1 with
  |nil=>simp [E4,a1u]
  |cons x H1 ih=>
   obtain⟨j,ej⟩:=x
   have hj:j≠k:=fun e=>hk1 ej (by rw [e];exact List.mem_cons_self)
   simp only [List.cons_append,E4,a1u,a0c hj]
   rw [ih fun e' hm=>hk1 e' (List.mem_cons_of_mem _ hm)]
 have hc:=hr.cls
 have hcw:Cls Xx st.H st.nk w w:=⟨Fx.refl _ _,hc.fx0,hc.own,hc.nd,hc.lb,hc.keys,hc.lt⟩
 have hnin:∀i,i∉q9 v→∀b,b∈q9 v→b≠i:=fun i hi b hb e=>hi (e▸hb)
 obtain⟨hcls,hden⟩:=hcw.grow (v':=v') (n:=n') (sz:=z') (ty:=ty') (xs:=xs') hH hk1 hown (fun i hi hn=>hfx.block i hi (hnin i (by simpa [bsE]using hn))) hfx.size hfx.os hfx.tape hfx.output (by simpa [bsE]using hb)
  (fun b hb=>hc.lb b (D0.2 ⟨k,_,p0 hf,hb⟩))
 refine⟨hr.size,fun d s hlk=> ?_,hr.dfs,by rw [hupd];exact hcls,Nat.le_refl _,by simp⟩
 rcases a9x hlk with h|⟨h,hm⟩
 · exact .inl h
 · rcases hr.T d s h with h|h
   · exact .inl h
   · right;rw [h];simp only;rw [hupd,hden s hm]
theorem b3D {k:Nat} {e:Ent}:∀ {H:Hp},i6 H k=some e→∃H1 H2,H=H1++(k,e)::H2∧(∀e',(k,e')∉H1)∧∀e',a1u H k e'=H1++(k,e')::H2
 | [],h=>by simp [i6]at h
 |(j,ej)::H,h=>by
  simp only [i6]at h
  cases hb:Nat.beq j k with
  |true=>rw [hb]at h;cases h;have:=B9 hb;subst this;exact⟨[],H,rfl,by simp,fun e'=>by simp [a1u]⟩
  |false=>
   rw [hb]at h
   obtain⟨H1,H2,rfl,h1,h2⟩:=b3D h
   refine⟨(j,ej)::H1,H2,rfl,fun e' hm=> ?_,fun e'=>by simp only [a1u,hb,h2];rfl⟩
   rcases List.mem_cons.1 hm with hm|hm
   · cases hm;exact a2Y hb rfl
   · exact h1 e' hm
theorem b9l {v:Value} {w w':World} (h:Fx (q9 v) w w') (hlt:∀b,b∈q9 v→b<w.heap.size):∃w1,Below w.heap.size w w1∧w'.heap.size=w1.heap.size∧(∀i,i∉q9 v→w'.heap[i]?=w1.heap[i]?)∧w'.os=w1.os∧w'.tape=w1.tape∧w'.output=w1.output:=by
 have hcases:q9 v= []∨∃g,q9 v= [g]:=by
  unfold q9
  split
  · exact .inr ⟨_,rfl⟩
  · exact .inl rfl
 rcases hcases with h0|⟨g,h0⟩
 · rw [h0]at h⊢
   exact⟨w',⟨h.os,h.tape,h.output,h.size,fun i hi=>h.block i hi (by simp)⟩,rfl,fun _ _=>rfl,rfl,rfl,rfl⟩
 · rw [h0]at h hlt⊢
   have hg:=hlt g (by simp)
   refine⟨{ w' with heap:=w'.heap.setIfInBounds g (w.heap[g]'hg)},⟨h.os,h.tape,h.output,by simpa using h.size,fun i hi=> ?_⟩,by simp,fun i hi=> ?_,rfl,rfl,rfl⟩
   · simp only [Array.getElem?_setIfInBounds]
     by_cases e:g=i
     · subst e
       rw [if_pos rfl,if_pos (Nat.lt_of_lt_of_le hg h.size),Array.getElem?_eq_getElem hg]
     · rw [if_neg e]
       exact h.block i hi (by simpa using e)
   · simp only [Array.getElem?_setIfInBounds]
     rw [if_neg (fun e=>hi (by simp [e]))]
theorem c1V {A:Nat→Prop} {X:Cy} {w0:World} {bor:List Nat} {st1:St} {sy1:Sy} {H0:Hp} {a:Act} {w w':World} {KY:Sy→Prop} {dst:Option Nat} {k z n ty:Nat} {v:Value} {xs:List Value} {l':List D}
 (hr1:Rel (cx X w0 bor) st1 a w) (a1:At st1 w) (s1:Sim A st1 sy1) (b1:a7t st1.H H0) (hf':i6 st1.H k=some (.row v n xs z ty)) (hk:Y1 X ⟨sy1.T,b0E sy1.H k (.row z n l' ty),sy1.nk⟩ dst (.tup []) KY)
 (hrow:a8W (fun b=>okS A st1 b∧b∉q9 v) w' z n l' ty v) (hfx:Fx (q9 v) w w'):∃st' sy',KY sy'∧Sim A st' sy'∧Lv (cx X w0 bor) H0 w st' (a.put dst (.tuple #[])) w':=by
 obtain⟨T,H,nk⟩:=sy1
 obtain⟨T',H',nk',ws,lo,iv⟩:=st1
 obtain⟨h1,h2,h3⟩:=a1
 simp only at h1 h2 h3
 subst h1 h2 h3
 have c1:Cls (cx X w0 bor) H' nk' ws ws:=hr1.cls
 have hlt:∀b,b∈q9 v→b<ws.heap.size:=fun b hb=>c1.lt_size (D0.2 ⟨k,_,p0 hf',hb⟩)
 obtain⟨w1,hb1,hz1,hh1,ho1,ho2,ho3⟩:=b9l hfx hlt
 have hr2:=hr1.past hb1
 have s2:=s1.past c1 hb1
 obtain⟨xs',hown',hrp,hfl',hlen'⟩:=hrow
 simp only at hf'
 obtain⟨H1,H2,hH,hk1,hupd⟩:=b3D hf'
 have hd:∀j,bOf (H1++(k, .row v n xs' z ty)::H2) j=bOf (H1++(k, .row v n xs z ty)::H2) j∧o9 (H1++(k, .row v n xs' z ty)::H2) j=o9 (H1++(k, .row v n xs z ty)::H2) j:=by
  intro j
  simp only [bOf,o9,a2D (e:= .row v n xs' z ty) (e0:= .row v n xs z ty) hk1]
  by_cases hj:j=k
  · subst hj;simp [a2f hk1]
  · simp [hj]
 have hr3:Rel (cx X w0 bor) ⟨T',H1++(k, .row v n xs' z ty)::H2,nk',w1,w1.heap.size, []⟩ a w':=by
  have hr2':Rel (cx X w0 bor) ⟨T',H1++(k, .row v n xs z ty)::H2,nk',w1,w1.heap.size, []⟩ a w1:=by
   have:=hr2
   unfold Sx.now at this
   simp only at this
   rw [hH]at this
   exact this
  exact hr2'.swap rfl hd hz1 hh1 ho1 ho2 ho3 hown'
 have hr4:=hr3.now
 have s3:Sim A ⟨T',a1u H' k (.row v n xs' z ty),nk',w1,w1.heap.size, []⟩ ⟨T,b0E H k (.row z n l' ty),nk⟩:=by
  refine b4t (e0:= .row v n xs z ty) s2 hf' ?_ rfl (fun _=>⟨_,_,_,_,_,rfl⟩) fun j hj=>rfl
  refine⟨rfl,rfl,rfl,j3.mono (fun b hb=>⟨?_,(hh1 b hb.2).symm⟩) _ _ hrp,hfl',hlen'⟩
  exact(b4V c1 hb1 b hb.1).1
 rw [hupd]at s3
 have s4:=s3.now hr3.cls
 have hput:=K8 (w0:=w0) (bor:=bor) (s:= .v (.tuple #[])) hk s4 (by simp only [i0];exact .inr ⟨_,rfl,trivial⟩)
 obtain⟨st2,⟨sy2,g1,g2⟩,g3,g4⟩:=a2C hr4 hput (v:= .tuple #[]) (.inr rfl)
 refine⟨st2,sy2,g1,g2,g3,hfx.wide fun b hb=>b1.bs b (D0.2 ⟨k,_,p0 hf',hb⟩),fun b hb2=> .inl ?_⟩
 rw [g4]at hb2
 refine b1.bs b ?_
 have:bs (H1++(k,Ent.row v n xs' z ty)::H2)=bs H':=by rw [hH];exact b0P rfl
 rw [←this];exact hb2
theorem b9A (hA:∀b,(w0.heap.size≤b∨b∈bor)→A b) {o:Oper} {Q:Exit→Act→World→Prop} {KY:Sy→Prop} {f:FuncId} {args:List D} {args':List SV} (hr:Rel (cx X w0 bor) st a w) (hs:Sim A st sy) (ha:d8 (okS A st) st.w (D7 st) args args')
 (h:match(generalizing:=false) true,args with
 |true,x::rest=>match a5l (b8y sy.H rest) sy (x::rest)with
  |some (st', .row k _::fa)=>match V9 fa,o4 st'.H k with
   |true,some e=>(b1D X.P f k e fa st' fun sy' x=>Y1 X sy' o.dst x KY)∨(c0G X.P f k e fa st' fun sy' x=>Y1 X sy' o.dst x KY)
   |_,_=>False
  |_=>False
 |_,_=>False) (hout:a2k (cx X w0 bor) st a o (.call f args')):o.wp X.P a w (LvY A (cx X w0 bor) st.H w KY) Q:=by
 have hr0:=hr.now
 have hs0:=hs.now hr.cls
 have ha0:=ha.now hr.cls
 split at h
 · rename_i x rest _ _
   split at h
   · rename_i sy1 k z0 fa hfz
     split at h
     · rename_i e hcl hfe
       obtain⟨st1,l1,c1,a1,s1,b1,o1,g1,g2⟩:=a5r (Xx:=cx X w0 bor) hA _ hr0.cls ⟨rfl,rfl,rfl⟩ hs0 ha0 hfz
       have hr1:Rel (cx X w0 bor) st1 a w:=by
        refine⟨hr.size,fun d s hd=> ?_,hr.dfs, ?_, ?_, ?_⟩
        · rcases o1 d s hd with e|⟨s0,h1,h2,h3⟩
          · exact .inl e
          · rcases hr0.T d s0 h1 with e|e
            · exact absurd e h2
            · right;rw [e,h3]
        · rw [a1.1];exact c1
        · rw [a1.2.1];exact Nat.le_refl _
        · rw [a1.2.2];simp
       cases l1 with
       |nil=>simp [d8]at g1
       |cons s0 fa'=>
        simp only [d8]at g1
        obtain⟨g0,g1⟩:=g1
        simp only [i0]at g0
        obtain⟨rfl,hkey⟩:=g0
        obtain⟨e',hf',he⟩:=s1.H _ _ hfe
        cases e with
        |blk=>rcases h with h|h<;>(obtain⟨z,n,l,ty,_⟩:=h.ex;simp_all)
        |row z n l ty=>
        cases e' with
        |blk=>exact he.elim
        |row v n1 xs z1 ty1=>
         obtain⟨rfl,rfl,rfl,hrep,hfl,hlen⟩:=he
         rw [a1.1]at hrep
         have hown:=c1.row hf'
         have hdv:den st1.H (.row k)=v:=by simp [den,o9,hf']
         have hrepA:=M1 (H:=st1.H) _ _ g1 hcl
         have hnok:∀b,b∈q9 v→¬okS A st1 b:=fun b hb hok=>hok.2.2 b (D0.2 ⟨k,_,p0 hf',hb⟩) rfl
         have hoksz:∀b,okS A st1 b→b<w.heap.size:=fun b hb=>by have:=hb.2.1;rw [a1.1]at this;exact this
         have hargs:(j7 st.H args').toArray=(v::j7 st1.H fa').toArray:=by
          have:j7 st1.H (.row k::fa')=j7 st.H args':=g2
          rw [←this];simp only [j7,hdv]
         rcases h with h|h
         rotate_left
         · obtain⟨_,_,_,_,n',l',he1,⟨rfl,hd⟩,hk⟩:=h.ex
           cases he1
           have hcall:=hd (okS A st1) w v _ ⟨xs,hown,hrep,hfl,hlen⟩ hnok hrepA hoksz
           rw [←hargs]at hcall
           have hbody:=a1g hcall fun e w' ⟨he,_⟩=>⟨_,he⟩
           unfold Oper.wp
           rw [show(execOp a.eval o).run X.P w=_ from hout w hbody]
           simp only [Oper.upon]
           refine hcall.mono fun e w' ⟨he,hrow,hb⟩=> ?_
           subst he
           simp only
           exact c1V hr1 a1 s1 b1 hf' (a3S hk) hrow hb
         obtain⟨_,_,_,_,z',n',l',he1,hd,hk⟩:=h.ex
         cases he1
         have hcall:=hd (okS A st1) w v _ ⟨xs,hown,hrep,hfl,hlen⟩ hnok hrepA hoksz
         rw [←hargs]at hcall
         have hbody:=a1g hcall fun e w' ⟨v',he,_⟩=>⟨_,he⟩
         unfold Oper.wp
         rw [show(execOp a.eval o).run X.P w=_ from hout w hbody]
         simp only [Oper.upon]
         refine hcall.mono fun e w' ⟨v',he,hfr,⟨xs',hown',hrp,hfl',hlen'⟩,hb⟩=> ?_
         subst he
         simp only
         have hk:=a3S hk
         rw [a9B]at hk
         have hrel2:=c1m hr1 a1 hf' hb hown' hfr
         obtain⟨T,H,nk⟩:=sy1
         obtain⟨T',H',nk',ws,lo,iv⟩:=st1
         obtain⟨h1,h2,h3⟩:=a1
         simp only at h1 h2 h3
         subst h1 h2 h3
         have hlt:∀c,c∈bs H'→c<ws.heap.size:=fun c hc=>c1.lt_size hc
         have hfxH:Fx (bs H') ws w':=hb.wide fun b hb=>D0.2 ⟨k,_,p0 hf',hb⟩
         have hsim:Sim A ⟨a1w k T',a1u (E4 k H') k (.row v' n' xs' z' ty),nk',w',w'.heap.size, []⟩ ⟨a5X k T,b0E (a4U k H) k (.row z' n' l' ty),nk⟩:=by
          refine b8J (lo:=ws.heap.size) (iv:= []) (w:=ws) s1 hf' (fun b hb=> ?_) hfxH (.inl rfl) ?_ hfl' hlen'
          · rcases hfr b hb with h|h
            · exact .inl (D0.2 ⟨k,_,p0 hf',h⟩)
            · exact .inr h
          · refine j3.mono (fun b hbk=>⟨?_,rfl⟩) _ _ hrp
            obtain⟨hb1,hb2⟩:=hbk
            have hne:∀c,c∈bs (a1u (E4 k H') k (.row v' n' xs' z' ty))→c≠b:=by
             intro c hc e
             subst e
             rcases hb1 with hb1|hb1|hb1
             · rcases a9G hc with hc|hc
               · rw [a4R]at hc
                 exact hb1.2.2 c hc rfl
               · exact hb2 hc
             · exact b3W (by rw [a4R];exact c1.nd) (show i6 (E4 k H') k=some (a1A k _) by rw [P9,hf'];rfl) (by rw [a8C];exact hb1) hb2 hc
             · rcases a9G hc with hc|hc
               · rw [a4R]at hc
                 have:=hlt c hc;omega
               · exact hb2 hc
            rcases hb1 with hb1|hb1|hb1
            · exact⟨⟨.inl (Nat.lt_of_lt_of_le hb1.2.1 hb.size),hb1.1.2⟩,Nat.lt_of_lt_of_le hb1.2.1 hb.size,hne⟩
            · have hbm:b∈bs H':=D0.2 ⟨k,_,p0 hf',hb1⟩
              have hlw:=Nat.lt_of_lt_of_le (hlt b hbm) hb.size
              exact⟨⟨.inl hlw,hA b (c1.lb b hbm).symm⟩,hlw,hne⟩
            · exact⟨⟨.inl hb1.2,hA b (.inl (Nat.le_trans c1.fx0.size hb1.1))⟩,hb1.2,hne⟩
         have hfu:i6 (a1u (E4 k H') k (.row v' n' xs' z' ty)) k=some (.row v' n' xs' z' ty):=by
          rw [a1p (e0:=a1A k _) (by rw [P9,hf'];rfl)];simp
         have hput:=K8 (w0:=w0) (bor:=bor) (s:= .row k) hk hsim (by simp only [i0];exact⟨trivial,hkey.1,fun _=>⟨_,_,_,_,_,hfu⟩⟩)
         obtain⟨st2,⟨sy2,h1,h2⟩,h3,h4⟩:=a2C hrel2 hput (v:=v') (.inr (by simp [den,o9,hfu]))
         refine⟨st2,sy2,h1,h2,h3,hb.wide fun b hb=>b1.bs b (D0.2 ⟨k,_,p0 hf',hb⟩),fun b hb2=> ?_⟩
         rw [h4]at hb2
         rcases a9G hb2 with hb2|hb2
         · rw [a4R]at hb2;exact .inl (b1.bs b hb2)
         · rcases hfr b hb2 with h|h
           · exact .inl (b1.bs b (D0.2 ⟨k,_,p0 hf',h⟩))
           · exact .inr h
     · exact h.elim
   · exact h.elim
 · exact h.elim
def LvK (A:Nat→Prop) (Xx:Cx) (H:Hp) (w:World) (KY:Sy→Prop) (a':Act) (w':World):Prop:=∃st' sy',KY sy'∧Sim A st' sy'∧Lv Xx H w st' a' w'∧(∀i,i<w.heap.size→w'.heap[i]?=w.heap[i]?)∧KB H w st'.H
theorem b7s (hA:∀b,(w0.heap.size≤b∨b∈bor)→A b) {o:Oper} {Q:Exit→Act→World→Prop} {KY:Sy→Prop} {f:FuncId} {args:List D} {args':List SV} (hr:Rel (cx X w0 bor) st a w) (hs:Sim A st sy) (ha:d8 (okS A st) st.w (D7 st) args args')
 (hcl:V9 args=true) (h:b1O X.P f args sy fun sy' x=>Y1 X sy' o.dst x KY) (hout:a2k (cx X w0 bor) st a o (.call f args')):o.wp X.P a w (LvK A (cx X w0 bor) st.H w KY) Q:=by
 have hr0:=hr.now
 have hs0:=hs.now hr.cls
 have ha0:=ha.now hr.cls
 obtain⟨z,n,l,ty,hd,hk⟩:=h.ex
 have hrep:=M1 (H:=st.H) _ _ ha0 hcl
 have hcall:=hd (okS A (now st w)) w _ hrep fun b hb=>hb.2.1
 have hbody:=a1g hcall fun e w' ⟨v,he,_⟩=>⟨_,he⟩
 unfold Oper.wp
 rw [show(execOp a.eval o).run X.P w=_ from hout w hbody]
 simp only [Oper.upon]
 refine hcall.mono fun e w' ⟨v,he,hfr,⟨xs,hown,hrp,hfl,hlen⟩,hb⟩=> ?_
 subst he
 simp only
 obtain⟨T,H,nk⟩:=sy
 obtain⟨T',H',nk',ws,lo,iv⟩:=st
 have hnk:nk=nk':=hs.nk
 subst hnk
 have hownB:=a5M v
 have hblk:∀i,i<w.heap.size→w'.heap[i]?=w.heap[i]?:=fun i hi=>hb.block i hi
 have hrel:=hr0.cons (w':=w') (e:= .row v n xs z ty) (hs.fT nk (Nat.le_refl _)) (hs.fH nk (Nat.le_refl _)) hb.size hblk hb.os hb.tape hb.output hown hfr hownB
 have hrel2:=hrel.now
 have hlt:∀c,c∈bs H'→c<w.heap.size:=fun c hc=>hr.cls.lt_size hc
 have hsim:Sim A ⟨T',(nk, .row v n xs z ty)::H',nk+1,w',w'.heap.size, []⟩ ⟨T,(nk, .row z n l ty)::H,nk+1⟩:=by
  refine b6j (lo:=w.heap.size) (iv:= []) (w:=w) hs0 (fun b hb=> .inr (hfr b hb)) ((Fx.refl _ _).of_below hb) (.inl rfl) ?_ hfl hlen
  refine j3.mono (fun b hbk=>⟨?_,rfl⟩) _ _ hrp
  obtain⟨hb1,hb2⟩:=hbk
  have hne:∀c,c∈bs ((nk,Ent.row v n xs z ty)::H')→c≠b:=by
   intro c hc e
   subst e
   simp only [bs,bsE,List.mem_append]at hc
   rcases hc with hc|hc
   · exact hb2 hc
   · rcases hb1 with hb1|hb1
     · exact hb1.2.2 c hc rfl
     · have:=hlt c hc;omega
  rcases hb1 with hb1|hb1
  · exact⟨⟨.inl (Nat.lt_of_lt_of_le hb1.2.1 hb.size),hb1.1.2⟩,Nat.lt_of_lt_of_le hb1.2.1 hb.size,hne⟩
  · exact⟨⟨.inl hb1.2,hA b (.inl (Nat.le_trans hr.cls.fx0.size hb1.1))⟩,hb1.2,hne⟩
 have hput:=K8 (w0:=w0) (bor:=bor) (s:= .row nk) hk hsim (by simp only [i0];exact⟨trivial,by simp only;omega,fun _=>⟨_,_,_,_,_,by simp [i6];exact⟨rfl,rfl,rfl,rfl,rfl⟩⟩⟩)
 obtain⟨st2,⟨sy2,h1,h2⟩,h3,h4⟩:=a2C hrel2 hput (v:=v) (.inr (by simp [den,o9,now,i6]))
 refine⟨st2,sy2,h1,h2,⟨h3,(Fx.refl _ _).of_below hb,fun b hb2=> ?_⟩,hblk,fun k e hm b hb2=> ?_⟩
 rotate_left
 · rw [h4]at hm
   simp only [now]at hm
   rcases List.mem_cons.1 hm with hm|hm
   · cases hm;exact .inl (hfr b hb2)
   · exact .inr ⟨e,hm,hb2⟩
 rw [h4]at hb2
 simp only [now,bs,bsE,List.mem_append]at hb2
 rcases hb2 with hb2|hb2
 · exact .inr (hfr b hb2)
 · exact .inl hb2
abbrev b2N:=Value×Nat×List Value×Nat×TypeId
def a0E:Nat→List b2N→Hp→Hp
 |_, [],H=>H
 |k,(v,n,xs,z,ty)::rs,H=>a0E (k+1) rs ((k, .row v n xs z ty)::H)
theorem b2m:∀(rs:List b2N) (k:Nat) (H:Hp) (b:Nat),b∈bs (a0E k rs H)↔b∈bs H∨b∈rs.flatMap fun r=>q9 r.1
 | [],k,H,b=>by simp [a0E]
 |(v,n,xs,z,ty)::rs,k,H,b=>by
  rw [a0E,b2m rs]
  simp only [bs,bsE,List.mem_append,List.flatMap_cons]
  constructor
  · rintro((h|h)|h)
    · exact .inr (.inl h)
    · exact .inl h
    · exact .inr (.inr h)
  · rintro(h|h|h)
    · exact .inl (.inr h)
    · exact .inl (.inl h)
    · exact .inr h
theorem b3n:∀(rs:List b2N) (k:Nat) (H:Hp) (j:Nat) (e:Ent),(j,e)∈a0E k rs H→(j,e)∈H∨(∀b,b∈bsE e→b∈rs.flatMap fun r=>q9 r.1)
 | [],k,H,j,e,h=> .inl h
 |(v,n,xs,z,ty)::rs,k,H,j,e,h=>by
  rw [a0E]at h
  rcases b3n rs _ _ _ _ h with h|h
  · rcases List.mem_cons.1 h with h|h
    · cases h
      exact .inr fun b hb=>by simp only [List.flatMap_cons,List.mem_append];exact .inl hb
    · exact .inl h
  · exact .inr fun b hb=>by simp only [List.flatMap_cons,List.mem_append];exact .inr (h b hb)
theorem b0z {j:Nat}:∀(rs:List b2N) (k:Nat) (H:Hp),I2 j H=true→I2 j (a0E k rs H)=true
 | [],_,_,h=>h
 |(v,n,xs,z,ty)::rs,k,H,h=>b0z rs _ _ (by simpa [I2]using h)
theorem a1G {k:Nat}:∀(rs:List b2N) (nk:Nat) (H:Hp),k<nk→i6 (a0E nk rs H) k=i6 H k
 | [],_,_,_=>rfl
 |(v,n,xs,z,ty)::rs,nk,H,h=>by rw [a0E,a1G rs _ _ (by omega),Y3 (by omega)]
theorem a3x:∀(rs:List b2N) (nk:Nat) (H:Hp) (i:Nat) (v:Value) (n:Nat) (xs:List Value) (z:Nat) (ty:TypeId),rs[i]?=some (v,n,xs,z,ty)→i6 (a0E nk rs H) (nk+i)=some (.row v n xs z ty)
 | [],_,_,_,_,_,_,_,_,h=>by simp at h
 |(v',n',xs',z',ty')::rs,nk,H,i,v,n,xs,z,ty,h=>by
  rw [a0E]
  cases i with
  |zero=>
   simp at h
   obtain⟨rfl,rfl,rfl,rfl,rfl⟩:=h
   rw [Nat.add_zero,a1G rs _ _ (by omega)]
   simp [i6]
  |succ i=>
   have:=a3x rs (nk+1) ((nk, .row v' n' xs' z' ty')::H) i v n xs z ty (by simpa using h)
   rw [show nk+(i+1)=nk+1+i by omega]
   exact this
theorem b0j {k:Nat} {e:E}:∀(rs:List (Nat×Nat×List D×TypeId)) (nk:Nat) (H:Hy),(∀k e,o4 H k=some e→k<nk)→o4 (b6h nk rs H) k=some e→o4 H k=some e∧k<nk∨∃i z n l ty,k=nk+i∧rs[i]?=some (z,n,l,ty)∧e= .row z n l ty
 | [],nk,H,hl,h=> .inl ⟨h,hl _ _ h⟩
 |(z,n,l,ty)::rs,nk,H,hl,h=>by
  rw [b6h]at h
  rcases b0j rs (nk+1) _ (fun k e hk=>by
   simp only [o4]at hk
   cases hb:Nat.beq nk k with
   |true=>have:=B9 hb;omega
   |false=>rw [hb]at hk;have:=hl _ _ hk;omega) h with⟨h,hlt⟩|⟨i,z',n',l',ty',rfl,h1,h2⟩
  · simp only [o4]at h
    cases hb:Nat.beq nk k with
    |true=>
     rw [hb]at h;cases h
     have:=B9 hb;subst this
     exact .inr ⟨0,z,n,l,ty,rfl,rfl,rfl⟩
    |false=>
     rw [hb]at h
     exact .inl ⟨h,by have:=a2Y hb;omega⟩
  · exact .inr ⟨i+1,z',n',l',ty',by omega,by simpa using h1,h2⟩
theorem Rel.consL {Xx:Cx} {a:Act} {w:World} {T:List (Nat×SV)} {ws:World} {lo:Nat} {iv:List (Nat×Nat)}:∀(rs:List b2N) (H:Hp) (nk:Nat),Rel Xx ⟨T,H,nk,ws,lo,iv⟩ a w→(∀j,nk≤j→B0 j T=true)→(∀j,nk≤j→I2 j H=true)→
 (∀v n xs z ty,(v,n,xs,z,ty)∈rs→w.ownsRow 0 ty z v n xs)→(∀b,(b∈rs.flatMap fun r=>q9 r.1)→Xx.w0.heap.size≤b∧b∉bs H)→(rs.flatMap fun r=>q9 r.1).Nodup→Rel Xx ⟨T,a0E nk rs H,nk+rs.length,ws,lo,iv⟩ a w
 | [],_,_,hr,_,_,_,_,_=>hr
 |(v,n,xs,z,ty)::rs,H,nk,hr,hT,hH,ho,hb,hn=>by
  simp only [List.flatMap_cons,List.nodup_append]at hn
  have h1:=hr.consG (e:= .row v n xs z ty) (hT nk (Nat.le_refl _)) (hH nk (Nat.le_refl _)) (ho v n xs z ty List.mem_cons_self) (fun b hb'=>hb b (by simp only [List.flatMap_cons,List.mem_append];exact .inl hb')) (a5M v)
  have h2:=Rel.consL rs _ _ h1 (fun j hj=>hT j (Nat.le_of_succ_le hj)) (fun j hj=>by simpa [I2]using hH j (Nat.le_of_succ_le hj)) (fun v n xs z ty h=>ho v n xs z ty (List.mem_cons_of_mem _ h)) (fun b hb'=>by
   have h3:=hb b (by simp only [List.flatMap_cons,List.mem_append];exact .inr hb')
   refine⟨h3.1,fun hc=> ?_⟩
   simp only [bs,bsE,List.mem_append]at hc
   rcases hc with hc|hc
   · exact hn.2.2 b hc b hb' rfl
   · exact h3.2 hc) hn.2.1
  rw [a0E,List.length_cons,show nk+(rs.length+1)=nk+1+rs.length by omega]
  exact h2
theorem a3p.choose {ok:Nat→Prop} {w:World}:∀ {rows:List (Nat×Nat×List D×TypeId)} {rv:List Value},a3p ok w rows rv→
 ∃rs:List b2N,rs.map (·.1)=rv∧rs.length=rows.length∧(∀v n xs z ty,((v,n,xs,z,ty):b2N)∈rs→w.ownsRow 0 ty z v n xs)∧
  ∀(i z n:Nat) (l:List D) (ty:TypeId),rows[i]?=some (z,n,l,ty)→∃(v:Value) (xs:List Value),rs[i]?=some ((v,n,xs,z,ty):b2N)∧j3 ok w l xs∧D3 l=true∧l.length=n*z
 | [], [],_=>⟨[],rfl,rfl,fun _ _ _ _ _ h=>by simp at h,fun _ _ _ _ _ h=>by simp at h⟩
 |(z,n,l,ty)::rows,v::rv,h=>by
  simp only [a3p]at h
  obtain⟨⟨xs,h1,h2,h3,h4⟩,h5⟩:=h
  obtain⟨rs,g1,g2,g3,g4⟩:=a3p.choose h5
  refine⟨(v,n,xs,z,ty)::rs,by simp [g1],by simp [g2],fun v' n' xs' z' ty' hm=> ?_,fun i z' n' l' ty' hi=> ?_⟩
  · rcases List.mem_cons.1 hm with hm|hm
    · cases hm;exact h1
    · exact g3 _ _ _ _ _ hm
  · cases i with
    |zero=>simp at hi;obtain⟨rfl,rfl,rfl,rfl⟩:=hi;exact⟨v,xs,rfl,h2,h3,h4⟩
    |succ i=>
     obtain⟨v',xs',e1,e2⟩:=g4 i z' n' l' ty' (by simpa using hi)
     exact⟨v',xs',by simpa using e1,e2⟩
 | [],_::_,h=>by simp [a3p]at h
 |_::_, [],h=>by simp [a3p]at h
theorem b6O (hA:∀b,(w0.heap.size≤b∨b∈bor)→A b) {o:Oper} {Q:Exit→Act→World→Prop} {KY:Sy→Prop} {f:FuncId} {args:List D} {args':List SV} (hr:Rel (cx X w0 bor) st a w) (hs:Sim A st sy) (ha:d8 (okS A st) st.w (D7 st) args args')
 (hcl:V9 args=true) (h:a7N X.P f args sy fun sy' x=>Y1 X sy' o.dst x KY) (hout:a2k (cx X w0 bor) st a o (.call f args')):o.wp X.P a w (LvK A (cx X w0 bor) st.H w KY) Q:=by
 have hr0:=hr.now
 have hs0:=hs.now hr.cls
 have ha0:=ha.now hr.cls
 obtain⟨rows,cells,⟨hfl,hd⟩,hk⟩:=h.ex
 have hrep:=M1 (H:=st.H) _ _ ha0 hcl
 have hcall:=hd (okS A (now st w)) w _ hrep fun b hb=>hb.2.1
 have hbody:=a1g hcall fun e w' ⟨v,rv,he,_⟩=>⟨_,he⟩
 unfold Oper.wp
 rw [show(execOp a.eval o).run X.P w=_ from hout w hbody]
 simp only [Oper.upon]
 refine hcall.mono fun e w' hex=> ?_
 obtain⟨av,rv,he,hbl,hnd,hrows,hcells,hb⟩:=hex
 subst he
 simp only
 obtain⟨T,H,nk⟩:=sy
 obtain⟨T',H',nk',ws,lo,iv⟩:=st
 have hnk:nk=nk':=hs.nk
 subst hnk
 obtain⟨rs,e1,e2,hown,hrow⟩:=hrows.choose
 have hflat:(rs.flatMap fun r=>q9 r.1)=rv.flatMap q9:=by rw [←e1,List.flatMap_map]
 have hlt:∀c,c∈bs H'→c<w.heap.size:=fun c hc=>hr.cls.lt_size hc
 have hblk:∀i,i<w.heap.size→w'.heap[i]?=w.heap[i]?:=fun i hi=>hb.block i hi
 have hrel0:=hr0.past hb
 have hrel:Rel (cx X w0 bor) ⟨T',a0E nk rs H',nk+rs.length,w',w'.heap.size, []⟩ a w':=by
  refine Rel.consL rs H' nk hrel0 hs.fT hs.fH hown (fun b hb'=> ?_) (by rw [hflat];exact hnd)
  rw [hflat]at hb'
  have h1:=hbl b hb'
  exact⟨Nat.le_trans hr.cls.fx0.size h1.1,fun hc=>by have:=hlt b hc;omega⟩
 have hne:∀b,(∀c,c∈bs H'→c≠b)→b∉rv.flatMap q9→∀c,c∈bs (a0E nk rs H')→c≠b:=by
  intro b h1 h2 c hc
  rcases(b2m rs nk H' c).1 hc with hc|hc
  · exact h1 c hc
  · rw [hflat]at hc
    exact fun e=>h2 (e▸hc)
 have hokN:∀b,((okS A (now ⟨T',H',nk,ws,lo,iv⟩ w) b∨(w.heap.size≤b∧b<w'.heap.size))∧b∉rv.flatMap q9)→okS A ⟨T',a0E nk rs H',nk+rs.length,w',w'.heap.size, []⟩ b:=by
  rintro b ⟨hb1,hb2⟩
  rcases hb1 with hb1|hb1
  · exact⟨⟨.inl (Nat.lt_of_lt_of_le hb1.2.1 hb.size),hb1.1.2⟩,Nat.lt_of_lt_of_le hb1.2.1 hb.size,hne b hb1.2.2 hb2⟩
  · exact⟨⟨.inl hb1.2,hA b (.inl (Nat.le_trans hr.cls.fx0.size hb1.1))⟩,hb1.2,hne b (fun c hc e=>by have:=hlt c hc;omega) hb2⟩
 have hokO:∀b,okS A (now ⟨T',H',nk,ws,lo,iv⟩ w) b→okS A ⟨T',a0E nk rs H',nk+rs.length,w',w'.heap.size, []⟩ b∧w'.heap[b]?=w.heap[b]?:=fun b hb1=>
  ⟨hokN b ⟨.inl hb1,fun hc=>by have h1:=(hbl b hc).1;have h2:=hb1.2.1;simp only [now]at h2;omega⟩,hblk b hb1.2.1⟩
 have hkO:∀q k,D7 (now ⟨T',H',nk,ws,lo,iv⟩ w) q k→D7 ⟨T',a0E nk rs H',nk+rs.length,w',w'.heap.size, []⟩ q k:=by
  intro q k ⟨h1,h2⟩
  simp only [now]at h1
  refine⟨by simp only;omega,fun hq=> ?_⟩
  simp only
  rw [a1G rs _ _ h1]
  exact h2 hq
 have hsim:Sim A ⟨T',a0E nk rs H',nk+rs.length,w',w'.heap.size, []⟩ ⟨T,b6h nk rows H,nk+rows.length⟩:=by
  refine⟨fun d x hx=> ?_,fun k e he=> ?_,by rw [e2],fun j hj=>hs.fT j (by simp only at hj⊢;omega),fun j hj=>b0z rs _ _ (hs.fH j (by simp only at hj⊢;omega))⟩
  · rcases hs0.T d x hx with h|⟨s,h1,h2⟩
    · exact .inl h
    · exact .inr ⟨s,h1,i0.mono hokO hkO _ _ h2⟩
  · have hyl:∀k e,o4 H k=some e→k<nk:=fun k e h=>by
     obtain⟨e',h1,_⟩:=hs.H k e h
     exact hr.cls.lt k e' (p0 h1)
    rcases b0j rows nk H hyl he with⟨h1,h2⟩|⟨i,z,n,l,ty,rfl,h1,rfl⟩
    · obtain⟨e',g1,g2⟩:=hs0.H k e h1
      exact⟨e',by rw [show(_:St).H=_ from rfl];simp only;rw [a1G rs _ _ h2];exact g1,a3z.mono hokO hkO g2⟩
    · obtain⟨v,xs,g1,g2,g3,g4⟩:=hrow i z n l ty h1
      exact⟨_,a3x rs nk H' i v n xs z ty g1,rfl,rfl,rfl,j3.mono (fun b hb1=>⟨hokN b hb1,rfl⟩) _ _ g2,g3,g4⟩
 have hval:∃cs:List SV,d8 (okS A ⟨T',a0E nk rs H',nk+rs.length,w',w'.heap.size, []⟩) w' (D7 ⟨T',a0E nk rs H',nk+rs.length,w',w'.heap.size, []⟩) (shC nk cells) cs∧j7 (a0E nk rs H') cs=av:=by
  clear hfl hk hd hcall hbody
  induction cells generalizing av with
  |nil=>cases av with
   |nil=>exact⟨[],trivial,rfl⟩
   |cons=>simp [Y5]at hcells
  |cons d cells ih=>cases av with
   |nil=>cases d<;>simp [Y5]at hcells
   |cons y av=>
    have gen:Rep (fun b=>(okS A (now ⟨T',H',nk,ws,lo,iv⟩ w) b∨(w.heap.size≤b∧b<w'.heap.size))∧b∉rv.flatMap q9) w' d y→Y5 (fun b=>(okS A (now ⟨T',H',nk,ws,lo,iv⟩ w) b∨(w.heap.size≤b∧b<w'.heap.size))∧b∉rv.flatMap q9) w' rv cells av→
     ∃cs:List SV,d8 (okS A ⟨T',a0E nk rs H',nk+rs.length,w',w'.heap.size, []⟩) w' (D7 ⟨T',a0E nk rs H',nk+rs.length,w',w'.heap.size, []⟩) (d::shC nk cells) cs∧j7 (a0E nk rs H') cs=y::av:=by
     intro h1 h2
     obtain⟨cs,g1,g2⟩:=ih av h2
     exact⟨.v y::cs,⟨Rep.rel _ _ (Rep.mono (fun b hb1=>⟨hokN b hb1,rfl⟩) _ _ h1),g1⟩,by simp [j7,den,g2]⟩
    cases d with
    |row i z=>
     simp only [Y5]at hcells
     obtain⟨h1,h2⟩:=hcells
     obtain⟨cs,g1,g2⟩:=ih av h2
     have h3:∃r,rs[i]?=some r∧r.1=y:=by
      rw [←e1,List.getElem?_map]at h1
      cases hri:rs[i]? with
      |none=>rw [hri]at h1;cases h1
      |some r=>rw [hri]at h1;exact⟨r,rfl,Option.some.inj h1⟩
     obtain⟨⟨v,n,xs,z',ty⟩,h3,rfl⟩:=h3
     have h4:=a3x rs nk H' i v n xs z' ty h3
     have hi:i<rs.length:=(List.getElem?_eq_some_iff.1 h3).1
     refine⟨.row (nk+i)::cs,⟨?_,g1⟩,by simp [j7,den,o9,h4,g2]⟩
     simp only [i0]
     exact⟨trivial,by simp only;omega,fun _=>⟨v,n,xs,z',ty,h4⟩⟩
    |_=>simp only [Y5]at hcells;exact gen hcells.1 hcells.2
 obtain⟨cs,hcs,hden⟩:=hval
 have hflS:D3 (shC nk cells)=true:=by
  clear hcs hcells hk hd hcall hbody
  induction cells with
  |nil=>rfl
  |cons d l ih=>
   have h1:=C5 hfl List.mem_cons_self
   have h2:=ih (U4 fun x hx=>C5 hfl (List.mem_cons_of_mem _ hx))
   cases d<;>simp [a4W]at h1<;>exact h2
 have hput:=K8 (w0:=w0) (bor:=bor) (s:= .agg cs) hk hsim (by simp only [i0];exact⟨cs,rfl,hcs,hflS⟩)
 obtain⟨st2,⟨sy2,h1,h2⟩,h3,h4⟩:=a2C hrel hput (v:= .agg av.toArray) (.inr (by simp [den,hden]))
 refine⟨st2,sy2,h1,h2,⟨h3,(Fx.refl _ _).of_below hb,fun b hb2=> ?_⟩,hblk,fun k e hm b hb2=> ?_⟩
 · rw [h4]at hb2
   rcases(b2m rs nk H' b).1 hb2 with hb2|hb2
   · exact .inl hb2
   · rw [hflat]at hb2;exact .inr (hbl b hb2).1
 · rw [h4]at hm
   rcases b3n rs nk H' k e hm with hm|hm
   · exact .inr ⟨e,hm,hb2⟩
   · have:=hm b hb2
     rw [hflat]at this
     exact .inl (hbl b this).1
theorem b1W (hA:∀b,(w0.heap.size≤b∨b∈bor)→A b) {o:Oper} {Q:Exit→Act→World→Prop} {KY:Sy→Prop} {f:FuncId} {args:List D} {args':List SV} (hr:Rel (cx X w0 bor) st a w) (hs:Sim A st sy) (ha:d8 (okS A st) st.w (D7 st) args args')
 (hln:R8 f X.ln=false) (h:b0p X true f args sy fun sy' x=>Y1 X sy' o.dst x KY) (hout:a2k (cx X w0 bor) st a o (.call f args')):o.wp X.P a w (LvK A (cx X w0 bor) st.H w KY) Q:=by
 have hr0:=hr.now
 have hs0:=hs.now hr.cls
 have ha0:=ha.now hr.cls
 --the call itself,from some state
 have main:∀(st1:St) (args1:List SV) (fa:List D) (Qr:D→Prop),Cls (cx X w0 bor) st1.H st1.nk w w→At st1 w→d8 (okS A st1) w (D7 st1) fa args1→j7 st1.H args1=j7 st.H args'→V9 fa=true→l8 X.P f fa Qr→
  (∀v r w',Below w.heap.size w w'→Qr r→Rep (fun b=>okS A st1 b∨(w.heap.size≤b∧b<w'.heap.size)) w' r v→LvK A (cx X w0 bor) st.H w KY (a.put o.dst v) w')→o.wp X.P a w (LvK A (cx X w0 bor) st.H w KY) Q:=by
  intro st1 args1 fa Qr hc hat hfa hden hcl hd hk
  have hrep:=M1 (H:=st1.H) _ _ hfa hcl
  rw [hden]at hrep
  have hcall:=hd (okS A st1) w _ hrep fun b hb=>by have:=hb.2.1;rw [hat.1]at this;exact this
  have hbody:=a1g hcall fun e w' ⟨v,r,he,_⟩=>⟨_,he⟩
  unfold Oper.wp
  rw [show(execOp a.eval o).run X.P w=_ from hout w hbody]
  simp only [Oper.upon]
  refine hcall.mono fun e w' ⟨v,r,he,hq,hrp,hb⟩=> ?_
  subst he
  exact hk v r w' hb hq hrp
 have done:∀(st1:St) (sy1:Sy) (v:Value) (r:D) (w':World),Rel (cx X w0 bor) st1 a w→Sim A st1 sy1→a7t st1.H st.H→Below w.heap.size w w'→i0 (okS A (now st1 w')) w' (D7 (now st1 w')) r (.v v)→Y1 X sy1 o.dst r KY→LvK A (cx X w0 bor) st.H w KY (a.put o.dst v) w':=by
  intro st1 sy1 v r w' hr1 hs1 hsub hb hrd hp
  have hput:=K8 (w0:=w0) (bor:=bor) hp (hs1.past hr1.cls hb) hrd
  obtain⟨st2,⟨sy2,h1,h2⟩,h3,h4⟩:=a2C (hr1.past hb) hput (v:=v) (.inr rfl)
  exact⟨st2,sy2,h1,h2,⟨h3,(Fx.refl _ _).of_below hb,fun b hb2=> .inl (hsub.bs b (by rw [h4]at hb2;exact hb2))⟩,fun i hi=>hb.block i hi,fun k e hm b hb2=>by
   rw [h4]at hm
   obtain⟨e0,g1,g2⟩:=hsub k e hm
   exact .inr ⟨e0,g1,g2 b hb2⟩⟩
 have repOk:∀(st1:St) (w':World) (v:Value) (r:D),Cls (cx X w0 bor) st1.H st1.nk st1.w w→At st1 w→Below w.heap.size w w'→Rep (fun b=>okS A st1 b∨(w.heap.size≤b∧b<w'.heap.size)) w' r v→i0 (okS A (now st1 w')) w' (D7 (now st1 w')) r (.v v):=by
  intro st1 w' v r hc hat hb hrp
  refine Rep.rel _ _ (Rep.mono (fun b hbk=>⟨?_,rfl⟩) _ _ hrp)
  rcases hbk with hbk|⟨h1,h2⟩
  · exact((b4V hc hb) b hbk).1
  · exact⟨⟨.inl h2,hA b (.inl (Nat.le_trans hc.fx0.size h1))⟩,h2,fun c hcb e=>by have:=hc.lt_size hcb;omega⟩
 unfold b0p at h
 split at h
 · rename_i hm;rw [hln]at hm;cases hm
 · split at h
   · rcases h with h|h
     · exact b7s hA hr hs ha (by assumption) h hout
     · exact b6O hA hr hs ha (by assumption) h hout
   · exact h.elim
 split at h
 · rename_i hcl
   obtain⟨Qr,hd,hk⟩:=h.ex
   refine main (now st w) args' args Qr hr0.cls ⟨rfl,rfl,rfl⟩ ha0 rfl hcl hd fun v r w' hb hq hrp=> ?_
   exact done (now st w) sy v r w' hr0 hs0 (a7t.refl _) hb (repOk (now st w) w' v r hr0.cls ⟨rfl,rfl,rfl⟩ hb hrp) (hk r hq)
 · split at h
   · rename_i sy' fa hfz
     split at h
     · rename_i hcl
       obtain⟨Qr,hd,hk⟩:=h.ex
       obtain⟨st1,args1,c1,a1,s1,b1,o1,g1,g2⟩:=a5r (Xx:=cx X w0 bor) hA _ hr0.cls ⟨rfl,rfl,rfl⟩ hs0 ha0 hfz
       have hr1:Rel (cx X w0 bor) st1 a w:=by
        refine⟨hr.size,fun d s hd=> ?_,hr.dfs, ?_, ?_, ?_⟩
        · rcases o1 d s hd with e|⟨s0,h1,h2,h3⟩
          · exact .inl e
          · rcases hr0.T d s0 h1 with e|e
            · exact absurd e h2
            · right;rw [e,h3]
        · rw [a1.1];exact c1
        · rw [a1.2.1];exact Nat.le_refl _
        · rw [a1.2.2];simp
       refine main st1 args1 fa Qr c1 a1 g1 g2 hcl hd fun v r w' hb hq hrp=> ?_
       have hkr:=hk r hq
       cases hsc:a4S r with
       |true=>
        rw [hsc]at hkr
        exact done (now st w) sy v r w' hr0 hs0 (a7t.refl _) hb (Rep.rel _ _ (a8X _ _ hrp hsc)) hkr
       |false=>
        rw [hsc]at hkr
        exact done st1 sy' v r w' hr1 s1 b1 hb (repOk st1 w' v r hr1.cls a1 hb hrp) hkr
     · exact h.elim
   · exact h.elim
theorem b8T (hA:∀b,(w0.heap.size≤b∨b∈bor)→A b) {o:Oper} {Q:Exit→Act→World→Prop} {KY:Sy→Prop} {f:FuncId} {args:List D} {args':List SV} (hr:Rel (cx X w0 bor) st a w) (hs:Sim A st sy) (ha:d8 (okS A st) st.w (D7 st) args args')
 (h:b0p X true f args sy fun sy' x=>Y1 X sy' o.dst x KY) (hout:a2k (cx X w0 bor) st a o (.call f args')):o.wp X.P a w (LvY A (cx X w0 bor) st.H w KY) Q:=by
 cases hln:R8 f X.ln with
 |true=>simp only [b0p,hln]at h;exact b9A hA hr hs ha h hout
 |false=>exact Oper.wp_mono (fun a' w' ⟨st2,sy2,g1,g2,g3,_⟩=>⟨st2,sy2,g1,g2,g3⟩) (b1W hA hr hs ha hln h hout)
theorem b6Z (hA:∀b,(w0.heap.size≤b∨b∈bor)→A b) {KY:Sy→Prop} {f:FuncId} {args:List D} {args':List SV} {dst:Option Nat} (hs:Sim A st sy) (ha:d8 (okS A st) st.w (D7 st) args args')
 (h:b0p X false f args sy fun sy' x=>Y1 X sy' dst x KY):c0B (cx X w0 bor) false f args' st fun st' s=>put (cx X w0 bor) st' dst s fun st'=>∃sy',KY sy'∧Sim A st' sy':=by
 have fxok:∀n w1,st.w.heap.size≤n→n≤w1.heap.size→Fx (bs st.H) st.w w1→∀b,okS A st b→okS A ⟨st.T,st.H,st.nk,w1,st.lo,(n,w1.heap.size)::st.iv⟩ b∧w1.heap[b]?=st.w.heap[b]?:=by
  intro n w1 h1 h2 hfx b hb
  refine⟨⟨⟨?_,hb.1.2⟩,Nat.lt_of_lt_of_le hb.2.1 hfx.size,hb.2.2⟩,hfx.block b hb.2.1 hb.2.2⟩
  rcases hb.1.1 with h|⟨p,hp,h3⟩
  · exact .inl h
  · exact .inr ⟨p,List.mem_cons_of_mem _ hp,h3⟩
 have simOk:∀n w1,st.w.heap.size≤n→n≤w1.heap.size→Fx (bs st.H) st.w w1→Sim A ⟨st.T,st.H,st.nk,w1,st.lo,(n,w1.heap.size)::st.iv⟩ sy:=by
  intro n w1 h1 h2 hfx
  obtain⟨T,H,nk⟩:=sy
  exact hs.mono (fxok n w1 h1 h2 hfx) (fun _ _ h=>h) (fun _ _ h=>h) (fun _ _ h=>h) rfl hs.fT hs.fH
 unfold b0p at h
 split at h
 · exact h.elim
 · exact h.elim
 split at h
 · rename_i hcl
   obtain⟨Qr,hd,hk⟩:=h.ex
   refine⟨Value, .v,fun v n w1=>w0.heap.size≤n∧∃r,Qr r∧Rep (fun b=>(b<n∧okS A st b)∨(n≤b∧b<w1.heap.size)) w1 r v,fun wc hc=> ?_,fun v n w1 h1 h2 h3 hfx ⟨hw0,r,hq,hrp⟩=> ?_⟩
   · have hrep:=M1 (H:=st.H) _ _ (ha.now hc) hcl
     have hrep2:j3 (fun b=>b<wc.heap.size∧okS A st b) wc args (j7 st.H args'):=by
      have:=M1 (H:=st.H) _ _ ha hcl
      refine j3.mono (fun b hb=>⟨⟨Nat.lt_of_lt_of_le hb.2.1 hc.fx.size,hb⟩,hc.fx.block b hb.2.1 hb.2.2⟩) _ _ this
     refine(hd _ wc _ hrep2 fun b hb=>hb.1).mono fun e w' ⟨v,r,he,hq,hrp,hb⟩=> ?_
     exact⟨v,he,hb,hc.fx0.size,r,hq,hrp⟩
   · obtain⟨T',H',nk',w,lo,iv⟩:=st
     refine K8 (hk r hq) (simOk n w1 h1 h2 hfx) (Rep.rel _ _ (Rep.mono (fun b hbk=>⟨?_,rfl⟩) _ _ hrp))
     rcases hbk with⟨_,hbk⟩|⟨h4,h5⟩
     · exact(fxok n w1 h1 h2 hfx b hbk).1
     · exact⟨⟨.inr ⟨_,List.mem_cons_self,h4,h5⟩,hA b (.inl (Nat.le_trans hw0 h4))⟩,h5,fun c hcb e=>by have:=h3 c hcb;omega⟩
 · split at h
   · rename_i sy' fa hfz
     split at h
     · rename_i hcl
       obtain⟨Qr,hd,hk⟩:=h.ex
       refine⟨Value, .v,fun v n w1=>∃r,Qr r∧a4S r=true∧Rep (fun _=>False) w1 r v,fun wc hc=> ?_,fun v n w1 h1 h2 h3 hfx ⟨r,hq,hsc,hrp⟩=> ?_⟩
       · have hcn:Cls (cx X w0 bor) (now st wc).H (now st wc).nk wc wc:=⟨Fx.refl _ _,hc.fx0,hc.own,hc.nd,hc.lb,hc.keys,hc.lt⟩
         obtain⟨st1,args1,c1,a1,s1,b1,o1,g1,g2⟩:=a5r (Xx:=cx X w0 bor) hA _ hcn ⟨rfl,rfl,rfl⟩ (hs.now hc) (ha.now hc) hfz
         have hrep:=M1 (H:=st1.H) _ _ g1 hcl
         rw [g2]at hrep
         refine(hd (okS A st1) wc _ hrep fun b hb=>by have:=hb.2.1;rw [a1.1]at this;exact this).mono fun e w' ⟨v,r,he,hq,hrp,hb⟩=> ?_
         have hkr:=hk r hq
         cases hsc:a4S r with
         |true=>exact⟨v,he,hb,r,hq,hsc,a8X _ _ hrp hsc⟩
         |false=>rw [hsc]at hkr;exact hkr.elim
       · have hkr:=hk r hq
         rw [hsc]at hkr
         obtain⟨T',H',nk',w,lo,iv⟩:=st
         exact K8 hkr (simOk n w1 h1 h2 hfx) (Rep.rel _ _ (a8X _ _ hrp hsc))
     · exact h.elim
   · exact h.elim
end
end Go.Sx
namespace Go.Sx
open Go Go.RowKit
section
variable {A : Nat → Prop} {X : Cy} {w0 : World} {bor : List Nat} {st : St} {sy : Sy} {a : Act} {w : World}
theorem a5k (hA:∀b,(w0.heap.size≤b∨b∈bor)→A b) {seq:Bool} {dst:Option Nat} {KY:Sy→Prop} {oy:a6r} {out:Out} (h:a6n X seq sy dst KY oy) (hr:a7T st.H (okS A st) st.w (D7 st) oy out) (hs:Sim A st sy) (hc:seq=false∨∀f args,out≠ .call f args):
 fin (cx X w0 bor) seq st dst (fun st'=>∃sy',KY sy'∧Sim A st' sy') out:=by
 cases oy with
 |val x=>
  cases out<;>try exact hr.elim
  exact K8 h hs hr.1
 |new cs ty sl=>
  cases out<;>try exact hr.elim
  rename_i cs' ty' sl'
  obtain⟨rfl,h2,rfl⟩:=hr
  obtain⟨T',H',nk',w,lo,iv⟩:=st
  obtain⟨T,H,nk⟩:=sy
  have hnk:nk=nk':=hs.nk
  subst hnk
  simp only [fin,hs.fT nk (Nat.le_refl _),hs.fH nk (Nat.le_refl _),h2.ment (fun q=>a8L (st:=⟨T',H',nk,w,lo,iv⟩) (Nat.le_refl _) q)]
  refine .inl fun b hb hiv=> ?_
  refine K8 h (c2t hs h2 hb hiv) ?_
  cases sl with
  |none=>simp only [i0,Option.map_none];exact⟨trivial,by simp only;omega,by simp⟩
  |some p=>obtain⟨z,n⟩:=p;simp only [i0,Option.map_some];exact⟨trivial,by simp only;omega,by simp⟩
 |newR l ty z n=>
  cases out<;>try exact hr.elim
  rename_i cs' ty' sl'
  obtain⟨rfl,rfl,hlen,hnm,hfl,xs,rfl,hrep⟩:=hr
  obtain⟨T',H',nk',w,lo,iv⟩:=st
  obtain⟨T,H,nk⟩:=sy
  have hnk:nk=nk':=hs.nk
  subst hnk
  simp only [fin,hs.fT nk (Nat.le_refl _),hs.fH nk (Nat.le_refl _),b0R]
  refine .inr ⟨n,z,⟨rfl,by rw [b3F,←hrep.length,hlen],hnm,(j3.rel (R:=D7 ⟨T',H',nk,w,lo,iv⟩) _ _ hrep).one (b3B _) hfl⟩,fun b hb hiv=> ?_⟩
  rw [O3]
  refine K8 h (c1T hs hrep hfl hlen hb hiv) ?_
  simp only [i0]
  exact⟨trivial,by simp only;omega,fun _=>⟨_,_,_,_,_,by simp [i6];exact⟨rfl,rfl,rfl,rfl,rfl⟩⟩⟩
 |call f args=>
  cases out<;>try exact hr.elim
  obtain⟨rfl,h2⟩:=hr
  rcases hc with rfl|hc
  · simp only [a6n]at h
    split at h
    · exact h.elim
    · exact b6Z hA hs h2 h
  · exact absurd rfl (hc _ _)
 |upd k cs=>
  cases out<;>try exact hr.elim
  obtain⟨rfl,h2⟩:=hr
  obtain⟨T',H',nk',w,lo,iv⟩:=st
  obtain⟨T,H,nk⟩:=sy
  simp only [a6n]at h
  cases hf:o4 H k with
  |none=>rw [hf]at h;exact h.elim
  |some e=>
   rw [hf]at h
   cases e with
   |row=>exact h.elim
   |blk cs0 ty=>
    obtain⟨e',hf',he⟩:=hs.H _ _ hf
    cases e' with
    |row=>exact he.elim
    |blk b cs' ty'=>
     simp only at hf'
     obtain⟨rfl,_⟩:=he
     have h:=a3S h
     simp only [fin,hf']
     refine a5B hf' ?_
     refine K8 h (b4t (e':= .blk b _ _) hs hf' (by exact⟨rfl,h2⟩) rfl (by rintro⟨_,_,_,_,_,h⟩;cases h) fun j hj=> ?_) (by simp only [i0])
     simp only [a5K,Bool.not_eq_true']
     exact h2.ment (fun q=>a8L (st:=⟨T',H',nk',w,lo,iv⟩) hj q)
 |updR k l=>
  cases out<;>try exact hr.elim
  obtain⟨rfl,h2,h3,h6⟩:=hr
  obtain⟨T',H',nk',w,lo,iv⟩:=st
  obtain⟨T,H,nk⟩:=sy
  simp only [a6n]at h
  cases hf:o4 H k with
  |none=>rw [hf]at h;exact h.elim
  |some e=>
   rw [hf]at h
   cases e with
   |blk=>exact h.elim
   |row z n l0 ty=>
    obtain⟨e',hf',he⟩:=hs.H _ _ hf
    cases e' with
    |blk=>exact he.elim
    |row v n' xs z' ty'=>
     simp only at hf'
     obtain⟨rfl,rfl,rfl,h4,h5,h7⟩:=he
     have h:=a3S h
     simp only [fin,hf']
     refine a5B hf' ?_
     exact K8 h (b4t (e':= .row v n _ z ty) hs hf' (by exact⟨rfl,rfl,rfl,h2,h3,h6 _ _ _ _ _ hf'⟩) rfl (fun _=>⟨_,_,_,_,_,rfl⟩) fun j hj=>rfl) (by simp only [i0])
 |app e esz bytes s x=>
  cases out<;>try exact hr.elim
  obtain⟨rfl,rfl,rfl,h4,h5⟩:=hr
  exact c3v h hs h4 h5
theorem a9K {ops:List Oper} {g:Option (Nat×Bool)} {yesY noY:Sy→Prop} {yes no:St→Prop} (h:a2M ops g sy yesY noY) (hs:Sim A st sy) (h1:∀st' sy',Sim A st' sy'→yesY sy'→yes st') (h2:∀st' sy',Sim A st' sy'→noY sy'→no st'):a5P ops g st yes no:=by
 unfold a2M at h
 split at h
 · exact h1 _ _ hs h
 · rename_i j want
   split at h
   · rename_i d hd
     obtain⟨T',H',nk',w,lo,iv⟩:=st
     obtain⟨T,H,nk⟩:=sy
     have ext:∀b:Bool,Sim A ⟨(d, .v (.bool b))::T',H',nk',w,lo,iv⟩ ⟨(d, .v (.bool b))::T,H,nk⟩:=by
      intro b
      refine⟨fun d' x hx=> ?_,hs.H,hs.nk,fun j hj=> ?_,hs.fH⟩
      · simp only [w8]at hx
        simp only [C6]
        cases hb:Nat.beq d d' with
        |true=>rw [hb]at hx;cases hx;exact .inr ⟨_,rfl,by simp only [i0];exact⟨trivial,rfl⟩⟩
        |false=>rw [hb]at hx;exact hs.T d' x hx
      · simp only [B0,ment];exact hs.fT j hj
     split at h
     · rename_i b hl
       obtain⟨hlt,hl⟩:=a3q hl
       rcases hs.T d _ hl with e|⟨s,h3,h4⟩
       · cases e
       · have:=h4.sc;subst this
         simp only at h3
         simp only [a5P,hd,a6x hlt,h3]
         cases b<;>cases want<;>simp only [VIf]at h⊢
         · exact h1 _ _ (ext false) h
         · exact h2 _ _ (ext false) h
         · exact h2 _ _ (ext true) h
         · exact h1 _ _ (ext true) h
     · rename_i hl
       obtain⟨hlt,hl⟩:=a3q hl
       rcases hs.T d _ hl with e|⟨s,h3,h4⟩
       · cases e
       · simp only [i0]at h4
         subst h4
         simp only at h3
         simp only [a5P,hd,a6x hlt,h3,undef]
         exact h2 _ _ hs h
     · exact h.elim
   · exact h.elim
theorem zOK (hP:POK X.P X.tt):∀t i,K9 X.tt t=some i→(∀x,x∈i.z→a5h x=true)∧i.z.length=i.n:=fun t i h=>⟨fun x hx=>by rw [a7m];exact(hP.tt t i h).zo x hx,(hP.tt t i h).zn⟩
theorem c3a {x:D} {s:SV} {ok:Nat→Prop} {R:Bool→Nat→Prop} (h:i0 ok w R x s) (hne:x≠ .bad):c5X x=b3y s:=by
 cases x<;>simp only [i0]at h
 · rw [h.1];rfl
 · obtain⟨cs,h,_⟩:=h;cases s<;>simp [a4B]at h<;>rfl
 · obtain⟨y,rfl,_⟩:=h;rfl
 · obtain⟨y,rfl,_⟩:=h;rfl
 · rw [h.1];rfl
 · rw [h.1];rfl
 · rw [h.1];rfl
 · rw [h.1];rfl
 · rw [h.1];rfl
 · rcases h with⟨cs,rfl,_⟩|⟨cs,rfl,_⟩<;>rfl
 · rcases h with⟨cs,_,rfl,_⟩|⟨cs,_,rfl,_⟩<;>rfl
 · obtain⟨y,rfl,_⟩:=h;rfl
 · rw [h];rfl
 · exact absurd rfl hne
theorem c3M {fl:Bool} {i:Nat} {op:Op} {pr:List (Nat×Option Nat)} {K K':List (Nat×Option Nat)→Prop} (h:rdY fl i op sy pr K) (hs:Sim A st sy) (hK:∀pr,K pr→K' pr):rdP (cx X w0 bor) fl i op st pr K':=by
 unfold rdY at h
 split at h
 · rename_i t p
   split at h
   · rename_i x hx
     obtain⟨s,h1,h2,h3⟩:=n8 hs hx
     have ht:=c3a h2 h3
     split at h
     · rename_i k hk
       rw [hk]at ht
       simp only [rdP,h1,←ht]
       exact hK _ h
     · rename_i hk
       rw [hk]at ht
       simp only [rdP,h1,←ht]
       split at h
       · simp only [i0,Rep]at h2
         obtain⟨y,rfl,b,p,xs,rfl,hok,_⟩:=h2
         cases fl with
         |false=>exact hK _ h
         |true=>exact⟨.inr (by rcases hok.1.1 with h|h;exact .inl h;exact .inr h),hK _ h⟩
       · exact h.elim
   · exact h.elim
 · exact h.elim
 · rename_i hno hnl
   unfold rdP
   split
   · rename_i t p;exact absurd rfl (hno t p)
   · exact absurd rfl (hnl _ _ _ _)
   · exact hK _ h
theorem b7A {ok:Nat→Prop} {R:Bool→Nat→Prop} {e z b:Nat} {s x:D} {s' x':SV} (h4:i0 ok w R s s'):b1K (.app e z b s x)=a6j (.app e z b s' x'):=by
 cases s<;>simp only [i0]at h4
 · rw [h4.1];rfl
 · obtain⟨cs,h,_⟩:=h4;cases s'<;>simp [a4B]at h<;>rfl
 · obtain⟨y,rfl,_⟩:=h4;rfl
 · obtain⟨y,rfl,_⟩:=h4;rfl
 · rw [h4.1];rfl
 · rw [h4.1];rfl
 · rw [h4.1];rfl
 · rw [h4.1];rfl
 · rw [h4.1];rfl
 · rcases h4 with⟨cs,rfl,_⟩|⟨cs,rfl,_⟩<;>rfl
 · rcases h4 with⟨cs,_,rfl,_⟩|⟨cs,_,rfl,_⟩<;>rfl
 · obtain⟨y,rfl,_⟩:=h4;rfl
 · rw [h4];rfl
 · rw [h4];rfl
theorem c3r {oy:a6r} {out:Out} {ok:Nat→Prop} {R:Bool→Nat→Prop} (h:a7T st.H ok w R oy out):b1K oy=a6j out∨(b1K oy=none∧∃e z b s x,out= .app e z b s x∧a6j out=none):=by
 cases oy<;>cases out<;>try exact h.elim
 · exact .inl rfl
 · exact .inl rfl
 · exact .inl rfl
 · exact .inl rfl
 · obtain⟨rfl,_⟩:=h;exact .inl rfl
 · obtain⟨rfl,_⟩:=h;exact .inl rfl
 · obtain⟨rfl,rfl,rfl,h4,_⟩:=h
   left
   exact b7A h4
theorem c0E {Xx:Cx} {seq:Bool} {dst:Option Nat} {out:Out} {K K':St→Prop} (h:fin Xx seq st dst K out) (hk:∀st',K st'→K' st'):fin Xx seq st dst K' out:=by
 obtain⟨T,H,nk,ws,lo,iv⟩:=st
 cases out with
 |val s=>exact V0 h hk
 |new cs ty sl=>
  simp only [fin]at h⊢
  cases h1:B0 nk T with
  |false=>rw [h1]at h;exact h.elim
  |true=>cases h2:I2 nk H with
   |false=>rw [h1,h2]at h;exact h.elim
   |true=>cases h3:O8 nk cs with
    |true=>rw [h1,h2,h3]at h;exact h.elim
    |false=>
     rw [h1,h2,h3]at h
     rcases h with h|⟨n,sz,h0,h⟩
     · exact .inl fun b hb hiv=>V0 (h b hb hiv) hk
     · exact .inr ⟨n,sz,h0,fun b hb hiv=>V0 (h b hb hiv) hk⟩
 |call f args=>
  obtain⟨ι,r,φ,h1,h2⟩:=h.ex
  refine⟨ι,r,φ,h1,fun i n w1 a1 a2 a3 a4 a5=> ?_⟩
  have:=h2 i n w1 a1 a2 a3 a4 a5
  cases seq
  · exact V0 this hk
  · exact V0 this hk
 |upd k cs=>
  unfold fin at h⊢
  simp only at h⊢
  cases hf:i6 H k with
  |none=>rw [hf]at h;exact h.elim
  |some e=>
   rw [hf]at h
   cases e with
   |row=>exact h.elim
   |blk=>exact a1X h fun H' hh=>V0 hh hk
 |updR k xs=>
  unfold fin at h⊢
  simp only at h⊢
  cases hf:i6 H k with
  |none=>rw [hf]at h;exact h.elim
  |some e=>
   rw [hf]at h
   cases e with
   |blk=>exact h.elim
   |row=>exact a1X h fun H' hh=>V0 hh hk
 |app e esz bytes s x=>
  obtain⟨k,n,m,v,xs,news,h0,h1⟩:=b3R.ex h
  have reM:∀ {w1:World} {A B:List (Nat×SV)→Hp→Nat→World→Nat→List (Nat×Nat)→Prop},(∀T H nk w lo iv,A T H nk w lo iv→B T H nk w lo iv)→reW seq ⟨T,H,nk,ws,lo,iv⟩ w1 A→reW seq ⟨T,H,nk,ws,lo,iv⟩ w1 B:=by
   intro w1 A B hAB hA
   cases seq
   · exact hAB _ _ _ _ _ _ hA
   · exact hAB _ _ _ _ _ _ hA
  refine b3R.mk ⟨k,n,m,v,xs,news,h0, ?_⟩
  rcases h1 with⟨g1,g2,h1⟩|⟨g1,g2,h1⟩|⟨g1,g2,h1⟩|⟨g1,g2,h1,h1'⟩
  · exact .inl ⟨g1,g2,fun v' w1 a1 a2 a3=>reM (fun _ _ _ _ _ _ ⟨b1,b2,b3⟩=>⟨b1,b2,V0 b3 hk⟩) (h1 v' w1 a1 a2 a3)⟩
  · exact .inr (.inl ⟨g1,g2,fun v' w1 a1 a2 a3=>reM (fun _ _ _ _ _ _ b=>a1X b fun H' hh=>by rw [a4a]at hh⊢;exact V0 hh hk) (h1 v' w1 a1 a2 a3)⟩)
  · exact .inr (.inr (.inl ⟨g1,g2,fun v' w1 a1 a2 a3=>reM (fun _ _ _ _ _ _ b=>a1X b fun H' hh=>by rw [a4a]at hh⊢;exact V0 hh hk) (h1 v' w1 a1 a2 a3)⟩))
  · exact .inr (.inr (.inr ⟨g1,g2,fun a=>V0 (h1 a) hk,fun a v' w1 a1 a2 a3=>reM (fun _ _ _ _ _ _ ⟨b1,b2,b3⟩=>⟨b1,b2,V0 b3 hk⟩) (h1' a v' w1 a1 a2 a3)⟩))
theorem b8W (hA:∀b,(w0.heap.size≤b∨b∈bor)→A b) {i:Nat} {S:List Nat} {fl:Bool} {pr:List (Nat×Option Nat)} {o:Oper} {K:Sy→List (Nat×Option Nat)→Prop} {K':St→List (Nat×Option Nat)→Prop} {oy:a6r} {out:Out} (h:b5N X i S fl pr o sy K oy)
 (hr:a7T st.H (okS A st) st.w (D7 st) oy out) (hs:Sim A st sy) (hK:∀st' sy' pr,Sim A st' sy'→K sy' pr→K' st' pr):b5R (cx X w0 bor) i S fl pr o st K' out:=by
 have mono:∀(seq:Bool) (dst:Option Nat) (out:Out),fin (cx X w0 bor) seq st dst (fun st'=>∃sy',K sy' pr∧Sim A st' sy') out→fin (cx X w0 bor) seq st dst (fun st'=>K' st' pr) out:=fun seq dst out h=>c0E h fun st' ⟨sy',h1,h2⟩=>hK st' sy' pr h2 h1
 unfold b5N at h
 unfold b5R
 split at h
 · rename_i hv
   simp only [hv]
   cases oy<;>try exact h.elim
   cases out<;>try exact hr.elim
   refine c3M h hs fun pr hp=> ?_
   exact V0 (K8 hp hs hr.1) fun st' ⟨sy',h1,h2⟩=>hK st' sy' pr h2 h1
 · rename_i hv
   simp only [hv]
   split at h
   · rename_i ha
     simp only [ha]
     cases oy<;>try exact h.elim
     · cases out<;>try exact hr.elim
       rename_i cs ty sl cs' ty' sl'
       cases sl with
       |none=>
        obtain⟨rfl,h2,rfl⟩:=hr
        exact mono _ _ _ (a5k hA h (by exact⟨rfl,h2,rfl⟩) hs (.inl rfl))
       |some p=>exact h.elim
     · cases out<;>try exact hr.elim
       exact mono _ _ _ (a5k hA h hr hs (.inl rfl))
   · rename_i ha
     simp only [ha]
     split at h
     · rename_i hc
       simp only [hc]
       cases oy<;>try exact h.elim
       cases out<;>try exact hr.elim
       exact mono _ _ _ (a5k hA h hr hs (.inl rfl))
     · rename_i hc
       simp only [hc]
       have hk:b1K oy=a6j out:=by
        rcases c3r hr with h|⟨h1,_,_,_,_,_,_,h2⟩
        · exact h
        · rw [h1,h2]
       cases oy<;>try exact h.elim
       all_goals (cases out<;>try exact hr.elim)
       all_goals (
        have h':=h
        try simp only at h'
        try simp only
        rw [hk]at h'
        split
        · rename_i k hkk
          rw [hkk]at h'
          simp only at h'
          cases hse:b5Z pr S k with
          |true=>rw [hse]at h';exact mono _ _ _ (a5k hA h' hr hs (.inl rfl))
          |false=>rw [hse]at h';exact h'.elim
        · rename_i hkk
          rw [hkk]at h'
          exact mono _ _ _ (a5k hA h' hr hs (.inl rfl)))
end
end Go.Sx
namespace Go.Sx
open Go Go.RowKit
mutual
theorem b7d {ok:Nat→Prop} {w:World} {R:Bool→Nat→Prop}:∀(x y:D) (s:SV),leD x y→i0 ok w R x s→i0 ok w R y s
 | .v x,y,v,h,hr=>by
  simp only [leD]at h
  rcases h with rfl|⟨rfl,z,rfl⟩
  · exact hr
  · simp only [i0,Rep]at hr⊢
    exact⟨_,hr.1,none,0,rfl,Nat.le_refl _,by simp,by simp,rfl, .inl rfl⟩
 | .agg l,y,v,h,hr=>by
  simp only [leD]at h
  obtain⟨r,rfl,h⟩:=h
  simp only [i0]at hr⊢
  obtain⟨a,h1,h2,h3⟩:=hr
  exact⟨a,h1,b0V l r _ h h2,b4J l r h h3⟩
 | .tup l,y,v,h,hr=>by
  simp only [leD]at h
  obtain⟨r,rfl,h⟩:=h
  simp only [i0]at hr⊢
  rcases hr with⟨a,h1,h2⟩|⟨a,h1,h2⟩
  · exact .inl ⟨a,h1,b0V l r _ h h2⟩
  · exact .inr ⟨a,h1,b0V l r _ h h2⟩
 | .lst _ _ _,y,v,h,hr=>by simp only [leD]at h;subst h;exact hr
 | .ptr _ _,y,v,h,hr=>by simp only [leD]at h;subst h;exact hr
 | .mp _,y,v,h,hr=>by simp only [leD]at h;subst h;exact hr
 | .fn _ _ _,y,v,h,hr=>by simp only [leD]at h;subst h;exact hr
 | .own _ _,y,v,h,hr=>by simp only [leD]at h;subst h;exact hr
 | .ownx _ _,y,v,h,hr=>by simp only [leD]at h;subst h;exact hr
 | .row _ _,y,v,h,hr=>by simp only [leD]at h;subst h;exact hr
 | .elr _ _ _ _,y,v,h,hr=>by simp only [leD]at h;subst h;exact hr
 | .osl _ _ _ _ _,y,v,h,hr=>by simp only [leD]at h;subst h;exact hr
 | .und,y,v,h,hr=>by simp only [leD]at h;subst h;exact hr
 | .bad,y,v,h,hr=>by simp only [leD]at h;subst h;exact hr
theorem b0V {ok:Nat→Prop} {w:World} {R:Bool→Nat→Prop}:∀(l r:List D) (v:List SV),a3L l r→d8 ok w R l v→d8 ok w R r v
 | [], [],v,_,hr=>hr
 |x::l,y::r,v::vs,h,hr=>by
  simp only [a3L]at h
  simp only [d8]at hr⊢
  exact⟨b7d x y v h.1 hr.1,b0V l r vs h.2 hr.2⟩
 |_::_,_::_, [],_,hr=>by simp [d8]at hr
 | [],_::_,_,h,_=>by simp [a3L]at h
 |_::_, [],_,h,_=>by simp [a3L]at h
theorem b4J:∀(l r:List D),a3L l r→D3 l=true→D3 r=true
 | [], [],_,_=>rfl
 |x::l,y::r,h,hf=>by
  simp only [a3L]at h
  have h1:=C5 hf List.mem_cons_self
  have h2:a4W y=true:=by
   have h:=h.1
   cases x<;>simp [a4W]at h1<;>simp only [leD]at h
   · rcases h with rfl|⟨_,z,rfl⟩<;>rfl
   all_goals (subst h;rfl)
  simp only [D3,h2]
  exact b4J l r h.2 (U4 fun d hd=>C5 hf (List.mem_cons_of_mem _ hd))
 | [],_::_,h,_=>by simp [a3L]at h
 |_::_, [],h,_=>by simp [a3L]at h
end
section
variable {A : Nat → Prop} {X : Cy} {w0 : World} {bor : List Nat} {st : St} {sy : Sy} {a : Act} {w : World} {Q : Exit → Act → World → Prop}
theorem b7N {ops:List Oper} {T:List (Nat×D)} {d:Nat} {x:D} (h:w8 (a7a ops T) d=some x) (hx:x≠ .bad):w8 T d=some x∧∀(T':List (Nat×SV)),C6 (a4C ops T') d=C6 T' d:=by
 induction ops with
 |nil=>exact⟨h,fun _=>rfl⟩
 |cons o l ih=>
  simp only [a7a]at h
  split at h
  · rename_i d' ha hd
    simp only [w8]at h
    cases hb:Nat.beq d' d with
    |true=>rw [hb]at h;cases h;exact absurd rfl hx
    |false=>
     rw [hb]at h
     obtain⟨h1,h2⟩:=ih h
     refine⟨h1,fun T'=> ?_⟩
     simp only [a4C,ha,hd,C6,hb];exact h2 T'
  · rename_i hno
    obtain⟨h1,h2⟩:=ih h
    refine⟨h1,fun T'=> ?_⟩
    simp only [a4C]
    exact h2 T'
theorem b1u {T:List (Nat×D)} {H:Hy} {nk:Nat} {T':List (Nat×SV)} {H':Hp} {nk' lo:Nat} {ws:World} {iv:List (Nat×Nat)} {ops:List Oper} (hs:Sim A ⟨T',H',nk',ws,lo,iv⟩ ⟨T,H,nk⟩):
 Sim A ⟨a4C ops T',H',nk',ws,ws.heap.size, []⟩ ⟨a7a ops T,H,nk⟩:=by
 have hok:∀b,okS A ⟨T',H',nk',ws,lo,iv⟩ b→okS A ⟨a4C ops T',H',nk',ws,ws.heap.size, []⟩ b∧ws.heap[b]?=ws.heap[b]?:=fun b hb=>⟨⟨⟨.inl hb.2.1,hb.1.2⟩,hb.2.1,hb.2.2⟩,rfl⟩
 refine⟨fun d x hx=> ?_,fun k e he=> ?_,hs.nk,fun j hj=> ?_,hs.fH⟩
 · by_cases hb:x= .bad
   · exact .inl hb
   · obtain⟨h1,h2⟩:=b7N hx hb
     rcases hs.T d x h1 with h|⟨s,h3,h4⟩
     · exact .inl h
     · exact .inr ⟨s,by simp only [h2];exact h3,i0.mono hok (fun _ _ h=>h) _ _ h4⟩
 · obtain⟨e',h1,h2⟩:=hs.H k e he
   exact⟨e',h1,a3z.mono hok (fun _ _ h=>h) h2⟩
 · have:=hs.fT j hj
   simp only at this⊢
   clear hs hok hj
   induction ops with
   |nil=>exact this
   |cons o l ih=>
    simp only [a4C]
    split
    · simp only [B0,ment];exact ih
    · exact ih
mutual
def fwS:D→SV→SV
 | .row k _,_=> .row k
 | .agg l,s=>match a4B s with|some cs=> .agg (fwL l cs)|none=>s
 | .tup l, .tup cs=> .tup (fwL l cs)
 | .tup l, .v (.tuple a)=> .tup (fwL l (vs a.toList))
 | .fn f x y, .fn _ a b=> .fn f (fwL x a) (fwL y b)
 | .fn f x y, .v (.func _ p q)=> .fn f (fwL x (vs p.toList)) (fwL y (vs q.toList))
 |_,s=>s
def fwL:List D→List SV→List SV
 |x::l,s::r=>fwS x s::fwL l r
 |_,_=> []
end
def fwB:List D→List SV→List SV
 | .bad::l,_::r=> .bad::fwB l r
 |x::l,s::r=>fwS x s::fwB l r
 |_,_=> []
def fwH (n:Nat) (H:Hp):Hy→Hp
 | []=> []
 |(k, .blk ds ty)::r=>(match i6 H k with|some (.blk b cs ty')=>(k, .blk b (fwB ds cs) ty')|_=>(k, .row (.slice none 0 0) 0 [] 0 ty))::fwH n H r
 |(k, .row z m l ty)::r=>(match Nat.blt k n,i6 H k with|true,some (.row v m' xs z' ty')=>(k, .row v m' xs z' ty')|_,_=>(k, .row (.slice none 0 0) 0 [] z ty))::fwH n H r
def fwT (T:List (Nat×SV)):List (Nat×D)→List (Nat×SV)
 | []=> []
 |(d,x)::r=>(match C6 T d with|some s=>(d,fwS x s)|none=>(d, .bad))::fwT T r
def a5Y (n:Nat):Hy→List (Option Nat)
 | []=> []
 |(k, .blk _ _)::r=>some k::a5Y n r
 |(k, .row _ _ _ _)::r=>(match Nat.blt k n with|true=>some k|false=>none)::a5Y n r
structure b8B (ok:Nat→Prop) (w:World) (n:Nat) (ks:List Nat) (R R':Bool→Nat→Prop) (H H':Hp):Prop where
 R:∀q j,R8 j ks=true→j<n→R q j→R' q j
 old:∀j,R8 j ks=true→j<n→bOf H' j=bOf H j∧o9 H' j=o9 H j
 new:∀j,R8 j ks=true→¬j<n→R' true j∧o9 H' j= .slice none 0 0
theorem a2t {a b:Nat}:Nat.blt a b=true↔a<b:=by simp [Nat.blt_eq]
mutual
theorem b6X {ok:Nat→Prop} {w:World} {n:Nat} {ks:List Nat} {R R':Bool→Nat→Prop} {H H':Hp} (hz:b8B ok w n ks R R' H H'):∀(x:D) (s:SV),i0 ok w R (back n x) s→inK n ks x=true→i0 ok w R' x (fwS x s)∧den H' (fwS x s)=den H s
 | .v x,s,h,_=>by simp only [back]at h;simp only [fwS];refine⟨h, ?_⟩;simp only [i0]at h;rw [h.1];rfl
 | .lst z m l,s,h,_=>by simp only [back]at h;simp only [fwS];refine⟨h, ?_⟩;simp only [i0]at h;obtain⟨y,rfl,_⟩:=h;rfl
 | .ptr l o,s,h,_=>by simp only [back]at h;simp only [fwS];refine⟨h, ?_⟩;simp only [i0]at h;obtain⟨y,rfl,_⟩:=h;rfl
 | .mp l,s,h,_=>by simp only [back]at h;simp only [fwS];refine⟨h, ?_⟩;simp only [i0]at h;obtain⟨y,rfl,_⟩:=h;rfl
 | .und,s,h,_=>by simp only [back]at h;simp only [fwS];refine⟨h, ?_⟩;simp only [i0]at h;rw [h];rfl
 | .bad,s,h,hk=>by simp [inK]at hk
 | .own j o,s,h,hk=>by
  simp only [back,i0]at h
  simp only [inK]at hk
  obtain⟨rfl,h⟩:=h
  split at hk
  · rename_i hb
    have hj:=a2t.1 hb
    simp only [fwS,i0]
    exact⟨⟨trivial,hz.R _ _ hk hj h⟩,by simp only [den,(hz.old j hk hj).1]⟩
  · cases hk
 | .ownx j o,s,h,hk=>by
  simp only [back,i0]at h
  simp only [inK]at hk
  obtain⟨rfl,h⟩:=h
  split at hk
  · rename_i hb
    have hj:=a2t.1 hb
    simp only [fwS,i0]
    exact⟨⟨trivial,hz.R _ _ hk hj h⟩,by simp only [den,(hz.old j hk hj).1]⟩
  · cases hk
 | .elr j z i o,s,h,hk=>by
  simp only [back,i0]at h
  simp only [inK]at hk
  obtain⟨rfl,h⟩:=h
  split at hk
  · rename_i hb
    have hj:=a2t.1 hb
    simp only [fwS,i0]
    exact⟨⟨trivial,hz.R _ _ hk hj h⟩,by simp only [den,(hz.old j hk hj).1]⟩
  · cases hk
 | .osl j o z m c,s,h,hk=>by
  simp only [back,i0]at h
  simp only [inK]at hk
  obtain⟨rfl,h⟩:=h
  split at hk
  · rename_i hb
    have hj:=a2t.1 hb
    simp only [fwS,i0]
    exact⟨⟨trivial,hz.R _ _ hk hj h⟩,by simp only [den,(hz.old j hk hj).1,(hz.old j hk hj).2]⟩
  · cases hk
 | .row j z,s,h,hk=>by
  simp only [inK]at hk
  simp only [back]at h
  simp only [fwS,i0]
  cases hb:Nat.blt j n with
  |true=>
   rw [hb]at h
   simp only [i0]at h
   obtain⟨rfl,h⟩:=h
   have hj:=a2t.1 hb
   exact⟨⟨trivial,hz.R _ _ hk hj h⟩,by simp only [den,(hz.old j hk hj).2]⟩
  |false=>
   rw [hb]at h
   have hj:¬j<n:=fun h=>by rw [a2t.2 h]at hb;cases hb
   have:=h.sc;subst this
   exact⟨⟨trivial,(hz.new j hk hj).1⟩,by simp only [den,(hz.new j hk hj).2]⟩
 | .agg l,s,h,hk=>by
  simp only [back,i0]at h
  simp only [inK]at hk
  obtain⟨cs,h1,h2,h3⟩:=h
  obtain⟨g1,g2⟩:=a4K hz l cs h2 hk
  simp only [fwS,h1,i0]
  refine⟨⟨_,rfl,g1, ?_⟩, ?_⟩
  · refine U4 fun d hd=> ?_
    have:∀l:List D,D3 (a2J n l)=true→∀d∈l,a4W d=true:=by
     intro l
     induction l with
     |nil=>simp
     |cons x l ih=>
      intro hf d hd
      have h0:a4W (back n x)=true:=C5 hf List.mem_cons_self
      rcases List.mem_cons.1 hd with rfl|hd
      · cases d<;>simp [back,a4W]at h0⊢
      · exact ih (U4 fun d hd=>C5 hf (List.mem_cons_of_mem _ hd)) d hd
    exact this l h3 d hd
  · cases s<;>simp [a4B]at h1
    · rename_i y;cases y<;>simp at h1
      subst h1
      rw [O3]at g2
      simp [den,g2]
    · subst h1;simp [den,g2]
 | .tup l,s,h,hk=>by
  simp only [back,i0]at h
  simp only [inK]at hk
  rcases h with⟨cs,rfl,h2⟩|⟨a,rfl,h2⟩
  · obtain⟨g1,g2⟩:=a4K hz l cs h2 hk
    simp only [fwS,i0]
    exact⟨.inl ⟨_,rfl,g1⟩,by simp [den,g2]⟩
  · obtain⟨g1,g2⟩:=a4K hz l _ h2 hk
    rw [O3]at g2
    simp only [fwS,i0]
    exact⟨.inl ⟨_,rfl,g1⟩,by simp [den,g2]⟩
 | .fn f x y,s,h,hk=>by
  simp only [back,i0]at h
  simp only [inK]at hk
  split at hk
  · rename_i hx
    rcases h with⟨p,q,rfl,h2,h3⟩|⟨p,q,rfl,h2,h3⟩
    · obtain⟨g1,g2⟩:=a4K hz x p h2 hx
      obtain⟨g3,g4⟩:=a4K hz y q h3 hk
      simp only [fwS,i0]
      exact⟨.inl ⟨_,_,rfl,g1,g3⟩,by simp [den,g2,g4]⟩
    · obtain⟨g1,g2⟩:=a4K hz x _ h2 hx
      obtain⟨g3,g4⟩:=a4K hz y _ h3 hk
      rw [O3]at g2 g4
      simp only [fwS,i0]
      exact⟨.inl ⟨_,_,rfl,g1,g3⟩,by simp [den,g2,g4]⟩
  · cases hk
theorem a4K {ok:Nat→Prop} {w:World} {n:Nat} {ks:List Nat} {R R':Bool→Nat→Prop} {H H':Hp} (hz:b8B ok w n ks R R' H H'):∀(l:List D) (r:List SV),d8 ok w R (a2J n l) r→b7D n ks l=true→d8 ok w R' l (fwL l r)∧j7 H' (fwL l r)=j7 H r
 | [], [],_,_=>⟨trivial,rfl⟩
 |x::l,s::r,h,hk=>by
  simp only [a2J,d8]at h
  simp only [b7D]at hk
  split at hk
  · rename_i hx
    obtain⟨g1,g2⟩:=b6X hz x s h.1 hx
    obtain⟨g3,g4⟩:=a4K hz l r h.2 hk
    simp only [fwL]
    exact⟨⟨g1,g3⟩,by simp [j7,g2,g4]⟩
  · cases hk
 | [],_::_,h,_=>by simp [a2J,d8]at h
 |_::_, [],h,_=>by simp [a2J,d8]at h
end
def a9W (ok:Nat→Prop) (w:World) (R:Bool→Nat→Prop):List D→List SV→Prop
 | [], []=>True
 | .bad::l,_::r=>a9W ok w R l r
 |x::l,s::r=>i0 ok w R x s∧a9W ok w R l r
 |_,_=>False
theorem b4L {ok:Nat→Prop} {w:World} {R:Bool→Nat→Prop}:∀(l r:List D) (v:List SV),a9H l r→d8 ok w R l v→a9W ok w R r v
 | [], [], [],_,_=>trivial
 |x::l,y::r,v::vs,h,hr=>by
  simp only [d8]at hr
  cases y<;>simp only [a9H]at h<;>simp only [a9W]
  case bad=>exact b4L l r vs h hr.2
  all_goals exact⟨b7d x _ v h.1 hr.1,b4L l r vs h.2 hr.2⟩
 |_::_, [],_,h,_=>by simp [a9H]at h
 | [],y::_,_,h,_=>by cases y<;>simp [a9H]at h
 |_::_,_::_, [],_,hr=>by simp [d8]at hr
 | [], [],_::_,_,hr=>by simp [d8]at hr
theorem a9g {ok:Nat→Prop} {w:World} {n:Nat} {ks:List Nat} {R R':Bool→Nat→Prop} {H H':Hp} (hz:b8B ok w n ks R R' H H'):∀(l:List D) (r:List SV),a9W ok w R (a2J n l) r→b4M n ks l=true→d8 ok w R' l (fwB l r)∧b5t H H' r (fwB l r)
 | [], [],_,_=>⟨trivial,trivial⟩
 | [],_::_,h,_=>by simp [a2J,a9W]at h
 |x::l, [],h,_=>by
  simp only [a2J]at h
  cases hx:back n x<;>rw [hx]at h<;>simp [a9W]at h
 |x::l,s::r,h,hk=>by
  have gen:x≠ .bad→(a9W ok w R (back n x::a2J n l) (s::r)→i0 ok w R (back n x) s∧a9W ok w R (a2J n l) r)→(inK n ks x=true∧a4W x=true∧b4M n ks l=true)→fwB (x::l) (s::r)=fwS x s::fwB l r→d8 ok w R' (x::l) (fwB (x::l) (s::r))∧b5t H H' (s::r) (fwB (x::l) (s::r)):=by
   intro hb h1 h2 h3
   obtain⟨g1,g2⟩:=h1 h
   obtain⟨k1,k2,k3⟩:=h2
   obtain⟨q1,q2⟩:=b6X hz x s g1 k1
   obtain⟨q3,q4⟩:=a9g hz l r g2 k3
   rw [h3]
   refine⟨⟨q1,q3⟩, .inr ⟨i0.ne g1 ?_,q2.symm⟩,q4⟩
   cases x<;>simp only [back]<;>first|exact absurd rfl hb|(split<;>simp)|simp
  cases x
  case bad=>
   simp only [a2J,back,a9W]at h
   simp only [b4M]at hk
   obtain⟨q3,q4⟩:=a9g hz l r h hk
   simp only [fwB]
   exact⟨⟨by simp only [i0],q3⟩, .inl rfl,q4⟩
  case row k z=>
   refine gen (by simp) (fun h=> ?_) ?_ rfl
   · simp only [back]at h⊢
     split at h<;>simpa only [a9W]using h
   · simp only [b4M]at hk
     split at hk
     · rename_i h1 h2;exact⟨h1,h2,hk⟩
     · cases hk
  all_goals
   refine gen (by simp) (fun h=>by simpa only [back,a9W]using h) ?_ rfl
   simp only [b4M]at hk
   split at hk
   · rename_i h1 h2;exact⟨h1,h2,hk⟩
   · cases hk
end
end Go.Sx
