/- The walk over pure data: its definitions, that it is sound, and what may be read at a type. -/
import Derived.Test.YtcedmbakcchkiaaGreatDoorA2
set_option linter.unusedVariables false
set_option linter.unusedSimpArgs false
namespace Go.Sx
open Go Go.RowKit
inductive D where
 |v (x:Value)
 |agg (l:List D)
 |lst (z n:Nat) (l:List D)
 |ptr (l:List D) (o:Nat)
 |own (k o:Nat)
 |ownx (k o:Nat)
 |row (k z:Nat)
 |elr (k z i o:Nat)
 |osl (k o z n c:Nat)
 |tup (l:List D)
 |fn (f:FuncId) (first caps:List D)
 |mp (l:List (Int×Nat))
 |und
 |bad
inductive E where
 |blk (cs:List D) (ty:TypeId)
 |row (z n:Nat) (l:List D) (ty:TypeId)
abbrev Hy:=List (Nat×E)
structure Sy where
 T:List (Nat×D)
 H:Hy
 nk:Nat
structure Cy where
 P:Program
 tt:List (Nat×TI)
 nt:Nat
 pl:List (Nat×PT)
 ln:List Nat:= []
 un:List Nat:= []
 dfs:List Deferred:= []
 inl:List Nat:= []
 sv:List Value:= []
def j7:Hy→Nat→Option E
 | [],_=>none
 |(k',e)::H,k=>match Nat.beq k' k with|true=>some e|false=>j7 H k
def q8:List (Nat×D)→Nat→Option D
 | [],_=>none
 |(d,s)::T,k=>match Nat.beq d k with|true=>some s|false=>q8 T k
def a4w:D→Bool
 | .v _=>true
 | .lst _ _ _=>true
 | .ptr _ _=>true
 | .own _ _=>true
 | .ownx _ _=>true
 | .row _ _=>true
 | .elr _ _ _ _=>true
 | .osl _ _ _ _ _=>true
 | .fn _ _ _=>true
 | .mp _=>true
 |_=>false
def y5:List D→Bool
 | []=>true
 |d::l=>match a4w d with|true=>y5 l|false=>false
def ofV:Value→Option D
 | .agg a=>match a.toList.all a4Z with|true=>some (.agg (a.toList.map .v))|false=>none
 | .tuple _=>none
 |x=>some (.v x)
def a9r (T:List (Nat×D)) (d:Nat):Option D:=match Nat.blt d 1000000 with|true=>q8 T d|false=>none
theorem a2M {T:List (Nat×D)} {d:Nat} {s:D} (h:a9r T d=some s):d<L4∧q8 T d=some s:=by
 unfold a9r at h
 split at h
 · rename_i hb;exact⟨by simpa [Nat.blt_eq]using hb,h⟩
 · cases h
theorem a6m {T:List (Nat×SV)} {d:Nat} (h:d<L4):a9Y T d=w3 T d:=by
 unfold a9Y
 rw [show Nat.blt d 1000000=true by simpa [Nat.blt_eq]using h]
def evY (st:Sy):Operand→Option D
 | .tmp t=>match a9r st.T t with|some .bad=>none|r=>r
 | .const v=>ofV v
 | .func f=>some (.fn f [] [])
 | .global _=>none
def a8b (st:Sy):List Operand→Option (List D)
 | []=>some []
 |x::l=>match evY st x,a8b st l with|some s,some r=>some (s::r)|_,_=>none
def takeD:Nat→List D→Option (List D)
 |0,_=>some []
 |_+1, []=>none
 |_+1, .bad::_=>none
 |n+1,x::l=>match takeD n l with|some r=>some (x::r)|none=>none
def dropD:Nat→List D→List D
 |0,l=>l
 |_+1, []=> []
 |n+1,_::l=>dropD n l
def mkD (agg:Bool) (l:List D):Option D:=
 match agg,l with
 |true,l=>match y5 l with|true=>some (.agg l)|false=>none
 |false, [x]=>match a4w x with|true=>some x|false=>none
 |false,_=>none
def a9u:D→Option (List D)
 | .agg l=>some l
 | .tup _=>none
 | .und=>none
 | .bad=>none
 |s=>some [s]
def c1Z:D→Option (List D)
 | .agg l=>some l
 |_=>none
def b0S:Bool→D→Option (List D)
 |true, .agg l=>some l
 |false, .v (.bool b)=>some [.v (.bool b)]
 |_,_=>none
def b8V:CK→D→D→Option Bool
 | .int k, .v (.int ka a), .v (.int kb b)=>match kEq k ka,kEq k kb with|true,true=>some (a==b)|_,_=>none
 | .bool, .v (.bool a), .v (.bool b)=>some (a==b)
 | .str, .v (.string a), .v (.string b)=>some (a.toList==b.toList)
 |_,_,_=>none
def a5W:List CK→List D→List D→Option Bool
 | [], [], []=>some true
 | [k], [x], [y]=>b8V k x y
 |k::ks,x::l,y::r=>match b8V k x y,a5W ks l r with|some a,some b=>some (a&&b)|_,_=>none
 |_,_,_=>none
def b3O:D→Bool
 | .v _=>true
 | .lst _ _ _=>true
 | .ptr _ _=>true
 |_=>false
def U5:List D→Bool
 | []=>true
 |d::l=>match b3O d with|true=>U5 l|false=>false
inductive a5X where
 |val (s:D)
 |new (cs:List D) (ty:TypeId) (sl:Option (Nat×Nat))
 |newR (l:List D) (ty:TypeId) (z n:Nat)
 |call (f:FuncId) (args:List D)
 |upd (key:Nat) (cs:List D)
 |updR (key:Nat) (l:List D)
 |app (e esz bytes:Nat) (s x:D)
def el (l:List D) (z i:Nat):List D:=(l.drop (i*z)).take z
def a9c (l:List D) (z i:Nat) (cs:List D):List D:=l.take (i*z)++cs++l.drop (i*z+z)
def a3L (K:a5X→Prop):Option D→Prop
 |some s=>K (.val s)
 |none=>False
def a9W (K:a5X→Prop):Out→Prop
 | .val (.v x)=>match a4Z x with|true=>K (.val (.v x))|false=>False
 |_=>False
def b7b (st:Sy) (len cap:Nat) (lo hi mx:Option Operand) (K:Nat→Nat→Nat→Prop):Prop:=
 match mx with
 |none=>match hi with
  |none=>match lo with
   |none=>K 0 len cap
   |some l=>match evY st l with
    |some (.v (.int _ z))=>(0≤z∧z≤len)∧K z.toNat len cap
    |_=>False
  |some h=>match evY st h with
   |some (.v (.int _ y))=>(0≤y∧y≤cap)∧match lo with
    |none=>K 0 y.toNat cap
    |some l=>match evY st l with
     |some (.v (.int _ z))=>(0≤z∧z≤y)∧K z.toNat y.toNat cap
     |_=>False
   |_=>False
 |some _=>False
def b2a (X:Cy) (st:Sy) (b:Builtin) (args:List Operand) (tys:List TypeId) (K:a5X→Prop):Prop:=
 match b,tys with
 | .len,t::_=>match F9 X.tt t,a8b st args with
  |some ⟨_,_,_,_, .slice _ _ _⟩,some [.v (.slice none 0 0)]=>K (.val (.v (.int .i64 0)))
  |some ⟨_,_,_,_, .slice _ _ _⟩,some [.lst _ n _]=>K (.val (.v (.int .i64 n)))
  |some ⟨_,_,_,_, .slice _ _ _⟩,some [.osl _ _ _ n _]=>K (.val (.v (.int .i64 n)))
  |some ⟨_,_,_,_, .slice _ _ _⟩,some [.row k _]=>match j7 st.H k with
   |some (.row _ n _ _)=>K (.val (.v (.int .i64 n)))
   |_=>False
  |some ⟨_,_,_,_, .str⟩,some [.v (.string s)]=>K (.val (.v (.int .i64 s.size)))
  |_,_=>False
 | .max,_=>match a8b st args with
  |some [.v (.int ka a), .v (.int _ b)]=>K (.val (.v (.int ka (if b>a then b else a))))
  |_=>False
 | .min,_=>match a8b st args with
  |some [.v (.int ka a), .v (.int _ b)]=>K (.val (.v (.int ka (if b<a then b else a))))
  |_=>False
 | .append,t::u::_=>match Nat.beq t u,F9 X.tt t,a8b st args with
  |true,some ⟨_,_,_,_, .slice e esz bytes⟩,some [s,x]=>match F9 X.tt e with
   |some i=>match Nat.beq i.n esz with
    |true=>K (.app e esz bytes s x)
    |false=>False
   |none=>False
  |_,_,_=>False
 |_,_=>False
def b6V (X:Cy) (fs:List (Nat×Nat×Nat)) (f:Nat) (s:D) (K:a5X→Prop):Prop:=
 match a8P fs f,c1Z s with
 |some (fty,off,n),some l=>match F9 X.tt fty,takeD n (dropD off l)with
  |some i,some r=>match Nat.beq i.n n with
   |true=>a3L K (mkD i.agg r)
   |false=>False
  |_,_=>False
 |_,_=>False
def b2q (fs:List (Nat×Nat×Nat)) (st:Sy):List (Nat×Operand)→List D→Option (List D)
 | [],l=>some l
 |(i,x)::ps,l=>match a8P fs i,evY st x with
  |some (_,off,n),some s=>match a9u s with
   |some cs=>match Nat.beq cs.length n,y5 cs with
    |true,true=>match over off cs l with
     |some r=>b2q fs st ps r
     |none=>none
    |_,_=>none
   |none=>none
  |_,_=>none
def a4A (esz:Nat) (st:Sy):List (Nat×Operand)→List D→Option (List D)
 | [],l=>some l
 |(i,x)::ps,l=>match evY st x with
  |some s=>match a9u s with
   |some cs=>match Nat.beq cs.length esz,y5 cs with
    |true,true=>match over (i*esz) cs l with
     |some r=>a4A esz st ps r
     |none=>none
    |_,_=>none
   |none=>none
  |_=>none
def b0y:Nat→List D→List D
 |0,_=> []
 |n+1,l=>l++b0y n l
def vD:List Value→List D
 | []=> []
 |x::l=> .v x::vD l
def c0a (st:Sy) (i:TI) (p:D) (K:a5X→Prop):Prop:=
 match p with
 | .own k o=>match j7 st.H k with
  |some (.blk cs _)=>match takeD i.n (dropD o cs)with
   |some l=>a3L K (mkD i.agg l)
   |none=>False
  |_=>False
 | .ownx k o=>match j7 st.H k with
  |some (.blk cs _)=>∃l,(takeD i.n (dropD o cs)=some l)∧a3L K (mkD i.agg l)
  |_=>False
 | .elr k z j o=>match j7 st.H k with
  |some (.row z' n l _)=>match Nat.beq z' z with
   |true=>∃cs,(el l z j=cs∧j<n)∧match takeD i.n (dropD o cs),Nat.ble (o+i.n) z with
    |some l,true=>a3L K (mkD i.agg l)
    |_,_=>False
   |false=>False
  |_=>False
 | .ptr l o=>match takeD i.n (dropD o l)with
  |some l=>a3L K (mkD i.agg l)
  |none=>False
 |_=>False
def b7C (st:Sy) (i:TI) (p s:D) (K:a5X→Prop):Prop:=
 match a9u s with
 |some l=>match Nat.beq l.length i.n,y5 l with
  |true,true=>match p with
   | .own k o=>match j7 st.H k with
    |some (.blk cs _)=>match over o l cs with
     |some cs'=>K (.upd k cs')
     |none=>False
    |_=>False
   | .ownx k o=>match j7 st.H k with
    |some (.blk cs _)=>∃cs',over o l cs=some cs'∧K (.upd k cs')
    |_=>False
   | .elr k z j o=>match j7 st.H k with
    |some (.row z' n r _)=>match Nat.beq z' z,U5 l with
     |true,true=>∃cs,(el r z j=cs∧j<n)∧match over o l cs with
      |some cs'=>∃r',a9c r z j cs'=r'∧K (.updR k r')
      |none=>False
     |_,_=>False
    |_=>False
   |_=>False
  |_,_=>False
 |none=>False
def b0N (s:D) (off:Nat):Option D:=
 match s with
 | .own k o=>some (.own k (o+off))
 | .ownx k o=>some (.ownx k (o+off))
 | .elr k z i o=>some (.elr k z i (o+off))
 | .ptr l o=>some (.ptr l (o+off))
 |_=>none
def b1w (s:D) (off:Nat):Option D:=
 match s with
 | .own k o=>some (.ownx k (o+off))
 | .ownx k o=>some (.ownx k (o+off))
 |_=>none
def a6w:List (Int×Nat)→Int→Option Nat
 | [],_=>none
 |(k,f)::l,i=>match i==k with|true=>some f|false=>a6w l i
def y1 (X:Cy) (st:Sy) (op:Op) (K:a5X→Prop):Prop:=
 match op with
 | .move x=>a3L K (evY st x)
 | .assign x=>a3L K (evY st x)
 | .pick c a b=>match evY st c with
  |some (.v (.bool t))=>VIf t (a3L K (evY st a)) (a3L K (evY st b))
  |_=>False
 | .alloc t=>match F9 X.tt t with
  |some i=>K (.new (vD i.z) t none)
  |none=>False
 | .box t x=>match F9 X.tt t,evY st x with
  |some _,some s=>match a9u s with
   |some l=>match y5 l with|true=>K (.new l t none)|false=>False
   |none=>False
  |_,_=>False
 | .load t p=>match F9 X.tt t,evY st p with
  |some i,some s=>c0a st i s K
  |_,_=>False
 | .store t p x=>match F9 X.tt t,evY st p,evY st x with
  |some i,some q,some s=>b7C st i q s K
  |_,_,_=>False
 | .nilCheck p=>match evY st p with
  |some (.own k o)=>K (.val (.own k o))
  |some (.ownx k o)=>K (.val (.ownx k o))
  |some (.elr k z i o)=>K (.val (.elr k z i o))
  |some (.ptr l o)=>K (.val (.ptr l o))
  |_=>False
 | .fieldAddr t p f=>match F9 X.tt t,evY st p with
  |some ⟨_,_,_,_, .struct fs⟩,some s=>match a8P fs f with
   |some (_,off,_)=>a3L K (b0N s off)
   |none=>False
  |_,_=>False
 | .field t x f=>match F9 X.tt t,evY st x with
  |some ⟨_,_,_,_, .struct fs⟩,some s=>b6V X fs f s K
  |_,_=>False
 | .indexAddr t x ix=>match F9 X.tt t,evY st x,evY st ix with
  |some ⟨_,_,_,_, .slice _ esz _⟩,some (.lst z n l),some (.v (.int _ i))=>match Nat.beq z esz with
   |true=>∃cs,(el l z i.toNat=cs∧0≤i∧i<n)∧K (.val (.ptr cs 0))
   |false=>False
  |some ⟨_,_,_,_, .slice _ esz _⟩,some (.osl k o z n _),some (.v (.int _ i))=>match Nat.beq z esz with
   |true=>(0≤i∧i<n)∧K (.val (.ownx k (o+i.toNat*z)))
   |false=>False
  |some ⟨_,_,_,_, .slice _ esz _⟩,some (.row k z),some (.v (.int _ i))=>match Nat.beq z esz,j7 st.H k with
   |true,some (.row z' n _ _)=>match Nat.beq z' z with
    |true=>(0≤i∧i<n)∧K (.val (.elr k z i.toNat 0))
    |false=>False
   |_,_=>False
  |some ⟨_,_,_,_, .slice _ _ _⟩,some (.v (.slice none 0 0)),some (.v (.int _ i))=>0≤i∧i<0
  |some ⟨_,_,_,_, .arr len _ esz⟩,some s,some (.v (.int _ z))=>
   (0≤z∧z<len)∧a3L K (match b8j ix with|true=>b0N s (z.toNat*esz)|false=>b1w s (z.toNat*esz))
  |_,_,_=>False
 | .index t x ix=>match F9 X.tt t,evY st x,evY st ix with
  |some ⟨_,_,_,_, .str⟩,some (.v (.string s)),some (.v (.int _ z))=>
   ∃c,(0≤z∧s.data.toList[z.toNat]?=some c)∧K (.val (.v (.int .u8 c.toNat)))
  |some ⟨_,_,_,_, .arr len ety esz⟩,some s,some (.v (.int _ z))=>match c1Z s,F9 X.tt ety with
   |some l,some i=>(0≤z∧z<len)∧match Nat.beq i.n esz,takeD i.n (dropD (z.toNat*esz) l)with
    |true,some r=>a3L K (mkD i.agg r)
    |_,_=>False
   |_,_=>False
  |_,_,_=>False
 | .binOp op t x y _=>match evY st x,evY st y with
  |some (.v (.int ka a)),some (.v (.int kb b))=>match c3e op,kEq ka kb with
   |true,_=>b6D op ka a b (a9W K)
   |false,true=>b1o op ka a b (a9W K)
   |false,false=>False
  |some (.v (.string a)),some (.v (.string b))=>b1S op a b (a9W K)
  |some s,some r=>match F9 X.tt t with
   |some ⟨_,agg,_,some ks,_⟩=>match b0S agg s,b0S agg r with
    |some l,some m=>match a5W ks l m with
     |some e=>a3n op e (a9W K)
     |none=>False
    |_,_=>False
   |some ⟨_,_,_,none, .slice _ _ _⟩=>match s,r with
    | .lst _ n _, .v (.slice none 0 0)=>∀b:Bool,(b=true→n=0)→a3n op b (a9W K)
    | .v (.slice none 0 0), .v (.slice none 0 0)=>a3n op true (a9W K)
    |_,_=>False
   |_=>False
  |_,_=>False
 | .unOp op _ x=>match op,evY st x with
  | .not,some (.v (.bool b))=>K (.val (.v (.bool (!b))))
  | .neg,some (.v (.int k a))=>K (.val (.v (.int k (k.wrap (0-a)))))
  |_,_=>False
 | .convert src dst x=>match F9 X.tt src,F9 X.tt dst,evY st x with
  |some _,some ⟨_,_,_,some [.int k], .int⟩,some (.v (.int _ n))=>K (.val (.v (.int k (k.wrap n))))
  |_,_,_=>False
 | .extract x n=>match evY st x with
  |some (.tup l)=>match dropD n l with| .bad::_=>False|s::_=>K (.val s)| []=>False
  |_=>False
 | .makeFunc fn first caps=>match fn,a8b st first.toList,a8b st caps.toList with
  | .func f,some l,some c=>K (.val (.fn f l c))
  |_,_,_=>False
 | .build t ps=>match F9 X.tt t with
  |some ⟨_,_,z,_, .struct fs⟩=>match b2q fs st ps.toList (vD z)with
   |some l=>match y5 l with|true=>K (.val (.agg l))|false=>False
   |none=>False
  |some ⟨_,_,z,_, .arr _ _ esz⟩=>match a4A esz st ps.toList (vD z)with
   |some l=>match y5 l with|true=>K (.val (.agg l))|false=>False
   |none=>False
  |_=>False
 | .buildSlice t n ps=>match F9 X.tt t with
  |some ⟨_,_,_,_, .slice e esz _⟩=>match F9 X.tt e with
   |some i=>match Nat.ble (n*esz) 16777216,Nat.beq i.n esz,a4A esz st ps.toList (b0y n (vD i.z))with
    |true,true,some l=>match U5 l,Nat.ble n 16777216 with
     |true,true=>∃l' n',(l=l'∧n=n')∧K (.newR l' e esz n')
     |_,_=>K (.new l e (some (esz,n)))
    |_,_,_=>False
   |none=>False
  |_=>False
 | .makeSlice t l c=>match F9 X.tt t,evY st l,evY st c with
  |some ⟨_,_,_,_, .slice e esz bytes⟩,some (.v (.int _ p)),some (.v (.int _ q))=>match F9 X.tt e with
   |some i=>match Nat.beq i.n esz with
    |true=>(p=q∧0≤p∧(bytes:Int)*p≤281474976710656∧p≤9223372036854775807)∧∃l' n',(b0y p.toNat (vD i.z)=l'∧p.toNat=n')∧K (.newR l' e esz n')
    |false=>False
   |none=>False
  |_,_,_=>False
 | .slice t x lo hi mx=>match F9 X.tt t,evY st x with
  |some ⟨_,_,_,_, .slice _ esz _⟩,some (.lst z n l)=>match Nat.beq z esz with
   |true=>b7b st n n lo hi mx fun a h _=>∃r,(l.drop (a*z)).take ((h-a)*z)=r∧K (.val (.lst z (h-a) r))
   |false=>False
  |some ⟨_,_,_,_, .slice _ esz _⟩,some (.row k z)=>match Nat.beq z esz,j7 st.H k with
   |true,some (.row _ n _ _)=>0<n∧b7b st n n lo hi mx fun a h _=>∀o,(h-a=0∨o=a*z)∧(a=0→o=0)→K (.val (.osl k o z (h-a) a))
   |_,_=>False
  |some ⟨_,_,_,_, .str⟩,some (.v (.string s))=>
   b7b st s.size s.size lo hi mx fun l h _=>K (.val (.v (.string (s.extract l h))))
  |_,_=>False
 | .lookup t x ix ok=>match ok,evY st x,evY st ix with
  |false,some (.mp l),some (.v (.int .i64 i))=>(∃kt et,X.P.underlying t=some (.map kt et)∧X.P.underlying kt=some (.int .i64))∧∃f,a6w l i=some f∧K (.val (.fn f [] []))
  |_,_,_=>False
 | .call c=>match c.callee with
  | .value f=>match evY st f,a8b st c.args.toList with
   |some (.fn g l caps),some args=>K (.call g (l++(args++caps)))
   |_,_=>False
  | .builtin b=>b2a X st b c.args.toList c.argTypes.toList K
  |_=>False
 |_=>False
end Go.Sx
namespace Go.Sx
open Go Go.RowKit
mutual
def Rep (ok:Nat→Prop) (w:World):D→Value→Prop
 | .v x,y=>y=x∧a4Z x=true
 | .agg l,y=>∃a,y= .agg a∧c8 ok w l a.toList∧y5 l=true
 | .lst z n l,y=>∃a c,y= .slice a n c∧n≤c∧(n:Int)≤9223372036854775807∧l.length=n*z∧y5 l=true∧
  (c=0∨∃b o xs,a=some ⟨b,o,none⟩∧ok b∧c8 ok w l xs∧∀j,j<n*z→w.cell? ⟨b,o+j,none⟩=xs[j]?)
 | .ptr l o,y=>∃b p xs,y= .pointer (some ⟨b,p+o,none⟩)∧ok b∧y5 l=true∧c8 ok w l xs∧∀j,j<l.length→w.cell? ⟨b,p+j,none⟩=xs[j]?
 | .fn f a b,y=>∃p q,y= .func (.func f) p q∧c8 ok w a p.toList∧c8 ok w b q.toList
 | .tup l,y=>∃a,y= .tuple a∧c8 ok w l a.toList
 | .mp l,y=>∃r es c,y= .map (some r)∧ok r∧w.heap[r]?=some (.map es c)∧es.toList.map (fun e=>(e.key,e.val))=l.map (fun p=>(Value.int .i64 p.1,Value.func (.func p.2) #[] #[]))
 |_,_=>False
def c8 (ok:Nat→Prop) (w:World):List D→List Value→Prop
 | [], []=>True
 |d::l,y::r=>Rep ok w d y∧c8 ok w l r
 |_,_=>False
end
mutual
theorem Rep.mono {ok ok':Nat→Prop} {w w':World} (hm:∀b,ok b→ok' b∧w'.heap[b]?=w.heap[b]?):∀(d:D) (y:Value),Rep ok w d y→Rep ok' w' d y
 | .v x,y,h=>h
 | .agg l,y,h=>by
  simp only [Rep]at h⊢
  obtain⟨a,h1,h2,h3⟩:=h
  exact⟨a,h1,c8.mono hm l _ h2,h3⟩
 | .lst z n l,y,h=>by
  simp only [Rep]at h⊢
  obtain⟨a,c,h1,h2,h3,h4,h5,h6⟩:=h
  refine⟨a,c,h1,h2,h3,h4,h5, ?_⟩
  rcases h6 with h6|⟨b,o,xs,e1,e2,e3,e4⟩
  · exact .inl h6
  · refine .inr ⟨b,o,xs,e1,(hm b e2).1,c8.mono hm l _ e3,fun j hj=> ?_⟩
    rw [←e4 j hj];simp only [World.cell?,(hm b e2).2]
 | .ptr l o,y,h=>by
  simp only [Rep]at h⊢
  obtain⟨b,p,xs,e1,e2,e5,e3,e4⟩:=h
  refine⟨b,p,xs,e1,(hm b e2).1,e5,c8.mono hm l _ e3,fun j hj=> ?_⟩
  rw [←e4 j hj];simp only [World.cell?,(hm b e2).2]
 | .fn f a b,y,h=>by
  simp only [Rep]at h⊢
  obtain⟨p,q,h1,h2,h3⟩:=h
  exact⟨p,q,h1,c8.mono hm a _ h2,c8.mono hm b _ h3⟩
 | .tup l,y,h=>by
  simp only [Rep]at h⊢
  obtain⟨a,h1,h2⟩:=h
  exact⟨a,h1,c8.mono hm l _ h2⟩
 | .mp l,y,h=>by
  simp only [Rep]at h⊢
  obtain⟨r,es,c,h1,h2,h3,h4⟩:=h
  exact⟨r,es,c,h1,(hm r h2).1,by rw [(hm r h2).2];exact h3,h4⟩
 | .own _ _,_,h=>by simp [Rep]at h
 | .ownx _ _,_,h=>by simp [Rep]at h
 | .row _ _,_,h=>by simp [Rep]at h
 | .elr _ _ _ _,_,h=>by simp [Rep]at h
 | .osl _ _ _ _ _,_,h=>by simp [Rep]at h
 | .und,_,h=>by simp [Rep]at h
 | .bad,_,h=>by simp [Rep]at h
theorem c8.mono {ok ok':Nat→Prop} {w w':World} (hm:∀b,ok b→ok' b∧w'.heap[b]?=w.heap[b]?):∀(l:List D) (r:List Value),c8 ok w l r→c8 ok' w' l r
 | [], [],_=>trivial
 |d::l,y::r,h=>by
  simp only [c8]at h⊢
  exact⟨Rep.mono hm d y h.1,c8.mono hm l r h.2⟩
 | [],_::_,h=>by simp [c8]at h
 |_::_, [],h=>by simp [c8]at h
end
section
variable {ok : Nat → Prop} {w : World}
theorem c8.length {l:List D} {r:List Value} (h:c8 ok w l r):l.length=r.length:=by
 induction l generalizing r with
 |nil=>cases r with
  |nil=>rfl
  |cons=>simp [c8]at h
 |cons d l ih=>cases r with
  |nil=>simp [c8]at h
  |cons y r=>simp only [c8]at h;simp [ih h.2]
theorem c8.get {l:List D} {r:List Value} (h:c8 ok w l r) {j:Nat} {d:D} (hd:l[j]?=some d):∃y,r[j]?=some y∧Rep ok w d y:=by
 induction l generalizing r j with
 |nil=>simp at hd
 |cons d' l ih=>cases r with
  |nil=>simp [c8]at h
  |cons y r=>
   simp only [c8]at h
   cases j with
   |zero=>simp at hd;subst hd;exact⟨y,by simp,h.1⟩
   |succ j=>simp at hd;obtain⟨y',h1,h2⟩:=ih h.2 hd;exact⟨y',by simpa using h1,h2⟩
theorem c8.app {l l':List D} {r r':List Value} (h:c8 ok w l r) (h':c8 ok w l' r'):c8 ok w (l++l') (r++r'):=by
 induction l generalizing r with
 |nil=>cases r with
  |nil=>exact h'
  |cons=>simp [c8]at h
 |cons d l ih=>cases r with
  |nil=>simp [c8]at h
  |cons y r=>simp only [c8]at h;exact⟨h.1,ih h.2⟩
theorem c8.drop {l:List D} {r:List Value} (h:c8 ok w l r) (n:Nat):c8 ok w (l.drop n) (r.drop n):=by
 induction n generalizing l r with
 |zero=>simpa using h
 |succ n ih=>cases l with
  |nil=>cases r with
   |nil=>simp [c8]
   |cons=>simp [c8]at h
  |cons d l=>cases r with
   |nil=>simp [c8]at h
   |cons y r=>simp only [c8]at h;simpa using ih h.2
theorem c8.take {l:List D} {r:List Value} (h:c8 ok w l r) (n:Nat):c8 ok w (l.take n) (r.take n):=by
 induction n generalizing l r with
 |zero=>simp [c8]
 |succ n ih=>cases l with
  |nil=>cases r with
   |nil=>simp [c8]
   |cons=>simp [c8]at h
  |cons d l=>cases r with
   |nil=>simp [c8]at h
   |cons y r=>simp only [c8]at h;simp only [List.take_succ_cons,c8];exact⟨h.1,ih h.2⟩
theorem v6 {l:List D} (h:y5 l=true) {d:D} (hd:d∈l):a4w d=true:=by
 induction l with
 |nil=>cases hd
 |cons x l ih=>
  simp only [y5]at h
  split at h
  · rename_i hx
    rcases List.mem_cons.1 hd with rfl|hd
    · exact hx
    · exact ih h hd
  · cases h
theorem P1 {l:List D} (h:∀d,d∈l→a4w d=true):y5 l=true:=by
 induction l with
 |nil=>rfl
 |cons x l ih=>
  simp only [y5,h x List.mem_cons_self]
  exact ih fun d hd=>h d (List.mem_cons_of_mem _ hd)
theorem Rep.one {d:D} {y:Value} (h:Rep ok w d y) (hd:a4w d=true):a4Z y=true:=by
 cases d<;>simp [a4w]at hd<;>simp only [Rep]at h
 · obtain⟨rfl,h⟩:=h;exact h
 · obtain⟨a,c,rfl,_⟩:=h;rfl
 · obtain⟨b,p,xs,rfl,_⟩:=h;rfl
 · obtain⟨p,q,rfl,_⟩:=h;rfl
 · obtain⟨r,es,c,rfl,_⟩:=h;rfl
theorem c8.one {l:List D} {r:List Value} (h:c8 ok w l r) (hl:y5 l=true):∀y,y∈r→a4Z y=true:=by
 induction l generalizing r with
 |nil=>cases r with
  |nil=>simp
  |cons=>simp [c8]at h
 |cons d l ih=>cases r with
  |nil=>simp [c8]at h
  |cons y r=>
   simp only [c8]at h
   intro u hu
   rcases List.mem_cons.1 hu with rfl|hu
   · exact h.1.one (v6 hl List.mem_cons_self)
   · exact ih h.2 (P1 fun d hd=>v6 hl (List.mem_cons_of_mem _ hd)) u hu
end
mutual
def c4 (ok:Nat→Prop) (w:World) (R:Bool→Nat→Prop):D→SV→Prop
 | .v x,s=>s= .v x∧a4Z x=true
 | .agg l,s=>∃cs,a4a s=some cs∧c0 ok w R l cs∧y5 l=true
 | .lst z n l,s=>∃y,s= .v y∧Rep ok w (.lst z n l) y
 | .ptr l o,s=>∃y,s= .v y∧Rep ok w (.ptr l o) y
 | .own k o,s=>s= .own k o∧R false k
 | .ownx k o,s=>s= .ownx k o∧R false k
 | .row k _,s=>s= .row k∧R true k
 | .elr k z i o,s=>s= .ownx k (i*z+o)∧R true k
 | .osl k o _ n c,s=>s= .osl k o n c∧R false k
 | .tup l,s=>(∃cs,s= .tup cs∧c0 ok w R l cs)∨∃a,s= .v (.tuple a)∧c0 ok w R l (vs a.toList)
 | .fn f a b,s=>(∃a' b',s= .fn f a' b'∧c0 ok w R a a'∧c0 ok w R b b')∨∃p q,s= .v (.func (.func f) p q)∧c0 ok w R a (vs p.toList)∧c0 ok w R b (vs q.toList)
 | .mp l,s=>∃y,s= .v y∧Rep ok w (.mp l) y
 | .und,s=>s= .v undef
 | .bad,s=>s= .bad
def c0 (ok:Nat→Prop) (w:World) (R:Bool→Nat→Prop):List D→List SV→Prop
 | [], []=>True
 |d::l,y::r=>c4 ok w R d y∧c0 ok w R l r
 |_,_=>False
end
mutual
theorem c4.mono {ok ok':Nat→Prop} {w w':World} {R R':Bool→Nat→Prop} (hm:∀b,ok b→ok' b∧w'.heap[b]?=w.heap[b]?) (hR:∀q k,R q k→R' q k):∀(d:D) (s:SV),c4 ok w R d s→c4 ok' w' R' d s
 | .v x,y,h=>h
 | .agg l,y,h=>by
  simp only [c4]at h⊢
  obtain⟨a,h1,h2,h3⟩:=h
  exact⟨a,h1,c0.mono hm hR l _ h2,h3⟩
 | .lst z n l,y,h=>by
  simp only [c4]at h⊢
  obtain⟨a,h1,h2⟩:=h
  exact⟨a,h1,Rep.mono hm _ _ h2⟩
 | .ptr l o,y,h=>by
  simp only [c4]at h⊢
  obtain⟨a,h1,h2⟩:=h
  exact⟨a,h1,Rep.mono hm _ _ h2⟩
 | .mp l,y,h=>by
  simp only [c4]at h⊢
  obtain⟨a,h1,h2⟩:=h
  exact⟨a,h1,Rep.mono hm _ _ h2⟩
 | .own k o,y,h=>by simp only [c4]at h⊢;exact⟨h.1,hR _ k h.2⟩
 | .ownx k o,y,h=>by simp only [c4]at h⊢;exact⟨h.1,hR _ k h.2⟩
 | .row k z,y,h=>by simp only [c4]at h⊢;exact⟨h.1,hR _ k h.2⟩
 | .elr k z i o,y,h=>by simp only [c4]at h⊢;exact⟨h.1,hR _ k h.2⟩
 | .osl k o z n c,y,h=>by simp only [c4]at h⊢;exact⟨h.1,hR _ k h.2⟩
 | .tup l,y,h=>by
  simp only [c4]at h⊢
  rcases h with⟨cs,h1,h2⟩|⟨a,h1,h2⟩
  · exact .inl ⟨cs,h1,c0.mono hm hR l _ h2⟩
  · exact .inr ⟨a,h1,c0.mono hm hR l _ h2⟩
 | .fn f a b,y,h=>by
  simp only [c4]at h⊢
  rcases h with⟨p,q,h1,h2,h3⟩|⟨p,q,h1,h2,h3⟩
  · exact .inl ⟨p,q,h1,c0.mono hm hR a _ h2,c0.mono hm hR b _ h3⟩
  · exact .inr ⟨p,q,h1,c0.mono hm hR a _ h2,c0.mono hm hR b _ h3⟩
 | .und,_,h=>h
 | .bad,_,h=>h
theorem c0.mono {ok ok':Nat→Prop} {w w':World} {R R':Bool→Nat→Prop} (hm:∀b,ok b→ok' b∧w'.heap[b]?=w.heap[b]?) (hR:∀q k,R q k→R' q k):∀(l:List D) (r:List SV),c0 ok w R l r→c0 ok' w' R' l r
 | [], [],_=>trivial
 |d::l,y::r,h=>by
  simp only [c0]at h⊢
  exact⟨c4.mono hm hR d y h.1,c0.mono hm hR l r h.2⟩
 | [],_::_,h=>by simp [c0]at h
 |_::_, [],h=>by simp [c0]at h
end
section
variable {ok : Nat → Prop} {w : World} {R : Bool → Nat → Prop}
mutual
theorem Rep.rel {ok:Nat→Prop} {w:World} {R:Bool→Nat→Prop}:∀(d:D) (y:Value),Rep ok w d y→c4 ok w R d (.v y)
 | .v x,y,h=>by simp only [Rep]at h;simp only [c4];exact⟨by rw [h.1],h.2⟩
 | .agg l,y,h=>by
  simp only [Rep]at h;simp only [c4]
  obtain⟨a,rfl,h2,h3⟩:=h
  exact⟨_,rfl,c8.rel l _ h2,h3⟩
 | .lst z n l,y,h=>by simp only [c4];exact⟨y,rfl,h⟩
 | .ptr l o,y,h=>by simp only [c4];exact⟨y,rfl,h⟩
 | .mp l,y,h=>by simp only [c4];exact⟨y,rfl,h⟩
 | .fn f a b,y,h=>by
  simp only [Rep]at h;simp only [c4]
  obtain⟨p,q,rfl,h2,h3⟩:=h
  exact .inr ⟨p,q,rfl,c8.rel a _ h2,c8.rel b _ h3⟩
 | .tup l,y,h=>by
  simp only [Rep]at h;simp only [c4]
  obtain⟨a,rfl,h2⟩:=h
  exact .inr ⟨a,rfl,c8.rel l _ h2⟩
 | .own _ _,_,h=>by simp [Rep]at h
 | .ownx _ _,_,h=>by simp [Rep]at h
 | .row _ _,_,h=>by simp [Rep]at h
 | .elr _ _ _ _,_,h=>by simp [Rep]at h
 | .osl _ _ _ _ _,_,h=>by simp [Rep]at h
 | .und,_,h=>by simp [Rep]at h
 | .bad,_,h=>by simp [Rep]at h
theorem c8.rel {ok:Nat→Prop} {w:World} {R:Bool→Nat→Prop}:∀(l:List D) (r:List Value),c8 ok w l r→c0 ok w R l (vs r)
 | [], [],_=>trivial
 |d::l,y::r,h=>by
  simp only [c8]at h;simp only [vs,c0]
  exact⟨Rep.rel d y h.1,c8.rel l r h.2⟩
 | [],_::_,h=>by simp [c8]at h
 |_::_, [],h=>by simp [c8]at h
end
theorem c4.ne {d:D} {s:SV} (h:c4 ok w R d s) (hd:d≠ .bad):s≠ .bad:=by
 cases d<;>simp only [c4]at h
 · rw [h.1];simp
 · obtain⟨cs,h1,_⟩:=h;intro e;subst e;simp [a4a]at h1
 · obtain⟨y,rfl,_⟩:=h;simp
 · obtain⟨y,rfl,_⟩:=h;simp
 · rw [h.1];simp
 · rw [h.1];simp
 · rw [h.1];simp
 · rw [h.1];simp
 · rw [h.1];simp
 · rcases h with⟨cs,rfl,_⟩|⟨cs,rfl,_⟩<;>simp
 · rcases h with⟨p,q,rfl,_⟩|⟨p,q,rfl,_⟩<;>simp
 · obtain⟨y,rfl,_⟩:=h;simp
 · rw [h];simp
 · exact absurd rfl hd
theorem c0.length {l:List D} {r:List SV} (h:c0 ok w R l r):l.length=r.length:=by
 induction l generalizing r with
 |nil=>cases r with
  |nil=>rfl
  |cons=>simp [c0]at h
 |cons d l ih=>cases r with
  |nil=>simp [c0]at h
  |cons y r=>simp only [c0]at h;simp [ih h.2]
theorem c0.app {l l':List D} {r r':List SV} (h:c0 ok w R l r) (h':c0 ok w R l' r'):c0 ok w R (l++l') (r++r'):=by
 induction l generalizing r with
 |nil=>cases r with
  |nil=>exact h'
  |cons=>simp [c0]at h
 |cons d l ih=>cases r with
  |nil=>simp [c0]at h
  |cons y r=>simp only [c0]at h;exact⟨h.1,ih h.2⟩
theorem c0.dropD {l:List D} {r:List SV} (h:c0 ok w R l r) (n:Nat):c0 ok w R (dropD n l) (a1z n r):=by
 induction n generalizing l r with
 |zero=>simpa [Sx.dropD,a1z]using h
 |succ n ih=>cases l with
  |nil=>cases r with
   |nil=>simp [Sx.dropD,a1z,c0]
   |cons=>simp [c0]at h
  |cons d l=>cases r with
   |nil=>simp [c0]at h
   |cons y r=>simp only [c0]at h;simpa [Sx.dropD,a1z]using ih h.2
theorem c0.takeD {l:List D} {r:List SV} (h:c0 ok w R l r) {n:Nat} {x:List D} (hx:takeD n l=some x):∃y,a2H n r=some y∧c0 ok w R x y:=by
 induction n generalizing l r x with
 |zero=>simp [Sx.takeD]at hx;subst hx;exact⟨[],rfl,trivial⟩
 |succ n ih=>cases l with
  |nil=>simp [Sx.takeD]at hx
  |cons d l=>cases r with
   |nil=>simp [c0]at h
   |cons s r=>
    simp only [c0]at h
    have hd:d≠ .bad:=fun e=>by subst e;simp [Sx.takeD]at hx
    have hs:=h.1.ne hd
    have hx':(match Sx.takeD n l with|some r=>some (d::r)|none=>none)=some x:=by
     cases d<;>first|exact hx|exact absurd rfl hd
    split at hx'
    · rename_i q hq
      cases hx'
      obtain⟨y,h1,h2⟩:=ih h.2 hq
      refine⟨s::y, ?_,h.1,h2⟩
      have:a2H (n+1) (s::r)=(match a2H n r with|some q=>some (s::q)|none=>none):=by
       cases s<;>first|rfl|exact absurd rfl hs
      rw [this,h1]
    · cases hx'
theorem c0.over {l:List D} {r:List SV} (h:c0 ok w R l r) {o:Nat} {x y:List D} {x':List SV} (hx:c0 ok w R x x') (hy:over o x l=some y):∃y',Sx.over o x' r=some y'∧c0 ok w R y y':=by
 induction l generalizing r o x x' y with
 |nil=>cases r with
  |cons=>simp [c0]at h
  |nil=>cases o with
   |zero=>cases x with
    |nil=>cases x' with
     |nil=>simp [Sx.over]at hy;subst hy;exact⟨[],rfl,trivial⟩
     |cons=>simp [c0]at hx
    |cons=>simp [Sx.over]at hy
   |succ o=>simp [Sx.over]at hy
 |cons d l ih=>cases r with
  |nil=>simp [c0]at h
  |cons s r=>
   simp only [c0]at h
   cases o with
   |zero=>cases x with
    |nil=>cases x' with
     |nil=>simp [Sx.over]at hy;subst hy;exact⟨s::r,rfl,h⟩
     |cons=>simp [c0]at hx
    |cons a x=>cases x' with
     |nil=>simp [c0]at hx
     |cons a' x'=>
      simp only [c0]at hx
      simp only [Sx.over]at hy⊢
      split at hy
      · rename_i q hq
        cases hy
        obtain⟨y',h1,h2⟩:=ih h.2 hx.2 hq
        exact⟨a'::y',by rw [h1],hx.1,h2⟩
      · cases hy
   |succ o=>
    simp only [Sx.over]at hy⊢
    split at hy
    · rename_i q hq
      cases hy
      obtain⟨y',h1,h2⟩:=ih h.2 hx hq
      exact⟨s::y',by rw [h1],h.1,h2⟩
    · cases hy
theorem b7S {agg:Bool} {l:List D} {r:List SV} {x:D} (h:c0 ok w R l r) (hx:mkD agg l=some x):∃s,mkv agg r=some s∧c4 ok w R x s:=by
 unfold mkD at hx
 split at hx
 · split at hx
   · rename_i hf
     cases hx
     refine⟨.agg r,rfl, ?_⟩
     simp only [c4]
     exact⟨r,rfl,h,hf⟩
   · cases hx
 · split at hx
   · cases hx
     cases r with
     |nil=>simp [c0]at h
     |cons s r=>cases r with
      |nil=>simp only [c0]at h;exact⟨s,rfl,h.1⟩
      |cons=>simp [c0]at h
   · cases hx
 · cases hx
theorem a2a {K:a5X→Prop} {x:Option D} (h:a3L K x):∃s,x=some s∧K (.val s):=by
 cases x with
 |none=>exact h.elim
 |some s=>exact⟨s,rfl,h⟩
theorem c4.cells {d:D} {s:SV} {l:List D} (h:c4 ok w R d s) (hc:a9u d=some l):∃r,a0W s=some r∧c0 ok w R l r:=by
 have one:∀ {d:D} {s:SV},c4 ok w R d s→a0W s=some [s]→∃r,a0W s=some r∧c0 ok w R [d] r:=fun h hs=>⟨_,hs,h,trivial⟩
 cases d<;>simp only [a9u]at hc<;>first|cases hc|skip
 · refine one h ?_
   simp only [c4]at h
   obtain⟨rfl,h⟩:=h
   rename_i x
   cases x<;>first|rfl|simp [a4Z]at h
 · simp only [c4]at h
   obtain⟨cs,h1,h2,_⟩:=h
   refine⟨cs, ?_,h2⟩
   cases s<;>simp [a4a]at h1
   · rename_i x;cases x<;>simp at h1
     subst h1;rfl
   · subst h1;rfl
 · refine one h ?_
   simp only [c4,Rep]at h
   obtain⟨y,rfl,a,c,rfl,_⟩:=h
   rfl
 · refine one h ?_
   simp only [c4,Rep]at h
   obtain⟨y,rfl,a,c,xs,rfl,_⟩:=h
   rfl
 · refine one h ?_;simp only [c4]at h;rw [h.1];rfl
 · refine one h ?_;simp only [c4]at h;rw [h.1];rfl
 · refine one h ?_;simp only [c4]at h;rw [h.1];rfl
 · refine one h ?_;simp only [c4]at h;rw [h.1];rfl
 · refine one h ?_;simp only [c4]at h;rw [h.1];rfl
 · refine one h ?_
   simp only [c4]at h
   rcases h with⟨p,q,rfl,_⟩|⟨p,q,rfl,_⟩<;>rfl
 · refine one h ?_
   simp only [c4,Rep]at h
   obtain⟨y,rfl,r,es,c,rfl,_⟩:=h
   rfl
theorem c4.one {Hp:Hp} (hR:∀k,R true k→∃v n xs sz ty,c7 Hp k=some (.row v n xs sz ty)) {d:D} {s:SV} (h:c4 ok w R d s) (hd:a4w d=true):b2S Hp s=true:=by
 cases d<;>simp [a4w]at hd<;>simp only [c4]at h
 · rw [h.1];exact h.2
 · obtain⟨y,rfl,h⟩:=h;exact h.one rfl
 · obtain⟨y,rfl,h⟩:=h;exact h.one rfl
 · rw [h.1];rfl
 · rw [h.1];rfl
 · obtain⟨v,n,xs,sz,ty,hf⟩:=hR _ h.2;rw [h.1];simp [b2S,hf]
 · rw [h.1];rfl
 · rw [h.1];rfl
 · rcases h with⟨p,q,rfl,_⟩|⟨p,q,rfl,_⟩<;>rfl
 · obtain⟨y,rfl,h⟩:=h;exact h.one rfl
theorem c0.one {Hp:Hp} (hR:∀k,R true k→∃v n xs sz ty,c7 Hp k=some (.row v n xs sz ty)) {l:List D} {r:List SV} (h:c0 ok w R l r) (hl:y5 l=true):a8e Hp r=true:=by
 induction l generalizing r with
 |nil=>cases r with
  |nil=>rfl
  |cons=>simp [c0]at h
 |cons d l ih=>cases r with
  |nil=>simp [c0]at h
  |cons y r=>
   simp only [c0]at h
   simp only [a8e,h.1.one hR (v6 hl List.mem_cons_self)]
   exact ih h.2 (P1 fun d hd=>v6 hl (List.mem_cons_of_mem _ hd))
theorem b2i {l:List Value} (h:∀x,x∈l→a4Z x=true):c0 ok w R (vD l) (vs l):=by
 induction l with
 |nil=>trivial
 |cons x l ih=>
  refine⟨?_,ih fun y hy=>h y (List.mem_cons_of_mem _ hy)⟩
  simp only [c4];exact⟨trivial,h x List.mem_cons_self⟩
theorem b7c {l:List D} (h:U5 l=true) {d:D} (hd:d∈l):b3O d=true:=by
 induction l with
 |nil=>cases hd
 |cons x l ih=>
  simp only [U5]at h
  split at h
  · rename_i hx
    rcases List.mem_cons.1 hd with rfl|hd
    · exact hx
    · exact ih h hd
  · cases h
theorem c0.vals {l:List D} {r:List SV} (h:c0 ok w R l r) (hl:U5 l=true):∃xs,r=vs xs∧c8 ok w l xs:=by
 induction l generalizing r with
 |nil=>cases r with
  |nil=>exact⟨[],rfl,trivial⟩
  |cons=>simp [c0]at h
 |cons d l ih=>cases r with
  |nil=>simp [c0]at h
  |cons s r=>
   simp only [c0]at h
   simp only [U5]at hl
   split at hl
   · rename_i hd
     obtain⟨xs,rfl,hx⟩:=ih h.2 hl
     have:∃y,s= .v y∧Rep ok w d y:=by
      cases d<;>simp [b3O]at hd
      · have:=h.1;simp only [c4]at this;exact⟨_,this.1,by simp only [Rep];exact⟨trivial,this.2⟩⟩
      · have:=h.1;simp only [c4]at this;exact this
      · have:=h.1;simp only [c4]at this;exact this
     obtain⟨y,rfl,hy⟩:=this
     exact⟨y::xs,rfl,hy,hx⟩
   · cases hl
end
theorem b0z (k:Nat) (l:List Value):J8 k (vs l)=false:=by
 induction l with
 |nil=>rfl
 |cons x l ih=>simp only [vs,J8,ment];exact ih
mutual
theorem c4.ment {ok:Nat→Prop} {w:World} {R:Bool→Nat→Prop} {k:Nat} (hR:∀q,¬R q k):∀(d:D) (s:SV),c4 ok w R d s→Sx.ment k s=false
 | .v x,s,h=>by simp only [c4]at h;rw [h.1];rfl
 | .agg l,s,h=>by
  simp only [c4]at h
  obtain⟨cs,h1,h2,_⟩:=h
  have:=c0.ment hR l _ h2
  cases s<;>simp [a4a]at h1
  · rfl
  · subst h1;simpa [Sx.ment]using this
 | .lst z n l,s,h=>by simp only [c4]at h;obtain⟨y,rfl,_⟩:=h;rfl
 | .ptr l o,s,h=>by simp only [c4]at h;obtain⟨y,rfl,_⟩:=h;rfl
 | .own j o,s,h=>by
  simp only [c4]at h;rw [h.1];simp only [Sx.ment]
  cases hb:Nat.beq j k with
  |false=>rfl
  |true=>have:=u7 hb;subst this;exact absurd h.2 (hR _)
 | .ownx j o,s,h=>by
  simp only [c4]at h;rw [h.1];simp only [Sx.ment]
  cases hb:Nat.beq j k with
  |false=>rfl
  |true=>have:=u7 hb;subst this;exact absurd h.2 (hR _)
 | .row j z,s,h=>by
  simp only [c4]at h;rw [h.1];simp only [Sx.ment]
  cases hb:Nat.beq j k with
  |false=>rfl
  |true=>have:=u7 hb;subst this;exact absurd h.2 (hR _)
 | .elr j z i o,s,h=>by
  simp only [c4]at h;rw [h.1];simp only [Sx.ment]
  cases hb:Nat.beq j k with
  |false=>rfl
  |true=>have:=u7 hb;subst this;exact absurd h.2 (hR _)
 | .osl j o z n c,s,h=>by
  simp only [c4]at h;rw [h.1];simp only [Sx.ment]
  cases hb:Nat.beq j k with
  |false=>rfl
  |true=>have:=u7 hb;subst this;exact absurd h.2 (hR _)
 | .tup l,s,h=>by
  simp only [c4]at h
  rcases h with⟨cs,rfl,h2⟩|⟨a,rfl,_⟩
  · simpa [Sx.ment]using c0.ment hR l _ h2
  · rfl
 | .fn f a b,s,h=>by
  simp only [c4]at h
  rcases h with⟨p,q,rfl,h2,h3⟩|⟨p,q,rfl,_⟩
  · simp only [Sx.ment,c0.ment hR a _ h2,c0.ment hR b _ h3]
  · rfl
 | .mp l,s,h=>by simp only [c4]at h;obtain⟨y,rfl,_⟩:=h;rfl
 | .und,s,h=>by simp only [c4]at h;rw [h];rfl
 | .bad,s,h=>by simp only [c4]at h;rw [h];rfl
theorem c0.ment {ok:Nat→Prop} {w:World} {R:Bool→Nat→Prop} {k:Nat} (hR:∀q,¬R q k):∀(l:List D) (r:List SV),c0 ok w R l r→J8 k r=false
 | [], [],_=>rfl
 |d::l,y::r,h=>by
  simp only [c0]at h;simp only [J8,c4.ment hR d y h.1]
  exact c0.ment hR l r h.2
 | [],_::_,h=>by simp [c0]at h
 |_::_, [],h=>by simp [c0]at h
end
end Go.Sx
namespace Go.Sx
open Go Go.RowKit
def okS (A:Nat→Prop) (st:St) (b:Nat):Prop:=((b<st.lo∨∃p,p∈st.iv∧p.1≤b∧b<p.2)∧A b)∧b<st.w.heap.size∧b7D st.H b
def y7 (st:St) (q:Bool) (k:Nat):Prop:=k<st.nk∧(q=true→∃v n xs sz ty,c7 st.H k=some (.row v n xs sz ty))
def a2Q (ok:Nat→Prop) (w:World) (R:Bool→Nat→Prop):E→Ent→Prop
 | .blk cs ty, .blk _ cs' ty'=>ty=ty'∧c0 ok w R cs cs'
 | .row z n l ty, .row _ n' xs z' ty'=>n=n'∧z=z'∧ty=ty'∧c8 ok w l xs∧y5 l=true∧l.length=n*z
 |_,_=>False
structure Sim (A:Nat→Prop) (st:St) (sy:Sy):Prop where
 T:∀d x,q8 sy.T d=some x→x= .bad∨∃s,w3 st.T d=some s∧c4 (okS A st) st.w (y7 st) x s
 H:∀k e,j7 sy.H k=some e→∃e',c7 st.H k=some e'∧a2Q (okS A st) st.w (y7 st) e e'
 nk:sy.nk=st.nk
 fT:∀j,st.nk≤j→s9 j st.T=true
 fH:∀j,st.nk≤j→E0 j st.H=true
def a7F (H:Hp) (ok:Nat→Prop) (w:World) (R:Bool→Nat→Prop):a5X→Out→Prop
 | .val x, .val s=>c4 ok w R x s∧x≠ .bad
 | .new cs ty sl, .new cs' ty' sl'=>ty=ty'∧c0 ok w R cs cs'∧sl'=sl.map (·.2)
 | .newR l ty z n, .new cs' ty' sl'=>ty=ty'∧sl'=some n∧l.length=n*z∧n≤maxLen∧y5 l=true∧∃xs,cs'=vs xs∧c8 ok w l xs
 | .call f args, .call f' args'=>f=f'∧c0 ok w R args args'
 | .upd k cs, .upd k' cs'=>k=k'∧c0 ok w R cs cs'
 | .updR k l, .updR k' xs=>k=k'∧c8 ok w l xs∧y5 l=true∧∀v n ys z ty,c7 H k=some (.row v n ys z ty)→l.length=n*z
 | .app e z b s x, .app e' z' b' s' x'=>e=e'∧z=z'∧b=b'∧c4 ok w R s s'∧c4 ok w R x x'
 |_,_=>False
def cx (X:Cy) (w0:World) (bor:List Nat):Cx:=⟨X.P,X.tt,w0,bor,X.nt,X.pl,X.dfs,X.sv⟩
theorem b6d (n:Nat) (l:List D):dropD n l=l.drop n:=by
 induction n generalizing l with
 |zero=>rfl
 |succ n ih=>cases l with
  |nil=>rfl
  |cons x l=>simp [dropD,ih]
theorem b2w {n:Nat} {l r:List D} (h:takeD n l=some r):r.length=n∧r=l.take n∧ .bad∉r:=by
 induction n generalizing l r with
 |zero=>simp [takeD]at h;subst h;simp
 |succ n ih=>cases l with
  |nil=>simp [takeD]at h
  |cons d l=>
   have hd:d≠ .bad:=fun e=>by subst e;simp [takeD]at h
   have h':(match takeD n l with|some r=>some (d::r)|none=>none)=some r:=by
    cases d<;>first|exact h|exact absurd rfl hd
   split at h'
   · rename_i q hq
     cases h'
     obtain⟨h1,h2,h3⟩:=ih hq
     exact⟨by simp [h1],by rw [List.take_succ_cons,←h2],by simp only [List.mem_cons,not_or];exact⟨fun e=>hd e.symm,h3⟩⟩
   · cases h'
theorem c8.part {ok:Nat→Prop} {w:World} {l r:List D} {xs:List Value} (h:c8 ok w l xs) {n o:Nat} (hr:takeD n (dropD o l)=some r):c8 ok w r ((xs.drop o).take n)∧r.length=n∧(n=0∨o+n≤l.length):=by
 obtain⟨h1,h2,_⟩:=b2w hr
 rw [b6d]at h2
 refine⟨by rw [h2];exact(h.drop o).take n,h1, ?_⟩
 have:=congrArg List.length h2
 simp at this;omega
theorem b3e {ok:Nat→Prop} {w:World} {R:Bool→Nat→Prop} {agg:Bool} {r:List D} {xs:List Value} {x:D} (h:c8 ok w r xs) (hx:mkD agg r=some x):∃s,a5S agg xs=some s∧c4 ok w R x s:=by
 unfold mkD at hx
 split at hx
 · split at hx
   · rename_i hf
     cases hx
     refine⟨.agg (vs xs),rfl, ?_⟩
     simp only [c4]
     exact⟨vs xs,rfl,c8.rel _ _ h,hf⟩
   · cases hx
 · split at hx
   · cases hx
     cases xs with
     |nil=>simp [c8]at h
     |cons y xs=>cases xs with
      |nil=>simp only [c8]at h;exact⟨.v y,rfl,Rep.rel _ _ h.1⟩
      |cons=>simp [c8]at h
   · cases hx
 · cases hx
theorem b7w {agg:Bool} {r:List D} {x:D} (hx:mkD agg r=some x):x≠ .bad:=by
 unfold mkD at hx
 split at hx
 · split at hx<;>cases hx;simp
 · split at hx
   · rename_i ho;cases hx;intro e;subst e;simp [a4w]at ho
   · cases hx
 · cases hx
theorem a6S {l r:List D} (h:y5 l=true) (hs:∀d,d∈r→d∈l):y5 r=true:=P1 fun d hd=>v6 h (hs d hd)
theorem b7B {l:List D} {z n i:Nat} (hl:l.length=n*z) (hi:i<n):(el l z i).length=z:=by
 have:(i+1)*z≤n*z:=Nat.mul_le_mul_right z hi
 rw [Nat.add_mul]at this
 simp [el,hl];omega
theorem b6t {l:List D} {z i:Nat} {d:D} (h:d∈el l z i):d∈l:=List.mem_of_mem_drop (List.mem_of_mem_take h)
theorem c2x {α:Type} {o:Nat} {xs l:List α} (h:o+xs.length≤l.length):over o xs l=some (l.take o++xs++l.drop (o+xs.length)):=by
 induction l generalizing o xs with
 |nil=>
  simp at h
  obtain⟨rfl,rfl⟩:=h
  rfl
 |cons x l ih=>cases o with
  |zero=>cases xs with
   |nil=>simp [over]
   |cons y xs=>simp only [over];rw [ih (by simp at h⊢;omega)];simp
  |succ o=>simp only [over];rw [ih (by simp at h⊢;omega)];simp [Nat.add_right_comm]
theorem b0q {α:Type} {o:Nat} {xs l r:List α} (h:over o xs l=some r):r.length=l.length:=by
 obtain⟨h1,h2⟩:=a6V h
 rw [h1];simp;omega
theorem b6v {op:BinOp} {k:IntKind} {a b:Int} {K K':Out→Prop} (hK:∀o,K o→K' o) (h:b1o op k a b K):b1o op k a b K':=by
 cases op<;>simp only [b1o]at h⊢<;>first|exact hK _ h|exact⟨h.1,hK _ h.2⟩|exact h
theorem b6Q {op:BinOp} {a b:ByteArray} {K K':Out→Prop} (hK:∀o,K o→K' o) (h:b1S op a b K):b1S op a b K':=by
 cases op<;>simp only [b1S]at h⊢<;>first|exact hK _ h|exact⟨h.1,hK _ h.2⟩|exact h
theorem b3c {op:BinOp} {k:IntKind} {a b:Int} {K K':Out→Prop} (hK:∀o,K o→K' o) (h:b6D op k a b K):b6D op k a b K':=by
 cases op<;>simp only [b6D]at h⊢<;>exact⟨h.1,hK _ h.2⟩
theorem a6v {op:BinOp} {e:Bool} {K K':Out→Prop} (hK:∀o,K o→K' o) (h:a3n op e K):a3n op e K':=by
 cases op<;>simp only [a3n]at h⊢<;>first|exact hK _ h|exact h
section
variable {A : Nat → Prop} {X : Cy} {w0 : World} {bor : List Nat} {st : St} {sy : Sy} {KY : a5X → Prop} {K : Out → Prop}
theorem j5 (hs:Sim A st sy) {x:Operand} {d:D} (h:evY sy x=some d):∃s,ev st x=some s∧c4 (okS A st) st.w (y7 st) d s∧d≠ .bad:=by
 cases x with
 |tmp t=>
  simp only [evY]at h
  split at h
  · cases h
  · rename_i hb
    have hne:d≠ .bad:=fun e=>hb (by rw [h,e])
    obtain⟨hlt,h⟩:=a2M h
    rcases hs.T t d h with e|⟨s,h1,h2⟩
    · exact absurd e hne
    · refine⟨s, ?_,h2,hne⟩
      have hsb:=h2.ne hne
      simp only [ev,a6m hlt,h1]
      try (cases s<;>first|rfl|exact absurd rfl hsb)
 |const v=>
  simp only [evY]at h
  refine⟨.v v,rfl, ?_⟩
  unfold ofV at h
  split at h
  · rename_i a
    split at h
    · rename_i ha
      cases h
      refine⟨?_,by simp⟩
      simp only [c4]
      refine⟨vs a.toList,rfl, ?_,P1 fun d hd=>by simp at hd;obtain⟨x,_,rfl⟩:=hd;rfl⟩
      have:∀l:List Value,l.all a4Z=true→c0 (okS A st) st.w (y7 st) (l.map D.v) (vs l):=by
       intro l
       induction l with
       |nil=>intro _;trivial
       |cons x l ih=>intro hl;simp at hl;exact⟨by simp only [c4];exact⟨trivial,hl.1⟩,ih (by simpa using hl.2)⟩
      exact this _ ha
    · cases h
  · cases h
  · rename_i h1 h2
    cases h
    refine⟨?_,by simp⟩
    simp only [c4]
    refine⟨trivial, ?_⟩
    unfold a4Z
    split
    · exact absurd rfl (h1 _)
    · exact absurd rfl (h2 _)
    · rfl
 |func f=>simp only [evY]at h;cases h;exact⟨_,rfl,by simp only [c4];exact .inl ⟨[], [],rfl,trivial,trivial⟩,by simp⟩
 |global g=>simp [evY]at h
theorem X7 (hs:Sim A st sy) {l:List Operand} {r:List D} (h:a8b sy l=some r):∃s,evs st l=some s∧c0 (okS A st) st.w (y7 st) r s:=by
 induction l generalizing r with
 |nil=>simp only [a8b]at h;cases h;exact⟨[],rfl,trivial⟩
 |cons x l ih=>
  simp only [a8b]at h
  split at h
  · rename_i d r' hd hr
    cases h
    obtain⟨s,h1,h2,_⟩:=j5 hs hd
    obtain⟨s',h3,h4⟩:=ih hr
    exact⟨s::s',by simp only [evs,h1,h3],h2,h4⟩
  · cases h
theorem b3P (st:St):∀k,y7 st true k→∃v n xs sz ty,c7 st.H k=some (.row v n xs sz ty):=fun _ h=>h.2 rfl
variable (hK : ∀ oy o, a7F st.H (okS A st) st.w (y7 st) oy o → KY oy → K o)
include hK
theorem J7 {x:D} {s:SV} (h:KY (.val x)) (hr:c4 (okS A st) st.w (y7 st) x s) (hne:x≠ .bad):K (.val s):=hK (.val x) (.val s) ⟨hr,hne⟩ h
theorem a2s {o:Out} (h:a9W KY o):K o:=by
 unfold a9W at h
 split at h
 · rename_i x
   split at h
   · rename_i hx
     refine hK (.val (.v x)) _ ⟨?_,by simp⟩ h
     simp only [c4];exact⟨trivial,hx⟩
   · exact h.elim
 · exact h.elim
theorem b4N (hs:Sim A st sy) {x:Operand} (h:a3L KY (evY sy x)):a7d K (ev st x):=by
 obtain⟨d,h1,h2⟩:=a2a h
 obtain⟨s,h3,h4,h5⟩:=j5 hs h1
 rw [h3];exact J7 hK h2 h4 h5
theorem b4M {agg:Bool} {l:List D} {r:List SV} (h:a3L KY (mkD agg l)) (hr:c0 (okS A st) st.w (y7 st) l r):a7d K (mkv agg r):=by
 obtain⟨d,h1,h2⟩:=a2a h
 obtain⟨s,h3,h4⟩:=b7S hr h1
 rw [h3];exact J7 hK h2 h4 (b7w h1)
theorem b9b (hs:Sim A st sy) {i:TI} {p:D} {s:SV} (h:c0a sy i p KY) (hr:c4 (okS A st) st.w (y7 st) p s):a6B (cx X w0 bor) st i s K:=by
 unfold c0a at h
 split at h
 · rename_i k o
   simp only [c4]at hr
   obtain⟨rfl,_⟩:=hr
   split at h
   · rename_i cs ty hf
     obtain⟨e',hf',he⟩:=hs.H _ _ hf
     cases e' with
     |row=>exact he.elim
     |blk b cs' ty'=>
      split at h
      · rename_i l hl
        obtain⟨r,h1,h2⟩:=(he.2.dropD o).takeD hl
        simp only [a6B,hf',h1]
        exact b4M hK h h2
      · exact h.elim
   · exact h.elim
 · rename_i k o
   simp only [c4]at hr
   obtain⟨rfl,_⟩:=hr
   split at h
   · rename_i cs ty hf
     obtain⟨e',hf',he⟩:=hs.H _ _ hf
     cases e' with
     |row=>exact he.elim
     |blk b cs' ty'=>
      obtain⟨l,hl,h⟩:=h
      obtain⟨r,h1,h2⟩:=(he.2.dropD o).takeD hl
      simp only [a6B,hf']
      exact⟨r,h1,b4M hK h h2⟩
   · exact h.elim
 · rename_i k z j o
   simp only [c4]at hr
   obtain⟨rfl,_⟩:=hr
   split at h
   · rename_i z' n l ty hf
     obtain⟨e',hf',he⟩:=hs.H _ _ hf
     cases e' with
     |blk=>exact he.elim
     |row v n' xs sz ty'=>
      obtain⟨rfl,rfl,rfl,hrep,hfl,hlen⟩:=he
      split at h
      · rename_i hz
        obtain rfl:=u7 hz
        obtain⟨cs,⟨rfl,hj⟩,h⟩:=h
        split at h
        · rename_i r hr hbl
          have hbl:=Nat.le_of_ble_eq_true hbl
          have hel:c8 (okS A st) st.w (el l z' j) ((xs.drop (j*z')).take z'):=(hrep.drop _).take _
          obtain⟨h1,h2,h3⟩:=hel.part hr
          obtain⟨x,hx,hkx⟩:=a2a h
          obtain⟨s,h4,h5⟩:=b3e (R:=y7 st) h1 hx
          simp only [a6B,hf']
          have hle:=b7B hlen hj
          have hjz:(j+1)*z'≤n*z':=Nat.mul_le_mul_right z' hj
          rw [Nat.add_mul]at hjz
          refine⟨_,⟨by rw [←h1.length,h2],by omega,fun jj hjj=> ?_⟩,by rw [h4];exact J7 hK hkx h5 (b7w hx)⟩
          rw [List.getElem?_take,if_pos hjj,List.getElem?_drop,List.getElem?_take,if_pos (by omega),List.getElem?_drop]
          congr 1;omega
        · exact h.elim
      · exact h.elim
   · exact h.elim
 · rename_i l o
   simp only [c4,Rep]at hr
   obtain⟨y,rfl,b,p,xs,rfl,hok,hfl,hrep,hmem⟩:=hr
   split at h
   · rename_i r hr
     obtain⟨h1,h2,h3⟩:=hrep.part hr
     obtain⟨x,hx,hkx⟩:=a2a h
     obtain⟨s,h4,h5⟩:=b3e (R:=y7 st) h1 hx
     simp only [a6B]
     refine⟨_,⟨by rw [←h1.length,h2], .inr ⟨hok.2.2,fun jj hjj=> ?_⟩⟩,by rw [h4];exact J7 hK hkx h5 (b7w hx)⟩
     rw [show p+o+jj=p+(o+jj) from by omega,hmem (o+jj) (by omega),List.getElem?_take,if_pos hjj,List.getElem?_drop]
   · exact h.elim
 · exact h.elim
theorem b7m (hs:Sim A st sy) {i:TI} {p d:D} {s t:SV} (h:b7C sy i p d KY) (hr:c4 (okS A st) st.w (y7 st) p s) (hd:c4 (okS A st) st.w (y7 st) d t):a8F st i s t K:=by
 unfold b7C at h
 split at h
 · rename_i l hl
   obtain⟨r,hc,hrl⟩:=hd.cells hl
   split at h
   · rename_i hn hfl
     simp only [a8F,hc,←hrl.length,hn,hrl.one (b3P st) hfl]
     split at h
     · rename_i k o
       simp only [c4]at hr
       obtain⟨rfl,_⟩:=hr
       split at h
       · rename_i cs ty hf
         obtain⟨e',hf',he⟩:=hs.H _ _ hf
         cases e' with
         |row=>exact he.elim
         |blk b cs' ty'=>
          split at h
          · rename_i q hq
            obtain⟨q',h1,h2⟩:=he.2.over hrl hq
            simp only [hf',h1]
            exact hK (.upd k q) _ ⟨rfl,h2⟩ h
          · exact h.elim
       · exact h.elim
     · rename_i k o
       simp only [c4]at hr
       obtain⟨rfl,_⟩:=hr
       split at h
       · rename_i cs ty hf
         obtain⟨e',hf',he⟩:=hs.H _ _ hf
         cases e' with
         |row=>exact he.elim
         |blk b cs' ty'=>
          obtain⟨q,hq,h⟩:=h
          obtain⟨q',h1,h2⟩:=he.2.over hrl hq
          simp only [hf']
          exact⟨q',h1,hK (.upd k q) _ ⟨rfl,h2⟩ h⟩
       · exact h.elim
     · rename_i k z j o
       simp only [c4]at hr
       obtain⟨rfl,_⟩:=hr
       split at h
       · rename_i z' n q ty hf
         obtain⟨e',hf',he⟩:=hs.H _ _ hf
         cases e' with
         |blk=>exact he.elim
         |row v n' xs sz ty'=>
          obtain⟨rfl,rfl,rfl,hrep,hfq,hlen⟩:=he
          split at h
          · rename_i hz hno
            obtain rfl:=u7 hz
            obtain⟨cs,⟨rfl,hj⟩,h⟩:=h
            split at h
            · rename_i cs' ho
              obtain⟨r',rfl,h⟩:=h
              obtain⟨vals,rfl,hv⟩:=hrl.vals hno
              obtain⟨hcs,hle⟩:=a6V ho
              have hel:=b7B hlen hj
              have hjz:(j+1)*z'≤n*z':=Nat.mul_le_mul_right z' hj
              rw [Nat.add_mul]at hjz
              have hvl:=hv.length
              have hxl:=hrep.length
              have hov:over (j*z'+o) vals xs=some (xs.take (j*z'+o)++vals++xs.drop (j*z'+o+vals.length)):=c2x (by omega)
              simp only [hf']
              refine⟨_,by rw [J3];exact hov,hK (.updR k _) _ ⟨rfl, ?_, ?_,fun v n ys z ty hq=> ?_⟩ h⟩
              · have e1:a9c q z' j cs'=q.take (j*z'+o)++l++q.drop (j*z'+o+l.length):=by
                 rw [hcs]
                 simp only [a9c,el]
                 have a1:q.take (j*z'+o)=q.take (j*z')++((q.drop (j*z')).take z').take o:=by
                  rw [List.take_add,List.take_take,Nat.min_eq_left (by omega)]
                 have a2:q.drop (j*z'+o+l.length)=((q.drop (j*z')).take z').drop (o+l.length)++q.drop (j*z'+z'):=by
                  rw [List.drop_take,List.drop_drop]
                  have:q.drop (j*z'+z')=(q.drop (j*z'+(o+l.length))).drop (z'-(o+l.length)):=by rw [List.drop_drop];congr 1;omega
                  rw [this,List.take_append_drop];congr 1;omega
                 rw [a1,a2];simp [List.append_assoc]
                rw [e1,←hvl]
                exact(((hrep.take _).app hv).app (hrep.drop _))
              · refine P1 fun d hd=> ?_
                simp only [a9c,hcs,List.mem_append]at hd
                rcases hd with(hd|(hd|hd)|hd)|hd
                · exact v6 hfq (List.mem_of_mem_take hd)
                · exact v6 hfq (b6t (List.mem_of_mem_take hd))
                · exact v6 hfl hd
                · exact v6 hfq (b6t (List.mem_of_mem_drop hd))
                · exact v6 hfq (List.mem_of_mem_drop hd)
              · rw [hf']at hq;cases hq
                have hcl:=b0q ho
                simp only [a9c,List.length_append,List.length_take,List.length_drop,hcl,hel,hlen]
                omega
            · exact h.elim
          · exact h.elim
       · exact h.elim
     · exact h.elim
   · exact h.elim
 · exact h.elim
end
end Go.Sx
namespace Go.Sx
open Go Go.RowKit
theorem b3N {i:Int} {f:Nat}:∀(l:List (Int×Nat)) (es:List MapEntry) (k:Nat),es.map (fun e=>(e.key,e.val))=l.map (fun p=>(Value.int .i64 p.1,Value.func (.func p.2) #[] #[]))→a6w l i=some f→
 ∃j,Instr.findNow (.int .i64) (.int .i64 i) es k=some (some (j, .func (.func f) #[] #[]))
 | [],_,_,_,h=>by simp [a6w]at h
 |(a,g)::l, [],_,he,_=>by simp at he
 |(a,g)::l,e::es,k,he,h=>by
  simp only [List.map_cons,List.cons.injEq,Prod.mk.injEq]at he
  obtain⟨⟨h1,h2⟩,h3⟩:=he
  have hs:Instr.sameNow (.int .i64) (.int .i64 i) e.key=some (i==a):=by rw [h1];simp [Instr.sameNow]
  simp only [a6w]at h
  simp only [Instr.findNow,hs]
  cases hb:(i==a)with
  |true=>rw [hb]at h;cases h;exact⟨k,by rw [h2]⟩
  |false=>rw [hb]at h;exact b3N l es (k+1) h3 h
section
variable {A : Nat → Prop} {ok : Nat → Prop} {w : World} {R : Bool → Nat → Prop}
theorem c4.int {k:IntKind} {a:Int} {s:SV} (h:c4 ok w R (.v (.int k a)) s):s= .v (.int k a):=by simp only [c4]at h;exact h.1
theorem c4.sc {x:Value} {s:SV} (h:c4 ok w R (.v x) s):s= .v x:=by simp only [c4]at h;exact h.1
theorem b7E {k:CK} {x y:D} {s t:SV} {e:Bool} (h:b8V k x y=some e) (h1:c4 ok w R x s) (h2:c4 ok w R y t):eqC k s t=some e:=by
 unfold b8V at h
 split at h
 · rw [h1.sc,h2.sc];exact h
 · rw [h1.sc,h2.sc];exact h
 · rw [h1.sc,h2.sc];exact h
 · cases h
theorem b9X {ks : List CK} {l m : List D} {s t : List SV} {e : Bool} (h : a5W ks l m = some e) (h1 : c0 ok w R l s) (h2 : c0 ok w R m t) : a5o ks s t = some e := by
  induction ks generalizing l m s t e with
  | nil => cases l <;> cases m <;> simp [a5W] at h
           cases s <;> cases t <;> simp [c0] at h1 h2
           simpa [a5o] using h
  | cons k ks ih =>
    cases l with
    | nil => cases m <;> simp [a5W] at h
    | cons x l => cases m with
      | nil => simp [a5W] at h
      | cons y m => cases s with
        | nil => simp [c0] at h1
        | cons s ss => cases t with
          | nil => simp [c0] at h2
          | cons t tt =>
            simp only [c0] at h1 h2
            have gen : ∀ {e}, (match b8V k x y, a5W ks l m with | some a, some b => some (a && b) | _, _ => none) = some e → (match eqC k s t, a5o ks ss tt with | some a, some b => some (a && b) | _, _ => none) = some e := by
              intro e h
              split at h
              · rename_i a b ha hb
                cases h
                rw [b7E ha h1.1 h2.1, ih hb h1.2 h2.2]
              · cases h
            cases ks with
            | nil => cases l with
              | nil => cases m with
                | nil => cases ss <;> cases tt <;> simp [c0] at h1 h2
                         simp only [a5W] at h
                         simp only [a5o]
                         exact b7E h h1 h2
                | cons => simp [a5W] at h
              | cons => cases m <;> simp [a5W] at h
            | cons k' ks' =>
              have e1 : a5W (k :: k' :: ks') (x :: l) (y :: m) = (match b8V k x y, a5W (k' :: ks') l m with | some a, some b => some (a && b) | _, _ => none) := by
                cases l <;> cases m <;> rfl
              have e2 : a5o (k :: k' :: ks') (s :: ss) (t :: tt) = (match eqC k s t, a5o (k' :: ks') ss tt with | some a, some b => some (a && b) | _, _ => none) := by
                cases ss <;> cases tt <;> rfl
              rw [e1] at h
              rw [e2]
              exact gen h
theorem b1d {b:Bool} {x:D} {s:SV} {l:List D} (h:b0S b x=some l) (h1:c4 ok w R x s):(∃r,a5d b s=some r∧c0 ok w R l r)∧((b=true∧∃cs,a4a s=some cs)∨(∃c,s= .v (.bool c))):=by
 unfold b0S at h
 split at h
 · cases h
   simp only [c4]at h1
   obtain⟨cs,h2,h3,_⟩:=h1
   refine⟨⟨cs, ?_,h3⟩, .inl ⟨rfl,cs,h2⟩⟩
   cases s<;>simp [a4a]at h2
   · rename_i y;cases y<;>simp at h2;subst h2;rfl
   · subst h2;rfl
 · cases h
   have:=h1.sc
   subst this
   exact⟨⟨_,rfl,h1,trivial⟩, .inr ⟨_,rfl⟩⟩
 · cases h
theorem b5A {x:D} {s:SV} {l:List D} (h:c1Z x=some l) (h1:c4 ok w R x s):∃r,a4a s=some r∧c0 ok w R l r:=by
 unfold c1Z at h
 split at h
 · cases h;simp only [c4]at h1;obtain⟨cs,h2,h3,_⟩:=h1;exact⟨cs,h2,h3⟩
 · cases h
theorem b2s {x y:D} {s:SV} {off:Nat} (h:b0N x off=some y) (h1:c4 ok w R x s):∃t,a9G s off=some t∧c4 ok w R y t∧y≠ .bad:=by
 unfold b0N at h
 split at h
 · cases h;simp only [c4]at h1;obtain⟨rfl,h1⟩:=h1;exact⟨_,rfl,by simp only [c4];exact⟨trivial,h1⟩,by simp⟩
 · cases h;simp only [c4]at h1;obtain⟨rfl,h1⟩:=h1;exact⟨_,rfl,by simp only [c4];exact⟨trivial,h1⟩,by simp⟩
 · cases h;simp only [c4]at h1;obtain⟨rfl,h1⟩:=h1;exact⟨_,rfl,by simp only [c4];exact⟨by rw [Nat.add_assoc],h1⟩,by simp⟩
 · cases h;simp only [c4,Rep]at h1
   obtain⟨y,rfl,b,p,xs,rfl,h2,h3,h4,h5⟩:=h1
   refine⟨_,rfl, ?_,by simp⟩
   simp only [c4,Rep]
   exact⟨_,rfl,b,p,xs,by rw [Nat.add_assoc],h2,h3,h4,h5⟩
 · cases h
theorem b5l {x y:D} {s:SV} {off:Nat} (h:b1w x off=some y) (h1:c4 ok w R x s):∃t,b0F s off=some t∧c4 ok w R y t∧y≠ .bad:=by
 unfold b1w at h
 split at h
 · cases h;simp only [c4]at h1;obtain⟨rfl,h1⟩:=h1;exact⟨_,rfl,by simp only [c4];exact⟨trivial,h1⟩,by simp⟩
 · cases h;simp only [c4]at h1;obtain⟨rfl,h1⟩:=h1;exact⟨_,rfl,by simp only [c4];exact⟨trivial,h1⟩,by simp⟩
 · cases h
theorem c0.one1 {d:D} {s:List SV} (h:c0 ok w R [d] s):∃s1,s= [s1]∧c4 ok w R d s1:=by
 match s,h with
 | [s1],h=>exact⟨s1,rfl,h.1⟩
theorem c0.two {d e:D} {s:List SV} (h:c0 ok w R [d,e] s):∃s1 s2,s= [s1,s2]∧c4 ok w R d s1∧c4 ok w R e s2:=by
 match s,h with
 | [s1,s2],h=>exact⟨s1,s2,rfl,h.1,h.2.1⟩
theorem c3g {l:List D} {z n b o:Nat} {i:Int} {xs:List Value} (hlen:l.length=n*z) (hfl:y5 l=true) (hok:ok b) (hrep:c8 ok w l xs) (hcell:∀j,j<n*z→w.cell? ⟨b,o+j,none⟩=xs[j]?) (h0:0≤i) (hlt:i<n):
 Rep ok w (.ptr (el l z i.toNat) 0) (.pointer (some ⟨b,o+i.toNat*z,none⟩)):=by
 have hj:i.toNat<n:=by omega
 have hel:=b7B hlen hj
 have hjz:(i.toNat+1)*z≤n*z:=Nat.mul_le_mul_right z hj
 rw [Nat.add_mul]at hjz
 simp only [Rep]
 refine⟨b,o+i.toNat*z,(xs.drop (i.toNat*z)).take z,rfl,hok,a6S hfl fun d hd=>b6t hd,(hrep.drop _).take _,fun j hj=> ?_⟩
 rw [hel]at hj
 rw [show o+i.toNat*z+j=o+(i.toNat*z+j) from by omega,hcell _ (by omega),List.getElem?_take,if_pos hj,List.getElem?_drop]
theorem c1E {l:List D} {z n p q c':Nat} {a a':Option Addr} {m:Nat} {xs:List Value} (hlen:l.length=n*z) (hmx:(n:Int)≤9223372036854775807) (hfl:y5 l=true)
 (hmem:c'=0∨∃b o xs,a=some ⟨b,o,none⟩∧ok b∧c8 ok w l xs∧∀j,j<n*z→w.cell? ⟨b,o+j,none⟩=xs[j]?) (hpq:p≤q) (hqn:q≤n) (hnc:n≤c') (ha':a'=b9I a p c' z):
 Rep ok w (.lst z (q-p) ((l.drop (p*z)).take ((q-p)*z))) (.slice a' (q-p) (c'-p)):=by
 simp only [Rep]
 have hqz:q*z≤n*z:=Nat.mul_le_mul_right z hqn
 have hpz:p*z≤q*z:=Nat.mul_le_mul_right z hpq
 refine⟨a',c'-p,rfl,by omega,by omega,by simp [hlen,Nat.sub_mul];omega,a6S hfl fun d hd=>List.mem_of_mem_drop (List.mem_of_mem_take hd), ?_⟩
 rcases hmem with rfl|⟨b,o,xs,rfl,hok,hrep,hcell⟩
 · left
   omega
 · right
   have hq:(q-p)*z=q*z-p*z:=Nat.sub_mul ..
   by_cases hpc:c'=p
   · refine⟨b,o,(xs.drop (p*z)).take ((q-p)*z), ?_,hok,(hrep.drop _).take _,fun j hj=> ?_⟩
     · rw [ha'];unfold b9I;rw [if_pos hpc]
     · have:q=p:=by omega
       subst this;simp at hj
   · refine⟨b,o+p*z,(xs.drop (p*z)).take ((q-p)*z), ?_,hok,(hrep.drop _).take _,fun j hj=> ?_⟩
     · rw [ha'];unfold b9I;rw [if_neg hpc];simp [Q6]
     · rw [show o+p*z+j=o+(p*z+j) from by omega,hcell _ (by omega),List.getElem?_take,if_pos hj,List.getElem?_drop]
theorem b8z {X:Cx} {st:St} {x y:Operand} {s t:SV} {op:BinOp} {ty yt:TypeId} {K:Out→Prop} {n:Nat} {agg:Bool} {z:List Value} {ks:List CK} {d:TD} {l m:List SV} {e:Bool} (hs:ev st x=some s) (ht:ev st y=some t)
 (n1:∀k a,s≠ .v (.int k a)) (n2:∀a,s≠ .v (.string a)) (hi:F9 X.tt ty=some ⟨n,agg,z,some ks,d⟩) (hl:a5d agg s=some l) (hm:a5d agg t=some m) (he:a5o ks l m=some e) (h:a3n op e K):ev1 X st (.binOp op ty x y yt) K:=by
 simp only [ev1,hs,ht]
 split
 · rename_i e1 _;cases e1;exact absurd rfl (n1 _ _)
 · rename_i e1 _;cases e1;exact absurd rfl (n2 _)
 · rename_i e1 e2;cases e1;cases e2;rw [hi];simp only [hl,hm,he];exact h
 · rename_i hno;exact hno _ _ rfl rfl
theorem b3m {z:Nat} {st:Sy}:∀ {ps:List (Nat×Operand)} {l l':List D},a4A z st ps l=some l'→l'.length=l.length
 | [],l,l',h=>by simp only [a4A]at h;cases h;rfl
 |(i,x)::ps,l,l',h=>by
  simp only [a4A]at h
  split at h
  · split at h
    · split at h
      · split at h
        · rename_i q hq
          rw [b3m h,b0q hq]
        · cases h
      · cases h
    · cases h
  · cases h
theorem c0g (l:List Value):(vD l).length=l.length:=by
 induction l with
 |nil=>rfl
 |cons x l ih=>simp [vD,ih]
theorem b5S (n:Nat) (l:List D):(b0y n l).length=n*l.length:=by
 induction n with
 |zero=>simp [b0y]
 |succ n ih=>simp [b0y,ih,Nat.add_mul,Nat.add_comm]
theorem c5j (l:List Value):U5 (vD l)=true:=by
 induction l with
 |nil=>rfl
 |cons x l ih=>simp only [vD,U5,b3O];exact ih
theorem b9p {l r:List D} (h:U5 l=true) (h':U5 r=true):U5 (l++r)=true:=by
 induction l with
 |nil=>exact h'
 |cons x l ih=>
  simp only [U5]at h
  simp only [List.cons_append,U5]
  cases hx:b3O x with
  |true=>rw [hx]at h;exact ih h
  |false=>rw [hx]at h;cases h
theorem c1K (n:Nat) {l:List D} (h:U5 l=true):U5 (b0y n l)=true:=by
 induction n with
 |zero=>rfl
 |succ n ih=>exact b9p h ih
theorem a6W {l:List D} (h:U5 l=true):y5 l=true:=P1 fun d hd=>by
 have:=b7c h hd
 cases d<;>simp [b3O]at this<;>rfl
theorem b6b {l:List D} {r:List SV} (h:c0 ok w R l r) (n:Nat):c0 ok w R (b0y n l) (a4z n r):=by
 induction n with
 |zero=>trivial
 |succ n ih=>exact h.app ih
end
section
variable {A : Nat → Prop} {X : Cy} {w0 : World} {bor : List Nat} {st : St} {sy : Sy} {KY : a5X → Prop} {K : Out → Prop}
theorem b3Q (hs:Sim A st sy) {fs:List (Nat×Nat×Nat)}:∀ {ps:List (Nat×Operand)} {l l':List D} {r:List SV},b2q fs sy ps l=some l'→c0 (okS A st) st.w (y7 st) l r→
 ∃r',b2r fs st ps r=some r'∧c0 (okS A st) st.w (y7 st) l' r'
 | [],l,l',r,h,hr=>by simp only [b2q]at h;cases h;exact⟨r,rfl,hr⟩
 |(i,x)::ps,l,l',r,h,hr=>by
  simp only [b2q]at h
  split at h
  · rename_i a off n d hn hd
    obtain⟨s,h1,h2,_⟩:=j5 hs hd
    split at h
    · rename_i cs hc
      obtain⟨cs',h3,h4⟩:=h2.cells hc
      split at h
      · rename_i hl hf
        split at h
        · rename_i q hq
          obtain⟨q',h5,h6⟩:=hr.over h4 hq
          obtain⟨r',h7,h8⟩:=b3Q hs h h6
          refine⟨r', ?_,h8⟩
          simp only [b2r,hn,h1,h3,←h4.length,hl,h4.one (b3P st) hf,h5]
          exact h7
        · cases h
      · cases h
    · cases h
  · cases h
theorem a9B (hs:Sim A st sy) {z:Nat}:∀ {ps:List (Nat×Operand)} {l l':List D} {r:List SV},a4A z sy ps l=some l'→c0 (okS A st) st.w (y7 st) l r→
 ∃r',a9e z st ps r=some r'∧c0 (okS A st) st.w (y7 st) l' r'
 | [],l,l',r,h,hr=>by simp only [a4A]at h;cases h;exact⟨r,rfl,hr⟩
 |(i,x)::ps,l,l',r,h,hr=>by
  simp only [a4A]at h
  split at h
  · rename_i d hd
    obtain⟨s,h1,h2,_⟩:=j5 hs hd
    split at h
    · rename_i cs hc
      obtain⟨cs',h3,h4⟩:=h2.cells hc
      split at h
      · rename_i hl hf
        split at h
        · rename_i q hq
          obtain⟨q',h5,h6⟩:=hr.over h4 hq
          obtain⟨r',h7,h8⟩:=a9B hs h h6
          refine⟨r', ?_,h8⟩
          simp only [a9e,h1,h3,←h4.length,hl,h4.one (b3P st) hf,h5]
          exact h7
        · cases h
      · cases h
    · cases h
  · cases h
theorem b4i (hs:Sim A st sy) {len cap cap':Nat} {lo hi mx:Option Operand} {B:Nat→Nat→Nat→Prop} {B':Nat→Nat→Nat→Prop} (hc:cap≤cap') (hlc:len≤cap) (h:b7b sy len cap lo hi mx B)
 (hB:∀a b m,a≤b→b≤cap→B a b m→B' a b cap'):bnd st len cap' lo hi mx B':=by
 unfold b7b at h
 split at h
 · split at h
   · split at h
     · exact hB _ _ _ (Nat.zero_le _) hlc h
     · split at h
       · rename_i hl
         obtain⟨s,h1,h2,_⟩:=j5 hs hl
         have:=h2.sc;subst this
         simp only [bnd,h1]
         refine⟨h.1,hB _ _ _ (by omega) hlc h.2⟩
       · exact h.elim
   · split at h
     · rename_i hl
       obtain⟨s,h1,h2,_⟩:=j5 hs hl
       have:=h2.sc;subst this
       simp only [bnd,h1]
       refine⟨⟨h.1.1,by omega⟩, ?_⟩
       replace h:=h
       obtain⟨h0,h⟩:=h
       split at h
       · exact hB _ _ _ (Nat.zero_le _) (by omega) h
       · split at h
         · rename_i hl2
           obtain⟨s,h3,h4,_⟩:=j5 hs hl2
           have:=h4.sc;subst this
           simp only [h3]
           exact⟨h.1,hB _ _ _ (by omega) (by omega) h.2⟩
         · exact h.elim
     · exact h.elim
 · exact h.elim
variable (hK : ∀ oy o, a7F st.H (okS A st) st.w (y7 st) oy o → KY oy → K o)
include hK
theorem a2O {x:Value} (h:KY (.val (.v x))) (ho:a4Z x=true):K (.val (.v x)):=J7 hK h (by simp only [c4];exact⟨trivial,ho⟩) (by simp)
theorem b5Y (hs:Sim A st sy) {b:Builtin} {args:List Operand} {tys:List TypeId} (h:b2a X sy b args tys KY):Q1 (cx X w0 bor) st b args tys K:=by
 unfold b2a at h
 split at h
 · split at h
   · rename_i ht he
     obtain⟨s,h1,h2⟩:=X7 hs he
     obtain⟨s1,rfl,h3⟩:=h2.one1
     have:=h3.sc;subst this
     simp only [Q1,cx,ht,h1]
     exact a2O hK h rfl
   · rename_i ht he
     obtain⟨s,h1,h2⟩:=X7 hs he
     obtain⟨s1,rfl,h3⟩:=h2.one1
     simp only [c4,Rep]at h3
     obtain⟨y,rfl,a,c,rfl,_⟩:=h3
     simp only [Q1,cx,ht,h1]
     exact a2O hK h rfl
   · rename_i ht he
     obtain⟨s,h1,h2⟩:=X7 hs he
     obtain⟨s1,rfl,h3⟩:=h2.one1
     simp only [c4]at h3
     obtain⟨rfl,_⟩:=h3
     simp only [Q1,cx,ht,h1]
     exact a2O hK h rfl
   · rename_i ht he
     obtain⟨s,h1,h2⟩:=X7 hs he
     obtain⟨s1,rfl,h3⟩:=h2.one1
     simp only [c4]at h3
     obtain⟨rfl,_⟩:=h3
     split at h
     · rename_i hf
       obtain⟨e',hf',he⟩:=hs.H _ _ hf
       cases e' with
       |blk=>exact he.elim
       |row v n' xs z' ty'=>
        obtain⟨rfl,_⟩:=he
        simp only [Q1,cx,ht,h1,hf']
        exact a2O hK h rfl
     · exact h.elim
   · rename_i ht he
     obtain⟨s,h1,h2⟩:=X7 hs he
     obtain⟨s1,rfl,h3⟩:=h2.one1
     have:=h3.sc;subst this
     simp only [Q1,cx,ht,h1]
     exact a2O hK h rfl
   · exact h.elim
 · split at h
   · rename_i he
     obtain⟨s,h1,h2⟩:=X7 hs he
     obtain⟨s1,s2,rfl,h3,h4⟩:=h2.two
     have:=h3.sc;subst this
     have:=h4.sc;subst this
     simp only [Q1,h1]
     exact a2O hK h rfl
   · exact h.elim
 · split at h
   · rename_i he
     obtain⟨s,h1,h2⟩:=X7 hs he
     obtain⟨s1,s2,rfl,h3,h4⟩:=h2.two
     have:=h3.sc;subst this
     have:=h4.sc;subst this
     simp only [Q1,h1]
     exact a2O hK h rfl
   · exact h.elim
 · split at h
   · rename_i hb ht he
     obtain⟨s,h1,h2⟩:=X7 hs he
     obtain⟨s1,s2,rfl,h3,h4⟩:=h2.two
     split at h
     · rename_i i hi
       split at h
       · rename_i hn
         simp only [Q1,cx,hb,ht,h1,hi,hn]
         exact hK _ _ (by exact⟨rfl,rfl,rfl,h3,h4⟩) h
       · exact h.elim
     · exact h.elim
   · exact h.elim
 · exact h.elim
theorem b8w {fs:List (Nat×Nat×Nat)} {f:Nat} {x:D} {s:SV} (h:b6V X fs f x KY) (hr:c4 (okS A st) st.w (y7 st) x s):a8J (cx X w0 bor) fs f s K:=by
 unfold b6V at h
 split at h
 · rename_i hn ha
   obtain⟨r,h1,h2⟩:=b5A ha hr
   split at h
   · rename_i hi hq
     obtain⟨q,h3,h4⟩:=(h2.dropD _).takeD hq
     split at h
     · rename_i hb
       simp only [a8J,cx,hn,h1,hi,h3,hb]
       exact b4M hK h h4
     · exact h.elim
   · exact h.elim
 · exact h.elim
theorem b2I (hz:∀t i,F9 X.tt t=some i→(∀x,x∈i.z→a4Z x=true)∧i.z.length=i.n) (hs:Sim A st sy) {t:TypeId} {l c:Operand} (h:y1 X sy (.makeSlice t l c) KY):ev1 (cx X w0 bor) st (.makeSlice t l c) K:=by
 simp only [y1]at h
 split at h
 · rename_i n0 agg0 z0 eq0 e esz bytes k1 p k2 q hi hl hc
   obtain⟨s,h1,h2,_⟩:=j5 hs hl
   obtain⟨u,h3,h4,_⟩:=j5 hs hc
   have:=h2.sc;subst this
   have:=h4.sc;subst this
   split at h
   · rename_i i hie
     split at h
     · rename_i hn
       obtain⟨h0,l',n',⟨rfl,rfl⟩,h⟩:=h
       simp only [ev1,cx,hi,h1,h3,hie,hn]
       have hzi:=hz _ _ hie
       have hrel:c0 (okS A st) st.w (y7 st) (b0y p.toNat (vD i.z)) (a4z p.toNat (vs i.z)):=b6b (b2i hzi.1) _
       have hno:U5 (b0y p.toNat (vD i.z))=true:=c1K _ (c5j i.z)
       obtain⟨xs,hx,h5⟩:=hrel.vals hno
       refine⟨h0,hK (.newR (b0y p.toNat (vD i.z)) e esz p.toNat) _ (by exact⟨rfl,rfl,by rw [b5S,c0g,hzi.2,u7 hn],by simp only [maxLen];omega,a6W hno,xs,hx,h5⟩) h⟩
     · exact h.elim
   · exact h.elim
 · exact h.elim
theorem b5X (hs:Sim A st sy) {x:Operand} {n:Nat} (h:y1 X sy (.extract x n) KY):ev1 (cx X w0 bor) st (.extract x n) K:=by
 simp only [y1]at h
 cases hx:evY sy x with
 |none=>rw [hx]at h;exact h.elim
 |some d=>
  rw [hx]at h
  obtain⟨s,h1,h2,_⟩:=j5 hs hx
  cases d with
  |tup l=>
   simp only at h
   simp only [c4]at h2
   cases hq:dropD n l with
   |nil=>rw [hq]at h;exact h.elim
   |cons d r=>
    rw [hq]at h
    have hne:d≠ .bad:=fun e=>by subst e;exact h.elim
    have hk:KY (.val d):=by cases d<;>first|exact h|exact absurd rfl hne
    rcases h2 with⟨cs,rfl,h2⟩|⟨a,rfl,h2⟩
    · have h3:=h2.dropD n
      rw [hq]at h3
      simp only [ev1,h1]
      cases hq2:a1z n cs with
      |nil=>rw [hq2]at h3;simp [c0]at h3
      |cons q qs=>
       rw [hq2]at h3
       have hqb:=h3.1.ne hne
       have:=J7 hK hk h3.1 hne
       cases q<;>first|exact this|exact absurd rfl hqb
    · have h3:=h2.dropD n
      rw [hq]at h3
      simp only [ev1,h1]
      cases hq2:a1z n (vs a.toList)with
      |nil=>rw [hq2]at h3;simp [c0]at h3
      |cons q qs=>rw [hq2]at h3;exact J7 hK hk h3.1 hne
  |_=>exact h.elim
theorem b1u (hz:∀t i,F9 X.tt t=some i→(∀x,x∈i.z→a4Z x=true)∧i.z.length=i.n) (hs:Sim A st sy) {t:TypeId} {n:Nat} {ps:Array (Nat×Operand)} (h:y1 X sy (.buildSlice t n ps) KY):ev1 (cx X w0 bor) st (.buildSlice t n ps) K:=by
 simp only [y1]at h
 cases hi:F9 X.tt t with
 |none=>rw [hi]at h;exact h.elim
 |some i=>
  rw [hi]at h
  obtain⟨in_,agg,iz,ieq,d⟩:=i
  cases d with
  |slice e esz bytes=>
   simp only at h
   cases hie:F9 X.tt e with
   |none=>rw [hie]at h;exact h.elim
   |some i=>
    rw [hie]at h
    simp only at h
    cases hb:Nat.ble (n*esz) 16777216 with
    |false=>rw [hb]at h;exact h.elim
    |true=>
     rw [hb]at h
     cases hn:Nat.beq i.n esz with
     |false=>rw [hn]at h;exact h.elim
     |true=>
      rw [hn]at h
      cases hl:a4A esz sy ps.toList (b0y n (vD i.z))with
      |none=>rw [hl]at h;exact h.elim
      |some l=>
       rw [hl]at h
       simp only at h
       obtain⟨r,h1,h2⟩:=a9B hs hl (b6b (b2i (hz _ _ hie).1) _)
       simp only [ev1,cx,hi,hie,hb,hn,h1]
       have hlen:l.length=n*esz:=by rw [b3m hl,b5S,c0g,(hz _ _ hie).2,u7 hn]
       cases hno:U5 l with
       |false=>rw [hno]at h;exact hK (.new l e (some (esz,n))) _ (by exact⟨rfl,h2,rfl⟩) (by cases Nat.ble n 16777216<;>exact h)
       |true=>
        rw [hno]at h
        cases hbn:Nat.ble n 16777216 with
        |false=>rw [hbn]at h;exact hK (.new l e (some (esz,n))) _ (by exact⟨rfl,h2,rfl⟩) h
        |true=>
         rw [hbn]at h
         obtain⟨l',n',⟨rfl,rfl⟩,h⟩:=h
         obtain⟨xs,rfl,h3⟩:=h2.vals hno
         exact hK (.newR l e esz n) _ (by exact⟨rfl,rfl,hlen,(by have:=Nat.le_of_ble_eq_true hbn;simp only [maxLen];omega),a6W hno,xs,rfl,h3⟩) h
  |_=>exact h.elim
theorem b6z (hs:Sim A st sy) {t:TypeId} {x ix:Operand} {ok:Bool} (h:y1 X sy (.lookup t x ix ok) KY):ev1 (cx X w0 bor) st (.lookup t x ix ok) K:=by
 simp only [y1]at h
 split at h
 · rename_i l i hx hi
   obtain⟨hT,f,hf,hk⟩:=h
   obtain⟨s,h1,h2,_⟩:=j5 hs hx
   obtain⟨s',h3,h4,_⟩:=j5 hs hi
   have:=h4.sc;subst this
   simp only [c4,Rep]at h2
   obtain⟨y,rfl,r,es,c,rfl,hok,hb,he⟩:=h2
   obtain⟨j,hj⟩:=b3N l es.toList 0 he hf
   simp only [ev1,h1,h3]
   exact⟨hT,es,c,j,_, .inr ⟨hok.2.2,hb⟩,hj,J7 hK hk (by simp only [c4];exact .inr ⟨#[], #[],rfl,trivial,trivial⟩) (by simp)⟩
 · exact h.elim
theorem b9K (hs:Sim A st sy) {c:Call} (h:y1 X sy (.call c) KY):ev1 (cx X w0 bor) st (.call c) K:=by
 obtain⟨callee,args,tys⟩:=c
 cases callee with
 |value f=>
  simp only [y1]at h
  cases hf:evY sy f with
  |none=>rw [hf]at h;exact h.elim
  |some d=>
   rw [hf]at h
   cases d with
   |fn g l caps=>
    try simp only at h
    cases ha:a8b sy args.toList with
    |none=>rw [ha]at h;exact h.elim
    |some as=>
     rw [ha]at h
     try simp only at h
     obtain⟨s,h1,h2,_⟩:=j5 hs hf
     obtain⟨t,h3,h4⟩:=X7 hs ha
     simp only [c4]at h2
     rcases h2 with⟨p,q,rfl,h5,h6⟩|⟨p,q,rfl,h5,h6⟩
     · simp only [ev1,h1,h3]
       exact hK (.call g _) _ (by exact⟨rfl,h5.app (h4.app h6)⟩) h
     · simp only [ev1,h1,h3]
       exact hK (.call g _) _ (by exact⟨rfl,h5.app (h4.app h6)⟩) h
   |_=>exact h.elim
 |builtin b=>
  simp only [y1]at h
  simp only [ev1]
  exact b5Y hK hs h
 |_=>exact h.elim
theorem b6m (hz:∀t i,F9 X.tt t=some i→(∀x,x∈i.z→a4Z x=true)∧i.z.length=i.n) (hs:Sim A st sy) {op:Op} (h:y1 X sy op KY):ev1 (cx X w0 bor) st op K:=by
 unfold y1 at h
 split at h
 · exact b4N hK hs h
 · exact b4N hK hs h
 · split at h
   · rename_i hc
     obtain⟨s,h1,h2,_⟩:=j5 hs hc
     have:=h2.sc;subst this
     simp only [ev1,h1]
     rename_i t _
     cases t
     · exact b4N hK hs h
     · exact b4N hK hs h
   · exact h.elim
 · split at h
   · rename_i i hi
     simp only [ev1,cx,hi]
     exact hK _ _ (by exact⟨rfl,b2i (hz _ _ hi).1,rfl⟩) h
   · exact h.elim
 · split at h
   · rename_i i d hi hd
     obtain⟨s,h1,h2,_⟩:=j5 hs hd
     split at h
     · rename_i l hl
       obtain⟨r,h3,h4⟩:=h2.cells hl
       split at h
       · rename_i hf
         simp only [ev1,cx,hi,h1,h3,h4.one (b3P st) hf]
         exact hK _ _ (by exact⟨rfl,h4,rfl⟩) h
       · exact h.elim
     · exact h.elim
   · exact h.elim
 · split at h
   · rename_i i d hi hd
     obtain⟨s,h1,h2,_⟩:=j5 hs hd
     simp only [ev1,h1]
     simp only [cx,hi]
     exact b9b (X:=X) (w0:=w0) (bor:=bor) hK hs h h2
   · exact h.elim
 · split at h
   · rename_i i d e hi hd he
     obtain⟨s,h1,h2,_⟩:=j5 hs hd
     obtain⟨t,h3,h4,_⟩:=j5 hs he
     simp only [ev1,cx,hi,h1,h3]
     exact b7m hK hs h h2 h4
   · exact h.elim
 · split at h
   · rename_i hd
     obtain⟨s,h1,h2,h3⟩:=j5 hs hd
     have h2':=h2
     simp only [c4]at h2;obtain⟨rfl,_⟩:=h2
     simp only [ev1,h1];exact J7 hK h h2' h3
   · rename_i hd
     obtain⟨s,h1,h2,h3⟩:=j5 hs hd
     have h2':=h2
     simp only [c4]at h2;obtain⟨rfl,_⟩:=h2
     simp only [ev1,h1];exact J7 hK h h2' h3
   · rename_i hd
     obtain⟨s,h1,h2,h3⟩:=j5 hs hd
     have h2':=h2
     simp only [c4]at h2;obtain⟨rfl,_⟩:=h2
     simp only [ev1,h1];exact J7 hK h h2' h3
   · rename_i hd
     obtain⟨s,h1,h2,h3⟩:=j5 hs hd
     have h2':=h2
     simp only [c4,Rep]at h2;obtain⟨y,rfl,b,p,xs,rfl,_⟩:=h2
     simp only [ev1,h1];exact J7 hK h h2' h3
   · exact h.elim
 · split at h
   · rename_i hi hd
     obtain⟨s,h1,h2,_⟩:=j5 hs hd
     split at h
     · rename_i hn
       obtain⟨y,h3,h4⟩:=a2a h
       obtain⟨t,h5,h6,h7⟩:=b2s h3 h2
       simp only [ev1,cx,hi,h1,hn,h5]
       exact J7 hK h4 h6 h7
     · exact h.elim
   · exact h.elim
 · split at h
   · rename_i hi hd
     obtain⟨s,h1,h2,_⟩:=j5 hs hd
     simp only [ev1,h1]
     simp only [cx,hi]
     exact b8w (X:=X) (w0:=w0) (bor:=bor) hK h h2
   · exact h.elim
 · --indexAddr
   split at h
   · rename_i hi hd hx
     obtain⟨s,h1,h2,_⟩:=j5 hs hd
     obtain⟨t,h3,h4,_⟩:=j5 hs hx
     have:=h4.sc;subst this
     split at h
     · rename_i hz
       obtain rfl:=u7 hz
       obtain⟨cs,⟨rfl,h0,hlt⟩,h⟩:=h
       simp only [c4,Rep]at h2
       obtain⟨y,rfl,a,c,rfl,hnc,hmx,hlen,hfl,hmem⟩:=h2
       simp only [ev1,cx,hi,h1,h3]
       rcases hmem with rfl|⟨b,o,xs,rfl,hok,hrep,hcell⟩
       · omega
       · refine⟨b,o,⟨rfl,h0,hlt⟩,J7 hK h ?_ (by simp)⟩
         simp only [c4]
         exact⟨_,rfl,c3g hlen hfl hok hrep hcell h0 hlt⟩
     · exact h.elim
   · rename_i hi hd hx
     obtain⟨s,h1,h2,_⟩:=j5 hs hd
     obtain⟨t,h3,h4,_⟩:=j5 hs hx
     have:=h4.sc;subst this
     simp only [c4]at h2
     obtain⟨rfl,h2⟩:=h2
     split at h
     · rename_i hz
       obtain rfl:=u7 hz
       simp only [ev1,cx,hi,h1,h3]
       exact⟨h.1,J7 hK h.2 (by simp only [c4];exact⟨trivial,h2⟩) (by simp)⟩
     · exact h.elim
   · rename_i hi hd hx
     obtain⟨s,h1,h2,_⟩:=j5 hs hd
     obtain⟨t,h3,h4,_⟩:=j5 hs hx
     have:=h4.sc;subst this
     simp only [c4]at h2
     obtain⟨rfl,h2⟩:=h2
     split at h
     · rename_i hz hf
       obtain rfl:=u7 hz
       obtain⟨e',hf',he⟩:=hs.H _ _ hf
       cases e' with
       |blk=>exact he.elim
       |row v n' xs z' ty'=>
        obtain⟨rfl,_⟩:=he
        split at h
        · rename_i hz2
          simp only [ev1,cx,hi,h1,h3,hf']
          exact⟨h.1,J7 hK h.2 (by simp only [c4];exact⟨rfl,h2⟩) (by simp)⟩
        · exact h.elim
     · exact h.elim
   · omega
   · rename_i hi hd hx
     obtain⟨s,h1,h2,_⟩:=j5 hs hd
     obtain⟨t,h3,h4,_⟩:=j5 hs hx
     have:=h4.sc;subst this
     obtain⟨h0,h⟩:=h
     obtain⟨y,h5,h6⟩:=a2a h
     simp only [ev1,cx,hi,h1,h3]
     refine⟨h0, ?_⟩
     split at h5
     · obtain⟨u,h7,h8,h9⟩:=b2s h5 h2
       rename_i hc
       simp only [hc,h7];exact J7 hK h6 h8 h9
     · obtain⟨u,h7,h8,h9⟩:=b5l h5 h2
       rename_i hc
       simp only [hc,h7];exact J7 hK h6 h8 h9
   · exact h.elim
 · --index
   split at h
   · rename_i hi hd hx
     obtain⟨s,h1,h2,_⟩:=j5 hs hd
     obtain⟨t,h3,h4,_⟩:=j5 hs hx
     have:=h4.sc;subst this
     have:=h2.sc;subst this
     obtain⟨c,h0,h⟩:=h
     simp only [ev1,cx,hi,h1,h3]
     exact⟨c,h0,a2O hK h rfl⟩
   · rename_i hi hd hx
     obtain⟨s,h1,h2,_⟩:=j5 hs hd
     obtain⟨t,h3,h4,_⟩:=j5 hs hx
     have:=h4.sc;subst this
     split at h
     · rename_i ha hti
       obtain⟨r,h5,h6⟩:=b5A ha h2
       obtain⟨h0,h⟩:=h
       simp only [ev1,cx,hi,h1,h3,h5,hti]
       refine⟨h0, ?_⟩
       split at h
       · rename_i hb hq
         obtain⟨q,h7,h8⟩:=(h6.dropD _).takeD hq
         simp only [hb,h7]
         exact b4M hK h h8
       · exact h.elim
     · exact h.elim
   · exact h.elim
 · --binOp
   split at h
   · rename_i hx hy
     obtain⟨s,h1,h2,_⟩:=j5 hs hx
     obtain⟨t,h3,h4,_⟩:=j5 hs hy
     have:=h2.sc;subst this
     have:=h4.sc;subst this
     simp only [ev1,h1,h3]
     generalize hb1:c3e _=b1 at h⊢
     generalize hb2:kEq _ _=b2 at h⊢
     cases b1<;>cases b2<;>simp only at h⊢
     · exact b6v (fun o ho=>a2s hK ho) h
     · exact b3c (fun o ho=>a2s hK ho) h
     · exact b3c (fun o ho=>a2s hK ho) h
   · rename_i hx hy
     obtain⟨s,h1,h2,_⟩:=j5 hs hx
     obtain⟨t,h3,h4,_⟩:=j5 hs hy
     have:=h2.sc;subst this
     have:=h4.sc;subst this
     simp only [ev1,h1,h3]
     exact b6Q (fun o ho=>a2s hK ho) h
   · rename_i hx hy
     obtain⟨s,h1,h2,_⟩:=j5 hs hx
     obtain⟨t,h3,h4,_⟩:=j5 hs hy
     split at h
     · rename_i hi
       split at h
       · rename_i hl hm
         obtain⟨⟨l',h5,h6⟩,h7⟩:=b1d hl h2
         obtain⟨⟨m',h8,h9⟩,h10⟩:=b1d hm h4
         split at h
         · rename_i e he
           have he':=b9X he h6 h9
           have nots:(∀k a,s≠ .v (.int k a))∧(∀a,s≠ .v (.string a)):=by
            rcases h7 with⟨_,cs,hcs⟩|⟨c,rfl⟩
            · exact⟨fun k a e=>by subst e;simp [a4a]at hcs,fun a e=>by subst e;simp [a4a]at hcs⟩
            · exact⟨fun k a e=>(by cases e),fun a e=>(by cases e)⟩
           exact b8z h1 h3 nots.1 nots.2 hi h5 h8 he' (a6v (fun o ho=>a2s hK ho) h)
         · exact h.elim
       · exact h.elim
     · rename_i hi
       split at h
       · simp only [c4,Rep]at h2
         obtain⟨y,rfl,a,c,rfl,hnc,hmx,hlen,hfl,hmem⟩:=h2
         have:=h4.sc;subst this
         simp only [ev1,cx,h1,h3,hi]
         refine a6v (fun o ho=>a2s hK ho) (h a.isNone fun hb=> ?_)
         rcases hmem with rfl|⟨b,o,xs,rfl,_⟩
         · omega
         · cases hb
       · have:=h2.sc;subst this
         have:=h4.sc;subst this
         simp only [ev1,cx,h1,h3,hi]
         exact a6v (fun o ho=>a2s hK ho) h
       · exact h.elim
     · exact h.elim
   · exact h.elim
 · split at h
   · rename_i hx
     obtain⟨s,h1,h2,_⟩:=j5 hs hx
     have:=h2.sc;subst this
     simp only [ev1,h1];exact a2O hK h rfl
   · rename_i hx
     obtain⟨s,h1,h2,_⟩:=j5 hs hx
     have:=h2.sc;subst this
     simp only [ev1,h1];exact a2O hK h rfl
   · exact h.elim
 · split at h
   · rename_i h1 h2 hx
     obtain⟨s,g1,g2,_⟩:=j5 hs hx
     have:=g2.sc;subst this
     simp only [ev1,cx,h1,h2,g1];exact a2O hK h rfl
   · exact h.elim
 · exact b5X hK hs (by simpa only [y1]using h)
 · split at h
   · rename_i hl hc
     obtain⟨l',h1,h2⟩:=X7 hs hl
     obtain⟨c',h3,h4⟩:=X7 hs hc
     simp only [ev1,h1,h3]
     exact J7 hK h (by simp only [c4];exact .inl ⟨_,_,rfl,h2,h4⟩) (by simp)
   · exact h.elim
 · split at h
   · rename_i hi
     split at h
     · rename_i l hl
       have hzz:=(hz _ _ hi).1
       obtain⟨r,h1,h2⟩:=b3Q hs hl (b2i hzz)
       split at h
       · rename_i hf
         simp only [ev1,cx,hi,h1]
         exact J7 hK h (by simp only [c4];exact⟨r,rfl,h2,hf⟩) (by simp)
       · exact h.elim
     · exact h.elim
   · rename_i hi
     split at h
     · rename_i l hl
       have hzz:=(hz _ _ hi).1
       obtain⟨r,h1,h2⟩:=a9B hs hl (b2i hzz)
       split at h
       · rename_i hf
         simp only [ev1,cx,hi,h1]
         exact J7 hK h (by simp only [c4];exact⟨r,rfl,h2,hf⟩) (by simp)
       · exact h.elim
     · exact h.elim
   · exact h.elim
 · exact b1u hK hz hs (by simpa only [y1]using h)
 · exact b2I hK hz hs (by simpa only [y1]using h)
 · split at h
   · rename_i hi hd
     obtain⟨s,h1,h2,_⟩:=j5 hs hd
     split at h
     · rename_i hzz
       obtain rfl:=u7 hzz
       simp only [c4,Rep]at h2
       obtain⟨y,rfl,a,c,rfl,hnc,hmx,hlen,hfl,hmem⟩:=h2
       simp only [ev1,cx,hi,h1]
       refine b4i hs hnc (Nat.le_refl _) h fun p q m hpq hqn hk a' ha'=> ?_
       obtain⟨r,rfl,hk⟩:=hk
       refine J7 hK hk ?_ (by simp)
       simp only [c4]
       exact⟨_,rfl,c1E (xs:= []) (m:=0) hlen hmx hfl hmem hpq hqn hnc ha'⟩
     · exact h.elim
   · rename_i mx _ _ _ _ _ _ _ esz _ k z hi hd
     obtain⟨s,h1,h2,_⟩:=j5 hs hd
     simp only [c4]at h2
     obtain⟨rfl,hkey⟩:=h2
     split at h
     · rename_i hzz hf
       obtain rfl:=u7 hzz
       obtain⟨h0,h⟩:=h
       have hmx:mx=none:=by
        cases mx with
        |none=>rfl
        |some m=>simp [b7b]at h
       subst hmx
       obtain⟨e',hf',he⟩:=hs.H _ _ hf
       cases e' with
       |blk=>exact he.elim
       |row v n' xs z' ty'=>
        obtain⟨rfl,rfl,rfl,_⟩:=he
        simp only [ev1,cx,hi,h1,hf']
        refine⟨h0,fun c hnc=>b4i hs hnc (Nat.le_refl _) h fun p q m hpq hqn hk=> ?_⟩
        refine J7 hK (hk (if c=p then 0 else p*z) ⟨?_,fun hp=>by subst hp;simp⟩) ?_ (by simp)
        · by_cases hc:c=p
          · left;omega
          · right;rw [if_neg hc]
        · simp only [c4];exact⟨trivial,hkey.1,by simp⟩
     · exact h.elim
   · rename_i hi hd
     obtain⟨s,h1,h2,_⟩:=j5 hs hd
     have:=h2.sc;subst this
     simp only [ev1,cx,hi,h1]
     rename_i mx _ _ _ _ _ _ _ _
     have hmx:mx=none:=by
      cases mx with
      |none=>rfl
      |some m=>simp [b7b]at h
     subst hmx
     exact b4i hs (Nat.le_refl _) (Nat.le_refl _) h fun p q m _ _ hk=>a2O hK hk rfl
   · exact h.elim
 · exact b6z hK hs (by simpa only [y1]using h)
 · exact b9K hK hs (by simpa only [y1]using h)
 · exact h.elim
end
end Go.Sx
namespace Go.Sx
open Go Go.RowKit
mutual
def a2T (k:Nat):D→Bool
 | .own j _=>Nat.beq j k
 | .ownx j _=>Nat.beq j k
 | .row j _=>Nat.beq j k
 | .elr j _ _ _=>Nat.beq j k
 | .osl j _ _ _ _=>Nat.beq j k
 | .agg l=>a6K k l
 | .tup l=>a6K k l
 | .fn _ f c=>match a6K k f with|true=>true|false=>a6K k c
 |_=>false
def a6K (k:Nat):List D→Bool
 | []=>false
 |s::l=>match a2T k s with|true=>true|false=>a6K k l
end
def a8K (k:Nat) (s:D):D:=match a2T k s with|true=> .bad|false=>s
def b7g (k:Nat):List D→List D
 | []=> []
 |s::l=>a8K k s::b7g k l
def b4S (k:Nat):E→E
 | .blk cs ty=> .blk (b7g k cs) ty
 |e=>e
def a4v (k:Nat):Hy→Hy
 | []=> []
 |(j,e)::H=>(j,b4S k e)::a4v k H
def a7E (k:Nat) (T:List (Nat×D)) (K:List (Nat×D)→Prop):Prop:=match T with
 | []=>K []
 |(d,s)::T=>match a2T k s with
  |true=>a7E k T fun T'=>K ((d, .bad)::T')
  |false=>a7E k T fun T'=>K ((d,s)::T')
def b3X:Hy→Nat→E→(Hy→Prop)→Prop
 | [],_,_,_=>False
 |(k',e')::H,k,e,K=>match Nat.beq k' k with
  |true=>K ((k',e)::H)
  |false=>b3X H k e fun H'=>K ((k',e')::H')
mutual
def fzO (k:Nat) (e:E):D→Option D
 | .own j o=>match Nat.beq j k with
  |false=>some (.own j o)
  |true=>match e with| .blk cs _=>some (.ptr cs o)|_=>none
 | .ownx j o=>match Nat.beq j k with|false=>some (.ownx j o)|true=>none
 | .row j z=>match Nat.beq j k with
  |false=>some (.row j z)
  |true=>match e with| .row z' n l _=>some (.lst z' n l)|_=>none
 | .elr j z i o=>match Nat.beq j k with|false=>some (.elr j z i o)|true=>none
 | .osl j o z n c=>match Nat.beq j k with
  |false=>some (.osl j o z n c)
  |true=>match e with
   | .blk cs _=>match takeD (n*z) (dropD o cs),Nat.ble n c,Nat.ble n 9223372036854775807 with|some l,true,true=>some (.lst z n l)|_,_,_=>none
   |_=>none
 | .agg l=>match fzL k e l with|some l'=>some (.agg l')|none=>none
 | .tup l=>match fzL k e l with|some l'=>some (.tup l')|none=>none
 | .fn f a b=>match fzL k e a,fzL k e b with|some a',some b'=>some (.fn f a' b')|_,_=>none
 | .v x=>some (.v x)
 | .lst z n l=>some (.lst z n l)
 | .ptr l o=>some (.ptr l o)
 | .mp l=>some (.mp l)
 | .und=>some .und
 | .bad=>none
def fzL (k:Nat) (e:E):List D→Option (List D)
 | []=>some []
 |x::l=>match fzO k e x,fzL k e l with|some y,some r=>some (y::r)|_,_=>none
end
def fzG (k:Nat) (e:E) (x:D):D:=match fzO k e x with|some y=>y|none=> .bad
def fzT (k:Nat) (e:E):List (Nat×D)→List (Nat×D)
 | []=> []
 |(d,x)::T=>(d,fzG k e x)::fzT k e T
def fzC (k:Nat) (e:E):List D→List D
 | []=> []
 |x::l=>fzG k e x::fzC k e l
def fzE (k:Nat) (e:E):E→E
 | .blk cs ty=> .blk (fzC k e cs) ty
 |x=>x
def fzH (k:Nat) (e:E):Hy→Hy
 | []=> []
 |(j,x)::H=>match Nat.beq j k with
  |true=>fzH k e H
  |false=>(j,fzE k e x)::fzH k e H
mutual
def Z6:D→Bool
 | .v _=>true
 | .lst _ _ _=>true
 | .ptr _ _=>true
 | .mp _=>true
 | .agg l=>match P8 l with|true=>y5 l|false=>false
 | .tup l=>P8 l
 | .fn _ a b=>match P8 a with|true=>P8 b|false=>false
 |_=>false
def P8:List D→Bool
 | []=>true
 |x::l=>match Z6 x with|true=>P8 l|false=>false
end
def okE:E→Bool
 | .blk cs _=>match P8 cs with|true=>y5 cs|false=>false
 | .row _ _ _ _=>true
def b9D (k:Nat) (e:E):List (Nat×D)→Option (List (Nat×D))
 | []=>some []
 |(d,x)::T=>match fzO k e x with
  |some y=>match b9D k e T with
   |some T'=>some ((d,y)::T')
   |none=>none
  |none=>match b9D k e T with
   |some T'=>some ((d, .bad)::T')
   |none=>none
def c0U (k:Nat) (e:E):List D→Option (List D)
 | []=>some []
 |x::l=>match fzO k e x with
  |some y=>match c0U k e l with
   |some l'=>some (y::l')
   |none=>none
  |none=>match c0U k e l with
   |some l'=>some (.bad::l')
   |none=>none
def b9k (k:Nat) (e:E):Hy→Option Hy
 | []=>some []
 |(j,x)::H=>match Nat.beq j k with
  |true=>b9k k e H
  |false=>match x with
   | .blk cs ty=>match c0U k e cs with
    |some cs'=>match b9k k e H with
     |some H'=>some ((j, .blk cs' ty)::H')
     |none=>none
    |none=>none
   | .row t c n m=>match b9k k e H with
    |some H'=>some ((j, .row t c n m)::H')
    |none=>none
theorem b7G (k:Nat) (e:E):∀T,b9D k e T=some (fzT k e T)
 | []=>rfl
 |(d,x)::T=>by
  simp only [b9D,b7G k e T,fzT,fzG]
  cases fzO k e x<;>rfl
theorem b8d (k:Nat) (e:E):∀l,c0U k e l=some (fzC k e l)
 | []=>rfl
 |x::l=>by
  simp only [c0U,b8d k e l,fzC,fzG]
  cases fzO k e x<;>rfl
theorem b8i (k:Nat) (e:E):∀H,b9k k e H=some (fzH k e H)
 | []=>rfl
 |(j,x)::H=>by
  simp only [b9k,b8i k e H,fzH]
  cases Nat.beq j k with
  |true=>rfl
  |false=>cases x<;>simp only [b8d,fzE]
def a4S:List Nat→Sy→List D→Option (Sy×List D)
 | [],st,l=>some (st,l)
 |k::ks,⟨T,H,nk⟩,l=>match j7 H k with
  |some e=>match okE e,fzL k e l with
   |true,some l'=>match b9D k e T with
    |some T'=>match b9k k e H with
     |some H'=>a4S ks ⟨T',H',nk⟩ l'
     |none=>none
    |none=>none
   |_,_=>none
  |none=>none
mutual
def c3y:Nat→Hy→List Nat→D→List Nat
 |0,_,acc,_=>acc
 |n+1,H,acc, .own j _=>b1E n H acc j
 |n+1,H,acc, .ownx j _=>b1E n H acc j
 |n+1,H,acc, .row j _=>b1E n H acc j
 |n+1,H,acc, .elr j _ _ _=>b1E n H acc j
 |n+1,H,acc, .osl j _ _ _ _=>b1E n H acc j
 |n+1,H,acc, .agg l=>a5q n H acc l
 |n+1,H,acc, .tup l=>a5q n H acc l
 |n+1,H,acc, .fn _ a b=>match a5q n H acc a with
  | []=>a5q n H [] b
  |y::r=>a5q n H (y::r) b
 |_,_,acc,_=>acc
def b1E:Nat→Hy→List Nat→Nat→List Nat
 |0,_,acc,_=>acc
 |n+1,H,acc,j=>match M7 j acc with
  |true=>acc
  |false=>match j7 H j with
   |some (.blk cs _)=>match a5q n H acc cs with
    | []=> [j]
    |y::r=>j::y::r
   |_=>j::acc
def a5q:Nat→Hy→List Nat→List D→List Nat
 |0,_,acc,_=>acc
 |_+1,_,acc, []=>acc
 |n+1,H,acc,x::l=>match c3y n H acc x with
  | []=>a5q n H [] l
  |y::r=>a5q n H (y::r) l
end
def c4k:List Nat→List Nat→List Nat
 | [],acc=>acc
 |x::l,acc=>c4k l (x::acc)
def b8e (H:Hy) (l:List D):List Nat:=c4k (a5q 40 H [] l) []
mutual
def a4F:D→Bool
 | .v _=>true
 | .agg l=>b6f l
 | .tup l=>b6f l
 |_=>false
def b6f:List D→Bool
 | []=>true
 |x::l=>match a4F x with|true=>b6f l|false=>false
end
def d7 (P:Program) (f:FuncId) (args:List D) (Q:D→Prop):Prop:=
 ∀(ok:Nat→Prop) (w:World) (vs:List Value),c8 ok w args vs→(∀b,ok b→b<w.heap.size)→
  Calls P f vs.toArray w fun e w'=>∃v r,e= .returned v∧Q r∧Rep (fun b=>ok b∨(w.heap.size≤b∧b<w'.heap.size)) w' r v∧Below w.heap.size w w'
def R5 (X:Cy) (st:Sy) (dst:Option Nat) (s:D) (K:Sy→Prop):Prop:=
 match dst with
 |none=>K st
 |some d=>match Nat.blt d X.nt,st with
  |true,⟨T,H,nk⟩=>K ⟨(d,s)::T,H,nk⟩
  |false,_=>False
mutual
def leD:D→D→Prop
 | .v x,y=>y= .v x∨(x= .slice none 0 0∧∃z,y= .lst z 0 [])
 | .agg l,y=>∃r,y= .agg r∧a3d l r
 | .tup l,y=>∃r,y= .tup r∧a3d l r
 |x,y=>x=y
def a3d:List D→List D→Prop
 | [], []=>True
 |x::l,y::r=>leD x y∧a3d l r
 |_,_=>False
end
mutual
def a1F (n:Nat):D→D
 | .row k z=>match Nat.blt k n with|true=> .row k z|false=> .v (.slice none 0 0)
 | .agg l=> .agg (a1X n l)
 | .tup l=> .tup (a1X n l)
 | .fn f a b=> .fn f (a1X n a) (a1X n b)
 |x=>x
def a1X (n:Nat):List D→List D
 | []=> []
 |x::l=>a1F n x::a1X n l
end
mutual
def inK (n:Nat) (ks:List Nat):D→Bool
 | .own j _=>match Nat.blt j n with|true=>M7 j ks|false=>false
 | .ownx j _=>match Nat.blt j n with|true=>M7 j ks|false=>false
 | .row j _=>M7 j ks
 | .elr j _ _ _=>match Nat.blt j n with|true=>M7 j ks|false=>false
 | .osl j _ _ _ _=>match Nat.blt j n with|true=>M7 j ks|false=>false
 | .agg l=>b7z n ks l
 | .tup l=>b7z n ks l
 | .fn _ a b=>match b7z n ks a with|true=>b7z n ks b|false=>false
 | .bad=>false
 |_=>true
def b7z (n:Nat) (ks:List Nat):List D→Bool
 | []=>true
 |x::l=>match inK n ks x with|true=>b7z n ks l|false=>false
end
def c1T (n:Nat) (ks:List Nat):List (Nat×D)→Bool
 | []=>true
 |(_,x)::T=>match inK n ks x with|true=>c1T n ks T|false=>false
def b4A (n:Nat) (ks:List Nat):List D→Bool
 | []=>true
 | .bad::l=>b4A n ks l
 |x::l=>match inK n ks x,a4w x with|true,true=>b4A n ks l|_,_=>false
def b9m (n:Nat) (ks:List Nat):Hy→Bool
 | []=>true
 |(k, .blk cs _)::H=>match Nat.blt k n,b4A n ks cs with|true,true=>b9m n ks H|_,_=>false
 |(_, .row _ _ _ _)::H=>b9m n ks H
def Z9:Hy→List Nat
 | []=> []
 |(k,_)::H=>k::Z9 H
def ltY (n:Nat):Hy→Bool
 | []=>true
 |(k,_)::H=>match Nat.blt k n with|true=>ltY n H|false=>false
def b0B (n:Nat) (st:Sy):Bool:=match ndB (Z9 st.H),ltY st.nk st.H,c1T n (Z9 st.H) st.T,b9m n (Z9 st.H) st.H with|true,true,true,true=>true|_,_,_,_=>false
def a9F:List D→List D→Prop
 | [], []=>True
 |_::l, .bad::r=>a9F l r
 |x::l,y::r=>leD x y∧a9F l r
 |_,_=>False
def b1h (n:Nat) (T:List (Nat×D)):List (Nat×D)→Prop
 | []=>True
 |(d,s)::r=>(∃y,q8 T d=some y∧leD y (a1F n s))∧b1h n T r
def b7P (n:Nat) (H:Hy) (k:Nat):E→Prop
 | .blk cs ty=>∃cs0,j7 H k=some (.blk cs0 ty)∧a9F cs0 (a1X n cs)
 | .row z m l ty=>match Nat.blt k n with
  |true=>∃m0 l0,j7 H k=some (.row z m0 l0 ty)∧m0=m∧l0=l
  |false=>m=0∧l= []
def b3x (n:Nat) (H:Hy):Hy→Prop
 | []=>True
 |(k,e)::r=>b7P n H k e∧b3x n H r
structure c2Q (st st':Sy):Prop where
 ex:∃n,b0B n st'=true∧b1h n st.T st'.T∧b3x n st.H st'.H
structure c5 (st st':Sy):Prop where
 ex:∃ks st1,a4S ks st []=some (st1, [])∧c2Q st1 st'
def a0I (X:Cy) (st:Sy):List ResultVar→Option (List D)
 | []=>some []
 | .tmp t::r=>match a9r st.T t,a0I X st r with
  |some .bad,_=>none
  |some s,some l=>some (s::l)
  |_,_=>none
 | .cell a t::r=>match F9 X.tt t,a9r st.T a,a0I X st r with
  |some i,some (.own k o),some l=>match j7 st.H k with
   |some (.blk cs _)=>match takeD i.n (dropD o cs)with
    |some c=>match mkD i.agg c with
     |some s=>some (s::l)
     |none=>none
    |none=>none
   |_=>none
  |_,_,_=>none
def a1S:Nat→List D→List (Nat×D)
 |_, []=> []
 |n,s::l=>(n,s)::a1S (n+1) l
def X3 {α:Type} (nt:Nat):List (Nat×α)→List (Nat×α)
 | []=> []
 |(d,x)::T=>match Nat.blt d nt with
  |true=>(Nat.add 1000000 d,x)::X3 nt T
  |false=>match Nat.blt d 1000000 with
   |true=>X3 nt T
   |false=>(Nat.add d nt,x)::X3 nt T
def L7 {α:Type} (nt:Nat):List (Nat×α)→List (Nat×α)
 | []=> []
 |(d,x)::T=>match Nat.blt d 1000000 with
  |true=>L7 nt T
  |false=>match Nat.blt d (Nat.add 1000000 nt)with
   |true=>(Nat.mod d 1000000,x)::L7 nt T
   |false=>(Nat.sub d nt,x)::L7 nt T
def b8t:List D→D
 | [x]=>x
 |l=> .tup l
def c1d (X X':Cy) (rs:List ResultVar) (dst:Option Nat) (K:Sy→Prop) (e:Exit) (st:Sy):Prop:=
 match e,st with
 | .normal,⟨T,H,nk⟩=>match a0I X' ⟨T,H,nk⟩ rs with
  |some l=>R5 X ⟨L7 X.nt T,H,nk⟩ dst (b8t l) K
  |none=>False
 | .ret,⟨T,H,nk⟩=>match a0I X' ⟨T,H,nk⟩ rs with
  |some l=>R5 X ⟨L7 X.nt T,H,nk⟩ dst (b8t l) K
  |none=>False
 |_,_=>False
def c0X (X:Cy) (c:Code) (st0:Sy) (K:Exit→Sy→Prop):Prop:=
 ∀(A:Nat→Prop) (w0:World) (bor:List Nat) (sv:List Value) (st:St) (a:Act) (w:World) (Q:Exit→Act→World→Prop),(∀b,(w0.heap.size≤b∨b∈bor)→A b)→Sim A st st0→Rel (cx { X with sv:=sv} w0 bor) st a w→
  (∀e st' sy' a' w',plain e→K e sy'→Sim A st' sy'→Lv (cx { X with sv:=sv} w0 bor) st.H w st' a' w'→Q e a' w')→c.wp X.P Q a w
structure K1 (X:Cy) (f:FuncId) (args:List D) (dst:Option Nat) (st:Sy) (K:Sy→Prop):Prop where
 ex:∃(nt:Nat) (pl:List (Nat×PT)) (ln un inl:List Nat) (fn:Func) (c:Code) (st0 st1:Sy),
  (X.P.funcs[f]?=some fn∧fn.body=some c∧nt=fn.ntmps∧Nat.ble nt 1000000=true∧Nat.ble args.length nt=true)∧
  c5 ⟨a1S 0 args++X3 X.nt st.T,st.H,st.nk⟩ st0∧c0X ⟨X.P,X.tt,nt,pl,ln,un, [],inl, []⟩ c st0 (c1d X ⟨X.P,X.tt,nt,pl,ln,un, [],inl, []⟩ fn.results.toList dst fun sy=>c5 sy st1)∧K st1
structure a8s (P:Program) (seq:Bool) (f:FuncId) (fa:List D) (st st':Sy) (K:Sy→D→Prop):Prop where
 ex:∃Q,d7 P f fa Q∧∀r,Q r→match a4F r,seq with
  |true,_=>K st r
  |false,true=>K st' r
  |false,false=>False
structure a3v (P:Program) (f:FuncId) (args:List D) (st:Sy) (K:Sy→D→Prop):Prop where
 ex:∃Q,d7 P f args Q∧∀r,Q r→K st r
def a9a (ok:Nat→Prop) (w:World) (z n:Nat) (l:List D) (ty:TypeId) (v:Value):Prop:=
 ∃xs,w.ownsRow 0 ty z v n xs∧c8 ok w l xs∧y5 l=true∧l.length=n*z
def b0n (P:Program) (f:FuncId) (args:List D) (z n:Nat) (l:List D) (ty:TypeId):Prop:=
 ∀(ok:Nat→Prop) (w:World) (vs:List Value),c8 ok w args vs→(∀b,ok b→b<w.heap.size)→
  Calls P f vs.toArray w fun e w'=>∃v,e= .returned v∧(∀b,b∈m7 v→w.heap.size≤b)∧a9a (fun b=>(ok b∨(w.heap.size≤b∧b<w'.heap.size))∧b∉m7 v) w' z n l ty v∧Below w.heap.size w w'
def b2C (P:Program) (f:FuncId) (z n:Nat) (l:List D) (ty:TypeId) (args:List D) (z' n':Nat) (l':List D):Prop:=
 ∀(ok:Nat→Prop) (w:World) (v:Value) (vs:List Value),a9a ok w z n l ty v→(∀b,b∈m7 v→¬ok b)→c8 ok w args vs→(∀b,ok b→b<w.heap.size)→
  Calls P f (v::vs).toArray w fun e w'=>∃v',e= .returned v'∧(∀b,b∈m7 v'→b∈m7 v∨w.heap.size≤b)∧
   a9a (fun b=>(ok b∨b∈m7 v∨(w.heap.size≤b∧b<w'.heap.size))∧b∉m7 v') w' z' n' l' ty v'∧Fx (m7 v) w w'
structure b2g (P:Program) (f:FuncId) (args:List D) (st:Sy) (K:Sy→D→Prop):Prop where
 ex:∃z n l ty,b0n P f args z n l ty∧K ⟨st.T,(st.nk, .row z n l ty)::st.H,st.nk+1⟩ (.row st.nk z)
def R2 (ok:Nat→Prop) (w:World) (rv:List Value):List D→List Value→Prop
 | [], []=>True
 | .row i _::l,y::r=>rv[i]?=some y∧R2 ok w rv l r
 |d::l,y::r=>Rep ok w d y∧R2 ok w rv l r
 |_,_=>False
def a2C (ok:Nat→Prop) (w:World):List (Nat×Nat×List D×TypeId)→List Value→Prop
 | [], []=>True
 |(z,n,l,ty)::rs,v::vs=>a9a ok w z n l ty v∧a2C ok w rs vs
 |_,_=>False
def b3g (P:Program) (f:FuncId) (args:List D) (rows:List (Nat×Nat×List D×TypeId)) (cells:List D):Prop:=
 y5 cells=true∧∀(ok:Nat→Prop) (w:World) (vs:List Value),c8 ok w args vs→(∀b,ok b→b<w.heap.size)→
  Calls P f vs.toArray w fun e w'=>∃(a rv:List Value),e= .returned (.agg a.toArray)∧(∀b,b∈rv.flatMap m7→w.heap.size≤b∧b<w'.heap.size)∧(rv.flatMap m7).Nodup∧
   a2C (fun b=>(ok b∨(w.heap.size≤b∧b<w'.heap.size))∧b∉rv.flatMap m7) w' rows rv∧R2 (fun b=>(ok b∨(w.heap.size≤b∧b<w'.heap.size))∧b∉rv.flatMap m7) w' rv cells a∧Below w.heap.size w w'
def b5W:Nat→List (Nat×Nat×List D×TypeId)→Hy→Hy
 |_, [],H=>H
 |k,(z,n,l,ty)::rs,H=>b5W (k+1) rs ((k, .row z n l ty)::H)
def shC (nk:Nat):List D→List D
 | []=> []
 | .row i z::l=> .row (nk+i) z::shC nk l
 |d::l=>d::shC nk l
structure a3F (P:Program) (f:FuncId) (args:List D) (st:Sy) (K:Sy→D→Prop):Prop where
 ex:∃rows cells,b3g P f args rows cells∧K ⟨st.T,b5W st.nk rows st.H,st.nk+rows.length⟩ (.agg (shC st.nk cells))
structure b1I (P:Program) (f:FuncId) (k:Nat) (e:E) (fa:List D) (st:Sy) (K:Sy→D→Prop):Prop where
 ex:∃z n l ty z' n' l',e= .row z n l ty∧b2C P f z n l ty fa z' n' l'∧b3X (a4v k st.H) k (.row z' n' l' ty) fun H'=>a7E k st.T fun T'=>K ⟨T',H',st.nk⟩ (.row k z')
def c1m (P:Program) (f:FuncId) (z n:Nat) (l:List D) (ty:TypeId) (args:List D) (n':Nat) (l':List D):Prop:=
 n'=n∧∀(ok:Nat→Prop) (w:World) (v:Value) (vs:List Value),a9a ok w z n l ty v→(∀b,b∈m7 v→¬ok b)→c8 ok w args vs→(∀b,ok b→b<w.heap.size)→
  Calls P f (v::vs).toArray w fun e w'=>e= .returned (.tuple #[])∧a9a (fun b=>ok b∧b∉m7 v) w' z n l' ty v∧Fx (m7 v) w w'
structure c0T (P:Program) (f:FuncId) (k:Nat) (e:E) (fa:List D) (st:Sy) (K:Sy→D→Prop):Prop where
 ex:∃z n l ty n' l',e= .row z n l ty∧c1m P f z n l ty fa n' l'∧b3X st.H k (.row z n' l' ty) fun H'=>K ⟨st.T,H',st.nk⟩ (.tup [])
def b0j (X:Cy) (seq:Bool) (f:FuncId) (args:List D) (st:Sy) (K:Sy→D→Prop):Prop:=
 match M7 f X.ln,M7 f X.un with
 |true,_=>match seq,args with
  |true,x::rest=>match a4S (b8e st.H rest) st (x::rest)with
   |some (st', .row k _::fa)=>match P8 fa,j7 st'.H k with
    |true,some e=>b1I X.P f k e fa st' K∨c0T X.P f k e fa st' K
    |_,_=>False
   |_=>False
  |_,_=>False
 |false,true=>match seq,P8 args with
  |true,true=>b2g X.P f args st K∨a3F X.P f args st K
  |_,_=>False
 |false,false=>match P8 args with
  |true=>a3v X.P f args st K
  |false=>match a4S (b8e st.H args) st args with
   |some (st',fa)=>match P8 fa with
    |true=>a8s X.P seq f fa st st' K
    |false=>False
   |none=>False
def c0G (st:Sy) (esz:Nat) (x:D) (K:Nat→List D→Prop):Prop:=
 match x with
 | .osl k o z n _=>match Nat.beq z esz,j7 st.H k with
  |true,some (.blk cs _)=>match takeD (n*z) (dropD o cs)with
   |some l=>match U5 l with|true=>K n l|false=>False
   |none=>False
  |true,some (.row z' N r _)=>match Nat.beq z' z with
   |true=>(n=0∨o+n*z≤N*z)∧K n ((r.drop o).take (n*z))
   |false=>False
  |_,_=>False
 | .row k _=>match j7 st.H k with
  |some (.row z n l _)=>match Nat.beq z esz with|true=>K n l|false=>False
  |_=>False
 | .v (.slice none 0 0)=>K 0 []
 | .lst z n l=>match Nat.beq z esz with|true=>K n l|false=>False
 |_=>False
def c3l (e esz bytes:Nat) (s x:D) (st:Sy) (K:Sy→D→Prop):Prop:=
 match Nat.ble 1 esz with
 |false=>False
 |true=>c0G st esz x fun m l=>match s,st with
  | .v (.slice none 0 0),⟨T,H,nk⟩=>(m*bytes≤140737488355328∧m≤9223372036854775807)∧∃r' n',(l=r'∧m=n')∧K ⟨T,(nk, .row esz n' r' e)::H,nk+1⟩ (.row nk esz)
  | .row k _,⟨T,H,nk⟩=>match j7 H k with
   |some (.row z n r ty)=>match Nat.beq z esz,Nat.beq ty e with
    |true,true=>((n+m)*bytes≤140737488355328∧n+m≤9223372036854775807)∧∃r' n',(r++l=r'∧n+m=n')∧b3X (a4v k H) k (.row esz n' r' e) fun H'=>a7E k T fun T'=>K ⟨T',H',nk⟩ (.row k esz)
    |_,_=>False
   |_=>False
  | .osl k o z0 n c,⟨T,H,nk⟩=>match Nat.beq o 0,Nat.beq c 0,Nat.beq z0 esz,j7 H k with
   |true,true,true,some (.row z N r ty)=>match Nat.beq z esz,Nat.beq ty e with
    |true,true=>(0<N∧n≤N∧(n+m)*bytes≤140737488355328∧n+m≤9223372036854775807)∧∃r' n',(r.take (n*z)++l=r'∧n+m=n')∧b3X (a4v k H) k (.row esz n' r' e) fun H'=>a7E k T fun T'=>K ⟨T',H',nk⟩ (.row k esz)
    |_,_=>False
   |_,_,_,_=>False
  |_,_=>False
def a6a (X:Cy) (seq:Bool) (st:Sy) (dst:Option Nat) (K:Sy→Prop) (o:a5X):Prop:=
 match o with
 | .val s=>R5 X st dst s K
 | .new cs ty sl=>match st with
  |⟨T,H,nk⟩=>R5 X ⟨T,(nk, .blk cs ty)::H,nk+1⟩ dst (match sl with|none=> .own nk 0|some (z,n)=> .osl nk 0 z n n) K
 | .newR l ty z n=>match st with
  |⟨T,H,nk⟩=>R5 X ⟨T,(nk, .row z n l ty)::H,nk+1⟩ dst (.row nk z) K
 | .call f args=>match M7 f X.inl with
  |true=>match seq with
   |true=>K1 X f args dst st K
   |false=>False
  |false=>b0j X seq f args st fun st' s=>R5 X st' dst s K
 | .upd k cs=>match st,j7 st.H k with
  |⟨T,H,nk⟩,some (.blk _ ty)=>b3X H k (.blk cs ty) fun H'=>R5 X ⟨T,H',nk⟩ dst .und K
  |_,_=>False
 | .updR k l=>match st,j7 st.H k with
  |⟨T,H,nk⟩,some (.row z n _ ty)=>b3X H k (.row z n l ty) fun H'=>R5 X ⟨T,H',nk⟩ dst .und K
  |_,_=>False
 | .app e esz bytes s x=>c3l e esz bytes s x st fun st' s=>R5 X st' dst s K
def a2n (ops:List Oper) (g:Option (Nat×Bool)) (st:Sy) (yes no:Sy→Prop):Prop:=
 match g with
 |none=>yes st
 |some (j,want)=>match b1v ops j with
  |some d=>match a9r st.T d with
   |some (.v (.bool b))=>match st with
    |⟨T,H,nk⟩=>VIf b
     (match want with|true=>yes ⟨(d, .v (.bool true))::T,H,nk⟩|false=>no ⟨(d, .v (.bool true))::T,H,nk⟩)
     (match want with|true=>no ⟨(d, .v (.bool false))::T,H,nk⟩|false=>yes ⟨(d, .v (.bool false))::T,H,nk⟩)
   |some .und=>no st
   |_=>False
  |none=>False
def b4D (X:Cy) (ops:List Oper):List Oper→Sy→(Sy→Prop)→Prop
 | [],st,K=>K st
 |o::rest,st,K=>a2n ops o.guard st
  (fun st=>y1 X st o.op (a6a X true st o.dst fun st=>b4D X ops rest st K))
  (fun st=>R5 X st o.dst .und fun st=>b4D X ops rest st K)
def c4U:D→Option Nat
 | .own k _=>some k
 | .ownx k _=>some k
 | .elr k _ _ _=>some k
 |_=>none
def b1P:a5X→Option Nat
 | .upd k _=>some k
 | .updR k _=>some k
 | .app _ _ _ (.row k _) _=>some k
 | .app _ _ _ (.osl k _ _ _ _) _=>some k
 |_=>none
def rdY (fl:Bool) (i:Nat) (op:Op) (st:Sy) (pr:List (Nat×Option Nat)) (K:List (Nat×Option Nat)→Prop):Prop:=
 match op with
 | .load _ p=>match evY st p with
  |some s=>match c4U s with
   |some k=>K ((i,some k)::pr)
   |none=>match s with
    | .ptr _ _=>K ((i,none)::pr)
    |_=>False
  |none=>False
 | .lookup _ _ _ _=>False
 |_=>K pr
def b5t (X:Cy) (i:Nat) (S:List Nat) (fl:Bool) (pr:List (Nat×Option Nat)) (o:Oper) (st:Sy) (K:Sy→List (Nat×Option Nat)→Prop) (out:a5X):Prop:=
 match a6G o with
 |true=>(match out with| .val s=>rdY fl i o.op st pr fun pr=>R5 X st o.dst s fun st=>K st pr|_=>False)
 |false=>match C5 o with
  |true=>(match out with| .new _ _ none=>a6a X false st o.dst (fun st=>K st pr) out| .newR _ _ _ _=>a6a X false st o.dst (fun st=>K st pr) out|_=>False)
  |false=>match a0Z o with
   |true=>(match out with| .call _ _=>a6a X false st o.dst (fun st=>K st pr) out|_=>False)
   |false=>(match out with
    | .call _ _=>False
    |out=>match b1P out with
     |some k=>match b5H pr S k with|true=>a6a X false st o.dst (fun st=>K st pr) out|false=>False
     |none=>a6a X false st o.dst (fun st=>K st pr) out)
def b5d (X:Cy) (S:List Nat) (st:Sy) (dst:Option Nat) (K:Sy→Prop) (o:a5X):Prop:=
 match S with
 | []=>a6a X true st dst K o
 |_::_=>match o with
  | .call f args=>match M7 f X.inl,M7 f X.ln with
   |false,false=>b0j X true f args st fun st' s=>R5 X st' dst s K
   |_,_=>False
  |_=>False
def b3C (X:Cy) (ops:List Oper) (rest:PT) (i:Nat) (S:List Nat) (fl:Bool) (pr:List (Nat×Option Nat)) (o:Oper) (st:Sy) (K:Sy→List (Nat×Option Nat)→Prop):Prop:=
 match a0Z o,fl with
 |true,true=>y1 X st o.op (b5d X S st o.dst fun st=>match st with|⟨T,H,nk⟩=>K ⟨a1V .bad ops (b4o rest) T,H,nk⟩ pr)
 |_,_=>y1 X st o.op (b5t X i S fl pr o st K)
def a5P (X:Cy) (ops:List Oper):PT→Sy→List (Nat×Option Nat)→(Sy→Prop)→Prop
 | .nil,st,_,K=>K st
 | .op i S fl rest,st,pr,K=>match b2Q ops i with
  |some o=>a2n ops o.guard st
   (fun st=>b3C X ops rest i S fl pr o st fun st pr=>a5P X ops rest st pr K)
   (fun st=>R5 X st o.dst .und fun st=>a5P X ops rest st pr K)
  |none=>False
 | .fork a b,st,pr,K=>a5P X ops a st pr K∧a5P X ops b st pr K
def a6j:List Oper→List (Nat×D)→List (Nat×D)
 | [],T=>T
 |o::l,T=>match C5 o,o.dst with
  |true,some d=>(d, .bad)::a6j l T
  |_,_=>a6j l T
structure u4 (body:Sy→(Exit→Sy→Prop)→Prop) (st:Sy) (K:Exit→Sy→Prop):Prop where
 ex:∃(α:Type) (f:α→Sy) (inv:α→Prop) (μ:α→Nat),
  (∃x,c5 st (f x)∧inv x)∧
  ∀x,inv x→body (f x) fun e st2=>match e with
   | .normal=>∃y,c5 st2 (f y)∧inv y∧μ y<μ x
   |e=>K e st2
def O9 (X:Cy):Code→Sy→(Exit→Sy→Prop)→Prop
 | .skip,st,K=>K .normal st
 | .region id ops draw,st,K=>match draw with
  |false=>b4D X ops.toList ops.toList st (K .normal)
  |true=>match b7k X.pl id with
   |some p=>a6k X.tt X.nt ops p=true∧(match st with|⟨T,H,nk⟩=>a5P X ops.toList p ⟨a6j ops.toList T,H,nk⟩ [] (K .normal))
   |none=>False
 | .seq a b,st,K=>O9 X a st fun e st'=>match e with
  | .normal=>O9 X b st' K
  |e=>K e st'
 | .cond c t e,st,K=>match evY st c with
  |some (.v (.bool b))=>VIf b (O9 X t st K) (O9 X e st K)
  |_=>False
 | .block id c,st,K=>O9 X c st fun e st'=>match e with
  | .exit j=>match Nat.beq j id with
   |true=>K .normal st'
   |false=>K (.exit j) st'
  |e=>K e st'
 | .loop c,st,K=>u4 (O9 X c) st K
 | .exit id,st,K=>K (.exit id) st
 | .ret,st,K=>K .ret st
 | .scope c,st,K=>O9 X c st K
 | .label _,st,K=>K .normal st
 |_,_,_=>False
structure d0 (r:D) (Q:D→Prop):Prop where
 ex:∃r',leD r r'∧Q r'
def a2E (st:Sy) (r:D) (Q:D→Prop):Prop:=
 match Z6 r with
 |true=>d0 r Q
 |false=>match a4S (b8e st.H [r]) st [r]with
  |some (_, [r'])=>match Z6 r' with
   |true=>d0 r' Q
   |false=>False
  |_=>False
def b9d (X:Cy) (rs:List ResultVar) (Q:D→Prop) (e:Exit) (st:Sy):Prop:=
 match e with
 | .normal=>match a0I X st rs with
  |some [s]=>a2E st s Q
  |some l=>a2E st (.tup l) Q
  |none=>False
 | .ret=>match a0I X st rs with
  |some [s]=>a2E st s Q
  |some l=>a2E st (.tup l) Q
  |none=>False
 |_=>False
end Go.Sx
namespace Go.Sx
open Go Go.RowKit
mutual
theorem c4.mentE {ok:Nat→Prop} {w:World} {R:Bool→Nat→Prop} (k:Nat):∀(d:D) (s:SV),c4 ok w R d s→ment k s=a2T k d
 | .v x,s,h=>by simp only [c4]at h;rw [h.1];rfl
 | .agg l,s,h=>by
  simp only [c4]at h
  obtain⟨cs,h1,h2,_⟩:=h
  have:=c0.mentE k l _ h2
  cases s<;>simp [a4a]at h1
  · rename_i x;cases x<;>simp at h1
    subst h1;rw [b0z]at this;simp only [a2T,←this];rfl
  · subst h1;simpa [ment,a2T]using this
 | .lst z n l,s,h=>by simp only [c4]at h;obtain⟨y,rfl,_⟩:=h;rfl
 | .ptr l o,s,h=>by simp only [c4]at h;obtain⟨y,rfl,_⟩:=h;rfl
 | .own j o,s,h=>by simp only [c4]at h;rw [h.1];rfl
 | .ownx j o,s,h=>by simp only [c4]at h;rw [h.1];rfl
 | .row j z,s,h=>by simp only [c4]at h;rw [h.1];rfl
 | .elr j z i o,s,h=>by simp only [c4]at h;rw [h.1];rfl
 | .osl j o z n c,s,h=>by simp only [c4]at h;rw [h.1];rfl
 | .tup l,s,h=>by
  simp only [c4]at h
  rcases h with⟨cs,rfl,h2⟩|⟨a,rfl,h2⟩
  · have:=c0.mentE k l _ h2;simpa [ment,a2T]using this
  · have:=c0.mentE k l _ h2;rw [b0z]at this;simp only [a2T,←this];rfl
 | .fn f a b,s,h=>by
  simp only [c4]at h
  rcases h with⟨p,q,rfl,h2,h3⟩|⟨p,q,rfl,h2,h3⟩
  · have e1:=c0.mentE k a _ h2;have e2:=c0.mentE k b _ h3
    simp only [ment,a2T,e1,e2];cases a6K k a<;>rfl
  · have e1:=c0.mentE k a _ h2;have e2:=c0.mentE k b _ h3
    rw [b0z]at e1 e2
    simp only [a2T,←e1,←e2];rfl
 | .mp l,s,h=>by simp only [c4]at h;obtain⟨y,rfl,_⟩:=h;rfl
 | .und,s,h=>by simp only [c4]at h;rw [h];rfl
 | .bad,s,h=>by simp only [c4]at h;rw [h];rfl
theorem c0.mentE {ok:Nat→Prop} {w:World} {R:Bool→Nat→Prop} (k:Nat):∀(l:List D) (r:List SV),c0 ok w R l r→J8 k r=a6K k l
 | [], [],_=>rfl
 |d::l,y::r,h=>by
  simp only [c0]at h;simp only [J8,a6K,c4.mentE k d y h.1,c0.mentE k l r h.2];cases a2T k d<;>rfl
 | [],_::_,h=>by simp [c0]at h
 |_::_, [],h=>by simp [c0]at h
end
theorem b1n {ok:Nat→Prop} {w:World} {R:Bool→Nat→Prop} {k:Nat} {l:List D} {r:List SV} (h:c0 ok w R l r):c0 ok w R (b7g k l) (a9U k r):=by
 induction l generalizing r with
 |nil=>cases r with
  |nil=>trivial
  |cons=>simp [c0]at h
 |cons d l ih=>cases r with
  |nil=>simp [c0]at h
  |cons s r=>
   simp only [c0]at h
   refine⟨?_,ih h.2⟩
   simp only [a8K,a9x,h.1.mentE k]
   cases a2T k d
   · exact h.1
   · simp only [c4]
theorem b2z {k:Nat} {T:List (Nat×SV)} {d:Nat} {s:SV} (h:w3 T d=some s):w3 (a0E k T) d=some (a9x k s):=by
 induction T with
 |nil=>simp [w3]at h
 |cons x T ih=>
  obtain⟨d',s'⟩:=x
  simp only [w3,a0E]at h⊢
  split at h
  · cases h;rfl
  · exact ih h
def a5r (k:Nat):List (Nat×D)→List (Nat×D)
 | []=> []
 |(d,s)::T=>(d,a8K k s)::a5r k T
theorem a9w {k:Nat} {T:List (Nat×D)} {K:List (Nat×D)→Prop}:a7E k T K=K (a5r k T):=by
 induction T generalizing K with
 |nil=>rfl
 |cons x T ih=>
  obtain⟨d,s⟩:=x
  simp only [a7E,a5r,a8K]
  split<;>rw [ih]
theorem b1Z {k:Nat} {T:List (Nat×D)} {d:Nat} {x:D} (h:q8 (a5r k T) d=some x):∃y,q8 T d=some y∧x=a8K k y:=by
 induction T with
 |nil=>simp [q8,a5r]at h
 |cons q T ih=>
  obtain⟨d',s'⟩:=q
  simp only [q8,a5r]at h⊢
  split at h
  · cases h;exact⟨_,rfl,rfl⟩
  · exact ih h
theorem a9S {j k:Nat} {T:List (Nat×SV)} (h:s9 j T=true):s9 j (a0E k T)=true:=by
 induction T with
 |nil=>rfl
 |cons x T ih=>
  obtain⟨d,s⟩:=x
  simp only [s9,a0E]at h⊢
  split at h
  · cases h
  · rename_i hm
    have:ment j (a9x k s)=false:=by unfold a9x;split;rfl;exact hm
    rw [this];exact ih h
theorem b6u {j k:Nat} {l:List SV} (h:J8 j l=false):J8 j (a9U k l)=false:=by
 induction l with
 |nil=>rfl
 |cons s l ih=>
  simp only [J8,a9U]at h⊢
  split at h
  · cases h
  · rename_i hm
    have:ment j (a9x k s)=false:=by unfold a9x;split;rfl;exact hm
    rw [this];exact ih h
theorem b0b {j k:Nat} {H:Hp} (h:E0 j H=true):E0 j (A2 k H)=true:=by
 induction H with
 |nil=>rfl
 |cons x H ih=>
  obtain⟨i,e⟩:=x
  cases e with
  |blk b cs ty=>
   simp only [E0,A2,a0D]at h⊢
   split at h
   · cases h
   · rename_i hm
     rw [b6u hm];exact ih h
  |row v n xs sz ty=>simp only [E0,A2,a0D]at h⊢;exact ih h
def a0x:Hp→Nat→Ent→Hp
 | [],_,_=> []
 |(k',e')::H,k,e=>match Nat.beq k' k with|true=>(k',e)::H|false=>(k',e')::a0x H k e
def b0w:Hy→Nat→E→Hy
 | [],_,_=> []
 |(k',e')::H,k,e=>match Nat.beq k' k with|true=>(k',e)::H|false=>(k',e')::b0w H k e
theorem a5k {H:Hp} {k:Nat} {e e0:Ent} {K:Hp→Prop} (h:c7 H k=some e0) (hK:K (a0x H k e)):a9h H k e K:=by
 induction H generalizing K with
 |nil=>simp [c7]at h
 |cons x H ih=>
  obtain⟨k',e'⟩:=x
  simp only [c7,a9h,a0x]at h hK⊢
  split
  · rename_i hb;rw [hb]at hK;exact hK
  · rename_i hb;rw [hb]at hK h;exact ih h hK
theorem a3j {H:Hy} {k:Nat} {e:E} {K:Hy→Prop} (h:b3X H k e K):K (b0w H k e):=by
 induction H generalizing K with
 |nil=>exact h.elim
 |cons x H ih=>
  obtain⟨k',e'⟩:=x
  simp only [b3X,b0w]at h⊢
  split at h
  · rename_i hb
    try rw [hb]
    exact h
  · rename_i hb
    try rw [hb]
    exact ih h
theorem a0r {H:Hp} {k j:Nat} {e e0:Ent} (h:c7 H k=some e0):c7 (a0x H k e) j=if j=k then some e else c7 H j:=by
 induction H with
 |nil=>simp [c7]at h
 |cons x H ih=>
  obtain⟨k',e'⟩:=x
  simp only [c7,a0x]at h⊢
  cases hb:Nat.beq k' k with
  |true=>
   have:=u7 hb;subst this
   simp only [c7]
   by_cases hj:j=k'
   · subst hj;simp
   · rw [if_neg hj,U0 (Ne.symm hj)]
  |false=>
   rw [hb]at h
   simp only [c7]
   by_cases hj:j=k
   · subst hj;rw [hb];simp only;rw [ih h];simp
   · cases hb2:Nat.beq k' j with
     |true=>simp [hj]
     |false=>simp only;rw [ih h]
theorem a9t {H:Hy} {k j:Nat} {e x:E} (h:j7 (b0w H k e) j=some x):(j=k∧x=e)∨(j≠k∧j7 H j=some x):=by
 induction H with
 |nil=>simp [j7,b0w]at h
 |cons q H ih=>
  obtain⟨k',e'⟩:=q
  simp only [b0w]at h
  cases hb:Nat.beq k' k with
  |true=>
   have:=u7 hb;subst this
   rw [hb]at h
   simp only [j7]at h⊢
   cases hb2:Nat.beq k' j with
   |true=>rw [hb2]at h;cases h;exact .inl ⟨(u7 hb2).symm,rfl⟩
   |false=>rw [hb2]at h;exact .inr ⟨fun e=>a2p hb2 e.symm,h⟩
  |false=>
   rw [hb]at h
   simp only [j7]at h⊢
   cases hb2:Nat.beq k' j with
   |true=>rw [hb2]at h;cases h;exact .inr ⟨fun e=>by subst e;exact a2p hb (u7 hb2),rfl⟩
   |false=>rw [hb2]at h;exact ih h
theorem a9A {H:Hp} {k c:Nat} {e:Ent} (h:c∈bs (a0x H k e)):c∈bs H∨c∈bsE e:=by
 induction H with
 |nil=>simp [a0x,bs]at h
 |cons x H ih=>
  obtain⟨k',e'⟩:=x
  simp only [a0x]at h
  split at h
  · simp only [bs,List.mem_append]at h⊢
    rcases h with h|h
    · exact .inr h
    · exact .inl (.inr h)
  · simp only [bs,List.mem_append]at h⊢
    rcases h with h|h
    · exact .inl (.inl h)
    · rcases ih h with h|h
      · exact .inl (.inr h)
      · exact .inr h
def a5D (j:Nat):Ent→Bool
 | .blk _ cs _=> !J8 j cs
 | .row _ _ _ _ _=>true
theorem V2 {j k:Nat} {e:Ent} {H:Hp} (he:a5D j e=true) (h:E0 j H=true):E0 j ((k,e)::H)=true:=by
 cases e with
 |blk b cs ty=>simp only [a5D,Bool.not_eq_true']at he;simp only [E0,he];exact h
 |row v n xs sz ty=>exact h
theorem b6Z {j k:Nat} {e:Ent} {H:Hp} (h:E0 j ((k,e)::H)=true):a5D j e=true∧E0 j H=true:=by
 cases e with
 |blk b cs ty=>
  simp only [E0]at h
  split at h
  · cases h
  · rename_i hm;exact⟨by simp [a5D,hm],h⟩
 |row v n xs sz ty=>exact⟨rfl,h⟩
theorem a7G {j k:Nat} {e:Ent} {H:Hp} (he:a5D j e=true) (h:E0 j H=true):E0 j (a0x H k e)=true:=by
 induction H with
 |nil=>rfl
 |cons x H ih=>
  obtain⟨k',e'⟩:=x
  obtain⟨h1,h2⟩:=b6Z h
  simp only [a0x]
  split
  · exact V2 he h2
  · exact V2 h1 (ih h2)
theorem b2D {H:Hy} {k j:Nat} {x:E} (h:j7 (a4v k H) j=some x):∃y,j7 H j=some y∧x=b4S k y:=by
 induction H with
 |nil=>simp [j7,a4v]at h
 |cons q H ih=>
  obtain⟨k',e'⟩:=q
  simp only [j7,a4v]at h⊢
  split at h
  · cases h;exact⟨_,rfl,rfl⟩
  · exact ih h
section
variable {A : Nat → Prop} {X : Cy} {w0 : World} {bor : List Nat} {st : St} {sy : Sy} {KY : Sy → Prop}
theorem a8N {st:St} {j:Nat} (h:st.nk≤j) (q:Bool):¬y7 st q j:=fun hk=>by have:=hk.1;omega
theorem Sim.mono {st st':St} {T:List (Nat×D)} {H:Hy} {nk:Nat} (hs:Sim A st ⟨T,H,nk⟩) (hok:∀b,okS A st b→okS A st' b∧st'.w.heap[b]?=st.w.heap[b]?) (hk:∀q k,y7 st q k→y7 st' q k)
 (hT:∀d s,w3 st.T d=some s→w3 st'.T d=some s) (hH:∀k e,c7 st.H k=some e→c7 st'.H k=some e) (hn:st'.nk=st.nk) (fT:∀j,st'.nk≤j→s9 j st'.T=true) (fH:∀j,st'.nk≤j→E0 j st'.H=true):Sim A st' ⟨T,H,nk⟩:=by
 refine⟨fun d x hx=> ?_,fun k e he=> ?_,by rw [hn];exact hs.nk,fT,fH⟩
 · rcases hs.T d x hx with h|⟨s,h1,h2⟩
   · exact .inl h
   · exact .inr ⟨s,hT d s h1,c4.mono hok hk _ _ h2⟩
 · obtain⟨e',h1,h2⟩:=hs.H k e he
   refine⟨e',hH k e' h1, ?_⟩
   cases e<;>cases e'<;>simp only [a2Q]at h2⊢
   · exact⟨h2.1,c0.mono hok hk _ _ h2.2⟩
   · exact⟨h2.1,h2.2.1,h2.2.2.1,c8.mono hok _ _ h2.2.2.2.1,h2.2.2.2.2⟩
theorem a2Q.mono {ok ok':Nat→Prop} {w w':World} {R R':Bool→Nat→Prop} (hok:∀b,ok b→ok' b∧w'.heap[b]?=w.heap[b]?) (hk:∀q k,R q k→R' q k) {e:E} {e':Ent} (h:a2Q ok w R e e'):a2Q ok' w' R' e e':=by
 cases e<;>cases e'<;>simp only [a2Q]at h⊢
 · exact⟨h.1,c0.mono hok hk _ _ h.2⟩
 · exact⟨h.1,h.2.1,h.2.2.1,c8.mono hok _ _ h.2.2.2.1,h.2.2.2.2⟩
theorem F8 {dst:Option Nat} {x:D} {s:SV} (h:R5 X sy dst x KY) (hs:Sim A st sy) (hr:c4 (okS A st) st.w (y7 st) x s):put (cx X w0 bor) st dst s fun st'=>∃sy',KY sy'∧Sim A st' sy':=by
 unfold R5 at h
 cases dst with
 |none=>exact⟨sy,h,hs⟩
 |some d=>
  obtain⟨T,H,nk⟩:=sy
  obtain⟨T',H',nk',w,lo,iv⟩:=st
  simp only at h
  simp only [put,cx]
  split at h
  · rename_i hd heq
    cases heq
    rw [hd]
    refine⟨_,h,fun d' x' hx'=> ?_,hs.H,hs.nk,fun j hj=> ?_,hs.fH⟩
    · simp only [q8]at hx'
      simp only [w3]
      cases hb:Nat.beq d d' with
      |true=>rw [hb]at hx';cases hx';exact .inr ⟨s,rfl,hr⟩
      |false=>rw [hb]at hx';exact hs.T d' x' hx'
    · simp only [s9,hr.ment (fun q=>a8N hj q)]
      exact hs.fT j hj
  · exact h.elim
theorem c2s {T:List (Nat×D)} {H:Hy} {nk:Nat} {T':List (Nat×SV)} {H':Hp} {nk':Nat} {w:World} {lo:Nat} {iv:List (Nat×Nat)} {b:Nat} {cs:List D} {cs':List SV} {ty:TypeId}
 (hs:Sim A ⟨T',H',nk',w,lo,iv⟩ ⟨T,H,nk⟩) (hr:c0 (okS A ⟨T',H',nk',w,lo,iv⟩) w (y7 ⟨T',H',nk',w,lo,iv⟩) cs cs') (hb:lo≤b) (hiv:a4R iv b):
 Sim A ⟨T',(nk', .blk b cs' ty)::H',nk'+1,w,lo,iv⟩ ⟨T,(nk, .blk cs ty)::H,nk+1⟩:=by
 have hnk:nk=nk':=hs.nk
 subst hnk
 have hok:∀c,okS A ⟨T',H',nk,w,lo,iv⟩ c→okS A ⟨T',(nk, .blk b cs' ty)::H',nk+1,w,lo,iv⟩ c∧w.heap[c]?=w.heap[c]?:=by
  intro c ⟨h1,h2,h3⟩
  refine⟨⟨h1,h2,fun x hx=> ?_⟩,rfl⟩
  simp only [bs,bsE,List.mem_append,List.mem_singleton]at hx
  rcases hx with rfl|hx
  · intro e;subst e
    rcases h1 with h1|⟨p,hp,h4,h5⟩
    · simp only at h1;omega
    · simp only at hp
      clear hr hs h2 h3
      induction iv with
      |nil=>cases hp
      |cons y l ih=>
       simp only [a4R]at hiv
       rcases List.mem_cons.1 hp with rfl|hp
       · omega
       · exact ih hiv.2 hp
  · exact h3 x hx
 have hk:∀q k,y7 ⟨T',H',nk,w,lo,iv⟩ q k→y7 ⟨T',(nk, .blk b cs' ty)::H',nk+1,w,lo,iv⟩ q k:=by
  intro q k ⟨h1,h2⟩
  simp only at h1
  refine⟨by simp only;omega,fun hq=> ?_⟩
  simp only
  rw [R8 (by omega)]
  exact h2 hq
 refine⟨fun d x hx=> ?_,fun k e he=> ?_,rfl,fun j hj=>hs.fT j (by simp only at hj⊢;omega),fun j hj=> ?_⟩
 · rcases hs.T d x hx with h|⟨s,h1,h2⟩
   · exact .inl h
   · exact .inr ⟨s,h1,c4.mono hok hk _ _ h2⟩
 · simp only [j7]at he
   simp only [c7]
   cases hb:Nat.beq nk k with
   |true=>
    rw [hb]at he;cases he
    exact⟨_,rfl,by exact⟨rfl,c0.mono hok hk _ _ hr⟩⟩
   |false=>
    rw [hb]at he
    obtain⟨e',h1,h2⟩:=hs.H k e he
    exact⟨e',h1,a2Q.mono hok hk h2⟩
 · simp only at hj
   refine V2 ?_ (hs.fH j (by simp only;omega))
   simp only [a5D,Bool.not_eq_true']
   exact c0.ment (fun q=>a8N (st:=⟨T',H',nk,w,lo,iv⟩) (by simp only;omega) q) _ _ hr
theorem c0v {T:List (Nat×D)} {H:Hy} {nk:Nat} {T':List (Nat×SV)} {H':Hp} {nk':Nat} {w:World} {lo:Nat} {iv:List (Nat×Nat)} {b:Nat} {l:List D} {xs:List Value} {z n:Nat} {ty:TypeId}
 (hs:Sim A ⟨T',H',nk',w,lo,iv⟩ ⟨T,H,nk⟩) (hr:c8 (okS A ⟨T',H',nk',w,lo,iv⟩) w l xs) (hfl:y5 l=true) (hlen:l.length=n*z) (hb:lo≤b) (hiv:a4R iv b):
 Sim A ⟨T',(nk', .row (.slice (some ⟨b,0,none⟩) n n) n xs z ty)::H',nk'+1,w,lo,iv⟩ ⟨T,(nk, .row z n l ty)::H,nk+1⟩:=by
 have hnk:nk=nk':=hs.nk
 subst hnk
 have hok:∀c,okS A ⟨T',H',nk,w,lo,iv⟩ c→okS A ⟨T',(nk, .row (.slice (some ⟨b,0,none⟩) n n) n xs z ty)::H',nk+1,w,lo,iv⟩ c∧w.heap[c]?=w.heap[c]?:=by
  intro c ⟨h1,h2,h3⟩
  refine⟨⟨h1,h2,fun x hx=> ?_⟩,rfl⟩
  simp only [bs,bsE,m7,List.mem_append,List.mem_singleton]at hx
  rcases hx with rfl|hx
  · intro e;subst e
    rcases h1 with h1|⟨p,hp,h4,h5⟩
    · simp only at h1;omega
    · simp only at hp
      clear hr hs h2 h3
      induction iv with
      |nil=>cases hp
      |cons y l ih=>
       simp only [a4R]at hiv
       rcases List.mem_cons.1 hp with rfl|hp
       · omega
       · exact ih hiv.2 hp
  · exact h3 x hx
 have hk:∀q k,y7 ⟨T',H',nk,w,lo,iv⟩ q k→y7 ⟨T',(nk, .row (.slice (some ⟨b,0,none⟩) n n) n xs z ty)::H',nk+1,w,lo,iv⟩ q k:=by
  intro q k ⟨h1,h2⟩
  simp only at h1
  refine⟨by simp only;omega,fun hq=> ?_⟩
  simp only
  rw [R8 (by omega)]
  exact h2 hq
 refine⟨fun d x hx=> ?_,fun k e he=> ?_,rfl,fun j hj=>hs.fT j (by simp only at hj⊢;omega),fun j hj=> ?_⟩
 · rcases hs.T d x hx with h|⟨s,h1,h2⟩
   · exact .inl h
   · exact .inr ⟨s,h1,c4.mono hok hk _ _ h2⟩
 · simp only [j7]at he
   simp only [c7]
   cases hb:Nat.beq nk k with
   |true=>
    rw [hb]at he;cases he
    exact⟨_,rfl,by exact⟨rfl,rfl,rfl,c8.mono hok _ _ hr,hfl,hlen⟩⟩
   |false=>
    rw [hb]at he
    obtain⟨e',h1,h2⟩:=hs.H k e he
    exact⟨e',h1,a2Q.mono hok hk h2⟩
 · simp only at hj
   exact V2 rfl (hs.fH j (by simp only;omega))
theorem b4p {T:List (Nat×D)} {H:Hy} {nk:Nat} {T':List (Nat×SV)} {H':Hp} {nk':Nat} {w:World} {lo:Nat} {iv:List (Nat×Nat)} {k:Nat} {e:E} {e0 e':Ent}
 (hs:Sim A ⟨T',H',nk',w,lo,iv⟩ ⟨T,H,nk⟩) (hf:c7 H' k=some e0) (hr:a2Q (okS A ⟨T',H',nk',w,lo,iv⟩) w (y7 ⟨T',H',nk',w,lo,iv⟩) e e') (hb:bsE e'=bsE e0)
 (hrow:(∃v n xs sz ty,e0= .row v n xs sz ty)→∃v n xs sz ty,e'= .row v n xs sz ty) (hfe:∀j,nk'≤j→a5D j e'=true):
 Sim A ⟨T',a0x H' k e',nk',w,lo,iv⟩ ⟨T,b0w H k e,nk⟩:=by
 have hok:∀c,okS A ⟨T',H',nk',w,lo,iv⟩ c→okS A ⟨T',a0x H' k e',nk',w,lo,iv⟩ c∧w.heap[c]?=w.heap[c]?:=by
  intro c ⟨h1,h2,h3⟩
  refine⟨⟨h1,h2,fun x hx=> ?_⟩,rfl⟩
  rcases a9A hx with hx|hx
  · exact h3 x hx
  · rw [hb]at hx;exact h3 x (y0.2 ⟨k,e0,l6 hf,hx⟩)
 have hk:∀q j,y7 ⟨T',H',nk',w,lo,iv⟩ q j→y7 ⟨T',a0x H' k e',nk',w,lo,iv⟩ q j:=by
  intro q j ⟨h1,h2⟩
  refine⟨h1,fun hq=> ?_⟩
  simp only
  rw [a0r hf]
  obtain⟨v,n,xs,sz,ty,h3⟩:=h2 hq
  split
  · rename_i hjk
    subst hjk
    simp only at h3
    rw [hf]at h3;cases h3
    obtain⟨v,n,xs,sz,ty,rfl⟩:=hrow ⟨_,_,_,_,_,rfl⟩
    exact⟨_,_,_,_,_,rfl⟩
  · exact⟨_,_,_,_,_,h3⟩
 refine⟨fun d x hx=> ?_,fun j x hx=> ?_,hs.nk,hs.fT,fun j hj=>a7G (hfe j hj) (hs.fH j hj)⟩
 · rcases hs.T d x hx with h|⟨s,h1,h2⟩
   · exact .inl h
   · exact .inr ⟨s,h1,c4.mono hok hk _ _ h2⟩
 · simp only
   rw [a0r hf]
   rcases a9t hx with⟨rfl,rfl⟩|⟨hne,hx⟩
   · exact⟨e',by simp,a2Q.mono hok hk hr⟩
   · obtain⟨e1,h1,h2⟩:=hs.H j x hx
     exact⟨e1,by rw [if_neg hne];exact h1,a2Q.mono hok hk h2⟩
end
end Go.Sx
namespace Go.Sx
open Go Go.RowKit
section
variable {A : Nat → Prop} {X : Cy} {w0 : World} {bor : List Nat} {st : St} {sy : Sy} {KY : Sy → Prop}
theorem c0I {esz:Nat} {x:D} {s:SV} {Kn:Nat→List D→Prop} (h:c0G sy esz x Kn) (hs:Sim A st sy) (hr:c4 (okS A st) st.w (y7 st) x s):
 ∃m l news,Kn m l∧a3y (cx X w0 bor) st esz s m news∧c8 (okS A st) st.w l news∧y5 l=true∧l.length=m*esz:=by
 unfold c0G at h
 split at h
 · rename_i k o z n c
   simp only [c4]at hr
   obtain⟨rfl,_⟩:=hr
   split at h
   · rename_i cs ty hz hf
     obtain rfl:=u7 hz
     obtain⟨e',hf',he⟩:=hs.H _ _ hf
     cases e' with
     |row=>exact he.elim
     |blk b cs' ty'=>
      split at h
      · rename_i l hl
        split at h
        · rename_i hno
          obtain⟨r,h1,h2⟩:=(he.2.dropD o).takeD hl
          obtain⟨xs,rfl,h3⟩:=h2.vals hno
          refine⟨n,l,xs,h, ?_,h3,a6W hno,(b2w hl).1⟩
          simp only [a3y,hf']
          exact⟨trivial,vs xs,h1,h2.one (b3P st) (a6W hno),(J3 _ _).symm⟩
        · exact h.elim
      · exact h.elim
   · rename_i z' N r ty hz hf
     obtain rfl:=u7 hz
     obtain⟨e',hf',he⟩:=hs.H _ _ hf
     cases e' with
     |blk=>exact he.elim
     |row v n' xs z2 ty'=>
      obtain⟨rfl,rfl,rfl,hrep,hfl,hlen⟩:=he
      split at h
      · rename_i hzz
        obtain rfl:=u7 hzz
        obtain⟨hb,h⟩:=h
        refine⟨n,_,(xs.drop o).take (n*z'),h, ?_,(hrep.drop _).take _,a6S hfl fun d hd=>List.mem_of_mem_drop (List.mem_of_mem_take hd), ?_⟩
        · simp only [a3y,hf']
          exact⟨trivial,trivial,hb,trivial,hrep.one hfl⟩
        · rcases hb with rfl|hb
          · simp
          · simp only [List.length_take,List.length_drop];omega
      · exact h.elim
   · exact h.elim
 · rename_i k z0
   simp only [c4]at hr
   obtain⟨rfl,_⟩:=hr
   split at h
   · rename_i z n l ty hf
     obtain⟨e',hf',he⟩:=hs.H _ _ hf
     cases e' with
     |blk=>exact he.elim
     |row v n' xs z' ty'=>
      obtain⟨rfl,rfl,rfl,hrep,hfl,hlen⟩:=he
      split at h
      · rename_i hz
        obtain rfl:=u7 hz
        refine⟨n,l,xs,h, ?_,hrep,hfl,hlen⟩
        simp only [a3y,hf']
        exact⟨trivial,trivial,trivial,hrep.one hfl⟩
      · exact h.elim
   · exact h.elim
 · have:=hr.sc;subst this
   exact⟨0, [], [],h,by simp [a3y],trivial,rfl,by simp⟩
 · rename_i z n l
   simp only [c4,Rep]at hr
   obtain⟨y,rfl,a,c,rfl,hnc,hmx,hlen,hfl,hmem⟩:=hr
   split at h
   · rename_i hz
     obtain rfl:=u7 hz
     rcases hmem with rfl|⟨b,o,xs,rfl,hok,hrep,hcell⟩
     · have hn:n=0:=by omega
       subst hn
       have hl:l= []:=List.eq_nil_of_length_eq_zero (by simpa using hlen)
       subst hl
       refine⟨0, [], [],h, ?_,trivial,rfl,by simp⟩
       cases a with
       |none=>simp [a3y]
       |some ad=>obtain⟨b,o,sp⟩:=ad;simp [a3y]
     · refine⟨n,l,xs,h, ?_,hrep,hfl,hlen⟩
       simp only [a3y]
       have hxl:=hrep.length
       exact .inr ⟨trivial,trivial,hrep.one hfl,by omega, .inr ⟨hok.2.2,fun j hj=>hcell j hj⟩⟩
   · exact h.elim
 · exact h.elim
theorem b5Q {T:List (Nat×D)} {H:Hy} {nk:Nat} {T':List (Nat×SV)} {H':Hp} {nk':Nat} {w w1:World} {lo lo1:Nat} {iv iv1:List (Nat×Nat)} {k:Nat} {e0:Ent} {v':Value} {n z:Nat} {l:List D} {xs:List Value} {ty:TypeId}
 (hs:Sim A ⟨T',H',nk',w,lo,iv⟩ ⟨T,H,nk⟩) (hf:c7 H' k=some e0) (hv:∀b,b∈m7 v'→b∈bs H'∨w.heap.size≤b) (hfx:Fx (bs H') w w1) (hlo:(lo1=w1.heap.size)∨(lo1=lo∧iv1=iv))
 (hrep:c8 (okS A ⟨T',H',nk',w,lo,iv⟩) w l xs) (hfl:y5 l=true) (hlen:l.length=n*z):
 Sim A ⟨a0E k T',a0x (A2 k H') k (.row v' n xs z ty),nk',w1,lo1,iv1⟩ ⟨a5r k T,b0w (a4v k H) k (.row z n l ty),nk⟩:=by
 have hf2:c7 (A2 k H') k=some (a0D k e0):=by rw [K9,hf];rfl
 have hok:∀c,okS A ⟨T',H',nk',w,lo,iv⟩ c→okS A ⟨a0E k T',a0x (A2 k H') k (.row v' n xs z ty),nk',w1,lo1,iv1⟩ c∧w1.heap[c]?=w.heap[c]?:=by
  intro c ⟨h1,h2,h3⟩
  refine⟨⟨⟨?_,h1.2⟩,Nat.lt_of_lt_of_le h2 hfx.size,fun x hx=> ?_⟩,hfx.block c h2 h3⟩
  · rcases hlo with rfl|⟨rfl,rfl⟩
    · exact .inl (Nat.lt_of_lt_of_le h2 hfx.size)
    · exact h1.1
  · rcases a9A hx with hx|hx
    · rw [a4s]at hx;exact h3 x hx
    · rcases hv x hx with hx|hx
      · exact h3 x hx
      · intro e;simp only at h2;omega
 have hk:∀q j,y7 ⟨T',H',nk',w,lo,iv⟩ q j→y7 ⟨a0E k T',a0x (A2 k H') k (.row v' n xs z ty),nk',w1,lo1,iv1⟩ q j:=by
  intro q j ⟨h1,h2⟩
  refine⟨h1,fun hq=> ?_⟩
  simp only
  rw [a0r hf2,K9]
  obtain⟨v,n,xs,sz,ty,h3⟩:=h2 hq
  split
  · exact⟨_,_,_,_,_,rfl⟩
  · simp only at h3;rw [h3];exact⟨_,_,_,_,_,rfl⟩
 refine⟨fun d x hx=> ?_,fun j x hx=> ?_,hs.nk,fun j hj=>a9S (hs.fT j hj),fun j hj=>a7G rfl (b0b (hs.fH j hj))⟩
 · obtain⟨y,hy,rfl⟩:=b1Z hx
   rcases hs.T d y hy with h|⟨s,h1,h2⟩
   · subst h;exact .inl (by simp [a8K,a2T])
   · unfold a8K
     cases hm:a2T k y with
     |true=>exact .inl rfl
     |false=>
      refine .inr ⟨s, ?_,c4.mono hok hk _ _ h2⟩
      have:=b2z (k:=k) h1
      simp only [a9x,h2.mentE k,hm]at this
      exact this
 · simp only
   rw [a0r hf2,K9]
   rcases a9t hx with⟨rfl,rfl⟩|⟨hne,hx⟩
   · exact⟨.row v' n xs z ty,by simp,by exact⟨rfl,rfl,rfl,c8.mono hok _ _ hrep,hfl,hlen⟩⟩
   · obtain⟨y,hy,rfl⟩:=b2D hx
     obtain⟨e1,h1,h2⟩:=hs.H j y hy
     refine⟨a0D k e1,by rw [if_neg hne];simp only at h1;rw [h1];rfl, ?_⟩
     have h3:=a2Q.mono hok hk h2
     cases y<;>cases e1<;>simp only [b4S,a0D,a2Q]at h3⊢
     · exact⟨h3.1,b1n h3.2⟩
     · exact h3
theorem b7q {T:List (Nat×D)} {H:Hy} {nk:Nat} {T':List (Nat×SV)} {H':Hp} {nk':Nat} {w w1:World} {lo lo1:Nat} {iv iv1:List (Nat×Nat)} {v':Value} {n z:Nat} {l:List D} {xs:List Value} {ty:TypeId}
 (hs:Sim A ⟨T',H',nk',w,lo,iv⟩ ⟨T,H,nk⟩) (hv:∀b,b∈m7 v'→b∈bs H'∨w.heap.size≤b) (hfx:Fx (bs H') w w1) (hlo:(lo1=w1.heap.size)∨(lo1=lo∧iv1=iv))
 (hrep:c8 (okS A ⟨T',H',nk',w,lo,iv⟩) w l xs) (hfl:y5 l=true) (hlen:l.length=n*z):
 Sim A ⟨T',(nk', .row v' n xs z ty)::H',nk'+1,w1,lo1,iv1⟩ ⟨T,(nk, .row z n l ty)::H,nk+1⟩:=by
 have hnk:nk=nk':=hs.nk
 subst hnk
 have hok:∀c,okS A ⟨T',H',nk,w,lo,iv⟩ c→okS A ⟨T',(nk, .row v' n xs z ty)::H',nk+1,w1,lo1,iv1⟩ c∧w1.heap[c]?=w.heap[c]?:=by
  intro c ⟨h1,h2,h3⟩
  refine⟨⟨⟨?_,h1.2⟩,Nat.lt_of_lt_of_le h2 hfx.size,fun x hx=> ?_⟩,hfx.block c h2 h3⟩
  · rcases hlo with rfl|⟨rfl,rfl⟩
    · exact .inl (Nat.lt_of_lt_of_le h2 hfx.size)
    · exact h1.1
  · simp only [bs,bsE,List.mem_append]at hx
    rcases hx with hx|hx
    · rcases hv x hx with hx|hx
      · exact h3 x hx
      · intro e;simp only at h2;omega
    · exact h3 x hx
 have hk:∀q k,y7 ⟨T',H',nk,w,lo,iv⟩ q k→y7 ⟨T',(nk, .row v' n xs z ty)::H',nk+1,w1,lo1,iv1⟩ q k:=by
  intro q k ⟨h1,h2⟩
  simp only at h1
  refine⟨by simp only;omega,fun hq=> ?_⟩
  simp only
  rw [R8 (by omega)]
  exact h2 hq
 refine⟨fun d x hx=> ?_,fun k e he=> ?_,rfl,fun j hj=>hs.fT j (by simp only at hj⊢;omega),fun j hj=>V2 rfl (hs.fH j (by simp only at hj⊢;omega))⟩
 · rcases hs.T d x hx with h|⟨s,h1,h2⟩
   · exact .inl h
   · exact .inr ⟨s,h1,c4.mono hok hk _ _ h2⟩
 · simp only [j7]at he
   simp only [c7]
   cases hb:Nat.beq nk k with
   |true=>
    rw [hb]at he;cases he
    exact⟨_,rfl,by exact⟨rfl,rfl,rfl,c8.mono hok _ _ hrep,hfl,hlen⟩⟩
   |false=>
    rw [hb]at he
    obtain⟨e',h1,h2⟩:=hs.H k e he
    exact⟨e',h1,a2Q.mono hok hk h2⟩
theorem b8m {T:List (Nat×D)} {H:Hy} {nk:Nat} {T':List (Nat×SV)} {H':Hp} {nk':Nat} {w w1:World} {lo lo1:Nat} {iv iv1:List (Nat×Nat)} {k:Nat} {e0:Ent} {v':Value} {n z:Nat} {l:List D} {xs:List Value} {ty:TypeId}
 (hs:Sim A ⟨T',H',nk',w,lo,iv⟩ ⟨T,H,nk⟩) (hf:c7 H' k=some e0) (hv:∀b,b∈m7 v'→b∈bs H'∨w.heap.size≤b) (hfx:Fx (bs H') w w1) (hlo:(lo1=w1.heap.size)∨(lo1=lo∧iv1=iv))
 (hrep:c8 (okS A ⟨a0E k T',a0x (A2 k H') k (.row v' n xs z ty),nk',w1,lo1,iv1⟩) w1 l xs) (hfl:y5 l=true) (hlen:l.length=n*z):
 Sim A ⟨a0E k T',a0x (A2 k H') k (.row v' n xs z ty),nk',w1,lo1,iv1⟩ ⟨a5r k T,b0w (a4v k H) k (.row z n l ty),nk⟩:=by
 have hf2:c7 (A2 k H') k=some (a0D k e0):=by rw [K9,hf];rfl
 have hok:∀c,okS A ⟨T',H',nk',w,lo,iv⟩ c→okS A ⟨a0E k T',a0x (A2 k H') k (.row v' n xs z ty),nk',w1,lo1,iv1⟩ c∧w1.heap[c]?=w.heap[c]?:=by
  intro c ⟨h1,h2,h3⟩
  refine⟨⟨⟨?_,h1.2⟩,Nat.lt_of_lt_of_le h2 hfx.size,fun x hx=> ?_⟩,hfx.block c h2 h3⟩
  · rcases hlo with rfl|⟨rfl,rfl⟩
    · exact .inl (Nat.lt_of_lt_of_le h2 hfx.size)
    · exact h1.1
  · rcases a9A hx with hx|hx
    · rw [a4s]at hx;exact h3 x hx
    · rcases hv x hx with hx|hx
      · exact h3 x hx
      · intro e;simp only at h2;omega
 have hk:∀q j,y7 ⟨T',H',nk',w,lo,iv⟩ q j→y7 ⟨a0E k T',a0x (A2 k H') k (.row v' n xs z ty),nk',w1,lo1,iv1⟩ q j:=by
  intro q j ⟨h1,h2⟩
  refine⟨h1,fun hq=> ?_⟩
  simp only
  rw [a0r hf2,K9]
  obtain⟨v,n,xs,sz,ty,h3⟩:=h2 hq
  split
  · exact⟨_,_,_,_,_,rfl⟩
  · simp only at h3;rw [h3];exact⟨_,_,_,_,_,rfl⟩
 refine⟨fun d x hx=> ?_,fun j x hx=> ?_,hs.nk,fun j hj=>a9S (hs.fT j hj),fun j hj=>a7G rfl (b0b (hs.fH j hj))⟩
 · obtain⟨y,hy,rfl⟩:=b1Z hx
   rcases hs.T d y hy with h|⟨s,h1,h2⟩
   · subst h;exact .inl (by simp [a8K,a2T])
   · unfold a8K
     cases hm:a2T k y with
     |true=>exact .inl rfl
     |false=>
      refine .inr ⟨s, ?_,c4.mono hok hk _ _ h2⟩
      have:=b2z (k:=k) h1
      simp only [a9x,h2.mentE k,hm]at this
      exact this
 · simp only
   rw [a0r hf2,K9]
   rcases a9t hx with⟨rfl,rfl⟩|⟨hne,hx⟩
   · exact⟨.row v' n xs z ty,by simp,by exact⟨rfl,rfl,rfl,hrep,hfl,hlen⟩⟩
   · obtain⟨y,hy,rfl⟩:=b2D hx
     obtain⟨e1,h1,h2⟩:=hs.H j y hy
     refine⟨a0D k e1,by rw [if_neg hne];simp only at h1;rw [h1];rfl, ?_⟩
     have h3:=a2Q.mono hok hk h2
     cases y<;>cases e1<;>simp only [b4S,a0D,a2Q]at h3⊢
     · exact⟨h3.1,b1n h3.2⟩
     · exact h3
theorem b5w {T:List (Nat×D)} {H:Hy} {nk:Nat} {T':List (Nat×SV)} {H':Hp} {nk':Nat} {w w1:World} {lo lo1:Nat} {iv iv1:List (Nat×Nat)} {v':Value} {n z:Nat} {l:List D} {xs:List Value} {ty:TypeId}
 (hs:Sim A ⟨T',H',nk',w,lo,iv⟩ ⟨T,H,nk⟩) (hv:∀b,b∈m7 v'→b∈bs H'∨w.heap.size≤b) (hfx:Fx (bs H') w w1) (hlo:(lo1=w1.heap.size)∨(lo1=lo∧iv1=iv))
 (hrep:c8 (okS A ⟨T',(nk', .row v' n xs z ty)::H',nk'+1,w1,lo1,iv1⟩) w1 l xs) (hfl:y5 l=true) (hlen:l.length=n*z):
 Sim A ⟨T',(nk', .row v' n xs z ty)::H',nk'+1,w1,lo1,iv1⟩ ⟨T,(nk, .row z n l ty)::H,nk+1⟩:=by
 have hnk:nk=nk':=hs.nk
 subst hnk
 have hok:∀c,okS A ⟨T',H',nk,w,lo,iv⟩ c→okS A ⟨T',(nk, .row v' n xs z ty)::H',nk+1,w1,lo1,iv1⟩ c∧w1.heap[c]?=w.heap[c]?:=by
  intro c ⟨h1,h2,h3⟩
  refine⟨⟨⟨?_,h1.2⟩,Nat.lt_of_lt_of_le h2 hfx.size,fun x hx=> ?_⟩,hfx.block c h2 h3⟩
  · rcases hlo with rfl|⟨rfl,rfl⟩
    · exact .inl (Nat.lt_of_lt_of_le h2 hfx.size)
    · exact h1.1
  · simp only [bs,bsE,List.mem_append]at hx
    rcases hx with hx|hx
    · rcases hv x hx with hx|hx
      · exact h3 x hx
      · intro e;simp only at h2;omega
    · exact h3 x hx
 have hk:∀q k,y7 ⟨T',H',nk,w,lo,iv⟩ q k→y7 ⟨T',(nk, .row v' n xs z ty)::H',nk+1,w1,lo1,iv1⟩ q k:=by
  intro q k ⟨h1,h2⟩
  simp only at h1
  refine⟨by simp only;omega,fun hq=> ?_⟩
  simp only
  rw [R8 (by omega)]
  exact h2 hq
 refine⟨fun d x hx=> ?_,fun k e he=> ?_,rfl,fun j hj=>hs.fT j (by simp only at hj⊢;omega),fun j hj=>V2 rfl (hs.fH j (by simp only at hj⊢;omega))⟩
 · rcases hs.T d x hx with h|⟨s,h1,h2⟩
   · exact .inl h
   · exact .inr ⟨s,h1,c4.mono hok hk _ _ h2⟩
 · simp only [j7]at he
   simp only [c7]
   cases hb:Nat.beq nk k with
   |true=>
    rw [hb]at he;cases he
    exact⟨_,rfl,by exact⟨rfl,rfl,rfl,hrep,hfl,hlen⟩⟩
   |false=>
    rw [hb]at he
    obtain⟨e',h1,h2⟩:=hs.H k e he
    exact⟨e',h1,a2Q.mono hok hk h2⟩
theorem c1D {seq:Bool} {e esz bytes:Nat} {s x:D} {s' x':SV} {dst:Option Nat} (h:c3l e esz bytes s x sy fun st' d=>R5 X st' dst d KY) (hs:Sim A st sy) (h1:c4 (okS A st) st.w (y7 st) s s') (h2:c4 (okS A st) st.w (y7 st) x x'):
 b3n (cx X w0 bor) seq e esz bytes s' x' st fun st' d=>put (cx X w0 bor) st' dst d fun st'=>∃sy',KY sy'∧Sim A st' sy':=by
 unfold c3l at h
 split at h
 · exact h.elim
 rename_i hez
 have hez:=Nat.le_of_ble_eq_true hez
 have hnews:=h
 clear h
 obtain⟨m,l,news,h,hn,hrep,hfl,hlen⟩:=c0I (X:=X) (w0:=w0) (bor:=bor) hnews hs h2
 clear hnews
 obtain⟨T',H',nk',w,lo,iv⟩:=st
 have reW_of:∀ {w1:World} {K:List (Nat×SV)→Hp→Nat→World→Nat→List (Nat×Nat)→Prop},(∀lo1 iv1,(lo1=w1.heap.size∨(lo1=lo∧iv1=iv))→K T' H' nk' w1 lo1 iv1)→reW seq ⟨T',H',nk',w,lo,iv⟩ w1 K:=by
  intro w1 K hh
  cases seq with
  |true=>exact hh _ _ (.inl rfl)
  |false=>exact hh _ _ (.inr ⟨rfl,rfl⟩)
 split at h
 · rename_i T H nk
   have:=h1.sc;subst this
   obtain⟨hb,r',n',⟨rfl,rfl⟩,h⟩:=h
   have hnk:nk=nk':=hs.nk
   subst hnk
   refine⟨0,0,m, .slice none 0 0, [],news,⟨hez,hn,by simpa using hb.1,by simpa [maxLen]using hb.2⟩, .inl ⟨rfl,rfl,fun v' w1 hv hz hf=>reW_of fun lo1 iv1 hlo=> ?_⟩⟩
   have hsim:=b7q (ty:=e) hs hz hf hlo hrep hfl hlen
   refine⟨hs.fT nk (Nat.le_refl _),hs.fH nk (Nat.le_refl _),F8 h hsim ?_⟩
   simp only [c4]
   exact⟨trivial,by simp only;omega,fun _=>⟨_,_,_,_,_,by simp [c7];exact⟨rfl,rfl,rfl,rfl,rfl⟩⟩⟩
 · rename_i k z0 T H nk
   have h1':=h1
   simp only [c4]at h1
   obtain⟨rfl,hkey⟩:=h1
   split at h
   · rename_i z n r ty hfy
     split at h
     · rename_i hzz hty
       obtain rfl:=u7 hzz
       obtain rfl:=u7 hty
       obtain⟨hb,r',n',⟨rfl,rfl⟩,h⟩:=h
       obtain⟨e',hf',he⟩:=hs.H _ _ hfy
       cases e' with
       |blk=>exact he.elim
       |row v n' xs z' ty'=>
        obtain⟨rfl,rfl,rfl,hrep0,hfl0,hlen0⟩:=he
        refine⟨k,n,m,v,xs,news,⟨hez,hn,hb.1,by simpa [maxLen]using hb.2⟩, .inr (.inl ⟨rfl,hf',fun v' w1 hv hz hf=>reW_of fun lo1 iv1 hlo=> ?_⟩)⟩
        have h:=a3j h
        rw [a9w]at h
        have hsim:=b5Q (k:=k) (v':=v') (n:=n+m) (z:=z) (ty:=ty) (l:=r++l) (xs:=xs++news) hs hf' hz hf hlo (hrep0.app hrep) (P1 fun d hd=>by
         rcases List.mem_append.1 hd with hd|hd
         · exact v6 hfl0 hd
         · exact v6 hfl hd) (by simp [hlen0,hlen,Nat.add_mul])
        refine a5k (e0:=a0D k _) (by rw [K9];simp only at hf';rw [hf'];rfl) ?_
        rw [a3T]
        refine F8 h hsim ?_
        simp only [c4]
        exact⟨trivial,hkey.1,fun _=>⟨_,_,_,_,_,by simp only;rw [a0r (e0:=a0D k _) (by rw [K9];simp only at hf';rw [hf'];rfl)];simp;exact⟨rfl,rfl,rfl,rfl,rfl⟩⟩⟩
     · exact h.elim
   · exact h.elim
 · rename_i k o z0 n c T H nk
   simp only [c4]at h1
   obtain⟨rfl,hkey⟩:=h1
   split at h
   · rename_i z N r ty ho hc hz0 hfy
     obtain rfl:=u7 ho
     obtain rfl:=u7 hc
     split at h
     · rename_i hzz hty
       obtain rfl:=u7 hzz
       obtain rfl:=u7 hty
       obtain⟨⟨hN0,hnN,hb⟩,r',n',⟨rfl,rfl⟩,h⟩:=h
       obtain⟨e',hf',he⟩:=hs.H _ _ hfy
       cases e' with
       |blk=>exact he.elim
       |row v N' xs z' ty'=>
        obtain⟨rfl,rfl,rfl,hrep0,hfl0,hlen0⟩:=he
        have hle:n*z≤N*z:=Nat.mul_le_mul_right _ hnN
        refine⟨k,n,m,v,xs.take (n*z),news,⟨hez,hn,hb.1,by simpa [maxLen]using hb.2⟩, .inr (.inr (.inl ⟨rfl,⟨v,N,xs,hf',hN0,hnN,rfl⟩,fun v' w1 hv hz hf=>reW_of fun lo1 iv1 hlo=> ?_⟩))⟩
        have h:=a3j h
        rw [a9w]at h
        have hsim:=b5Q (k:=k) (v':=v') (n:=n+m) (z:=z) (ty:=ty) (l:=r.take (n*z)++l) (xs:=xs.take (n*z)++news) hs hf' hz hf hlo ((hrep0.take _).app hrep) (P1 fun d hd=>by
         rcases List.mem_append.1 hd with hd|hd
         · exact v6 hfl0 (List.mem_of_mem_take hd)
         · exact v6 hfl hd) (by simp only [List.length_append,List.length_take,hlen0,hlen,Nat.min_eq_left hle,Nat.add_mul])
        refine a5k (e0:=a0D k _) (by rw [K9];simp only at hf';rw [hf'];rfl) ?_
        rw [a3T]
        refine F8 h hsim ?_
        simp only [c4]
        exact⟨trivial,hkey.1,fun _=>⟨_,_,_,_,_,by simp only;rw [a0r (e0:=a0D k _) (by rw [K9];simp only at hf';rw [hf'];rfl)];simp;exact⟨rfl,rfl,rfl,rfl,rfl⟩⟩⟩
     · exact h.elim
   · exact h.elim
 · exact h.elim
end
end Go.Sx
namespace Go.Sx
open Go Go.RowKit
def N8 (k:Nat):Hp→Hp
 | []=> []
 |(j,e)::H=>match Nat.beq j k with|true=>N8 k H|false=>(j,e)::N8 k H
theorem a5u {H:Hp} {k j:Nat} (h:j≠k):c7 (N8 k H) j=c7 H j:=by
 induction H with
 |nil=>rfl
 |cons x H ih=>
  obtain⟨i,e⟩:=x
  simp only [N8,c7]
  cases hb:Nat.beq i k with
  |true=>
   have:=u7 hb;subst this
   rw [U0 (Ne.symm h)];exact ih
  |false=>simp only [c7];rw [ih]
theorem a3o {H:Hp} {k j:Nat} {e:Ent} (h:(j,e)∈N8 k H):(j,e)∈H∧j≠k:=by
 induction H with
 |nil=>cases h
 |cons x H ih=>
  obtain⟨i,e'⟩:=x
  simp only [N8]at h
  cases hb:Nat.beq i k with
  |true=>rw [hb]at h;obtain⟨h1,h2⟩:=ih h;exact⟨List.mem_cons_of_mem _ h1,h2⟩
  |false=>
   rw [hb]at h
   rcases List.mem_cons.1 h with h|h
   · cases h;exact⟨List.mem_cons_self,a2p hb⟩
   · obtain⟨h1,h2⟩:=ih h;exact⟨List.mem_cons_of_mem _ h1,h2⟩
theorem b5f {k:Nat} (H:Hp):(N8 k H).Sublist H:=by
 induction H with
 |nil=>exact List.Sublist.slnil
 |cons x H ih=>
  obtain⟨i,e⟩:=x
  simp only [N8]
  cases hb:Nat.beq i k with
  |true=>exact List.Sublist.cons _ ih
  |false=>exact List.Sublist.cons_cons _ ih
theorem c2T {H H':Hp} (h:H.Sublist H'):(bs H).Sublist (bs H'):=by
 induction h with
 |slnil=>exact List.Sublist.slnil
 |cons x _ ih=>obtain⟨i,e⟩:=x;exact ih.trans (List.sublist_append_right _ _)
 |cons_cons x _ ih=>obtain⟨i,e⟩:=x;exact List.Sublist.append (List.Sublist.refl _) ih
def a2r (g:Nat→List SV→List SV):Hp→Hp
 | []=> []
 |(j, .blk b cs ty)::H=>(j, .blk b (g j cs) ty)::a2r g H
 |(j,e)::H=>(j,e)::a2r g H
theorem a9z {g:Nat→List SV→List SV} {H:Hp} {j:Nat}:c7 (a2r g H) j=(c7 H j).map (fun| .blk b cs ty=> .blk b (g j cs) ty|e=>e):=by
 induction H with
 |nil=>rfl
 |cons x H ih=>
  obtain⟨i,e⟩:=x
  cases e<;>simp only [a2r,c7]<;>cases hb:Nat.beq i j
  · exact ih
  · have:=u7 hb;subst this;rfl
  · exact ih
  · rfl
theorem mem_map {g:Nat→List SV→List SV} {H:Hp} {j:Nat} {e:Ent} (h:(j,e)∈a2r g H):(∃b cs ty,(j, .blk b cs ty)∈H∧e= .blk b (g j cs) ty)∨((j,e)∈H∧∃v n xs sz ty,e= .row v n xs sz ty):=by
 induction H with
 |nil=>cases h
 |cons x H ih=>
  obtain⟨i,e'⟩:=x
  cases e' with
  |blk b cs ty=>
   simp only [a2r]at h
   rcases List.mem_cons.1 h with h|h
   · cases h;exact .inl ⟨b,cs,ty,List.mem_cons_self,rfl⟩
   · rcases ih h with⟨b,cs,ty,h1,h2⟩|⟨h1,h2⟩
     · exact .inl ⟨b,cs,ty,List.mem_cons_of_mem _ h1,h2⟩
     · exact .inr ⟨List.mem_cons_of_mem _ h1,h2⟩
  |row v n xs sz ty=>
   simp only [a2r]at h
   rcases List.mem_cons.1 h with h|h
   · cases h;exact .inr ⟨List.mem_cons_self,_,_,_,_,_,rfl⟩
   · rcases ih h with⟨b,cs,ty,h1,h2⟩|⟨h1,h2⟩
     · exact .inl ⟨b,cs,ty,List.mem_cons_of_mem _ h1,h2⟩
     · exact .inr ⟨List.mem_cons_of_mem _ h1,h2⟩
theorem b6n {g:Nat→List SV→List SV} {H:Hp}:bs (a2r g H)=bs H:=by
 induction H with
 |nil=>rfl
 |cons x H ih=>obtain⟨i,e⟩:=x;cases e<;>simp [a2r,bs,bsE,ih]
theorem c0l {g:Nat→List SV→List SV} {H:Hp}:(a2r g H).map (·.1)=H.map (·.1):=by
 induction H with
 |nil=>rfl
 |cons x H ih=>obtain⟨i,e⟩:=x;cases e<;>simp [a2r,ih]
theorem c2d {g:Nat→List SV→List SV} {H:Hp} (j:Nat):bOf (a2r g H) j=bOf H j∧l4 (a2r g H) j=l4 H j:=by
 simp only [bOf,l4,a9z]
 cases c7 H j with
 |none=>exact⟨rfl,rfl⟩
 |some e=>cases e<;>exact⟨rfl,rfl⟩
section
variable {A : Nat → Prop} {Xx : Cx} {w : World}
structure c2v (ok ok':Nat→Prop) (R R':Bool→Nat→Prop) (H:Hp) (w:World) (k:Nat) (e:E):Prop where
 ok:∀b,ok b→ok' b
 R:∀q j,j≠k→R q j→R' q j
 blk:∀cs ty,e= .blk cs ty→y5 cs=true∧l4 H k=undef∧∃b xs,bOf H k=b∧ok' b∧c8 ok' w cs xs∧∀j,j<cs.length→w.cell? ⟨b,j,none⟩=xs[j]?
 row:∀z n l ty,e= .row z n l ty→Rep ok' w (.lst z n l) (l4 H k)
variable {ok ok' : Nat → Prop} {R R' : Bool → Nat → Prop} {H : Hp} {k : Nat} {e : E}
theorem a6C {s:SV} (h:ment k s=false):den (N8 k H) s=den H s:=a6P k (fun j hj=>⟨by simp [bOf,a5u hj],by simp [l4,a5u hj]⟩) s h
theorem c2q {x x':D} (h:fzO k e x=some x') (ho:a4w x=true):a4w x'=true:=by
 cases x<;>simp [a4w]at ho<;>simp only [fzO]at h
 · cases h;rfl
 · cases h;rfl
 · cases h;rfl
 · split at h
   · cases h;rfl
   · split at h<;>cases h;rfl
 · split at h<;>cases h;rfl
 · split at h
   · cases h;rfl
   · split at h<;>cases h;rfl
 · split at h<;>cases h;rfl
 · split at h
   · cases h;rfl
   · split at h
     · split at h<;>cases h;rfl
     · cases h
 · split at h<;>cases h;rfl
 · cases h;rfl
theorem c1t {l l':List D} (h:fzL k e l=some l') (ho:y5 l=true):y5 l'=true:=by
 induction l generalizing l' with
 |nil=>simp [fzL]at h;subst h;rfl
 |cons x l ih=>
  simp only [fzL]at h
  split at h
  · rename_i y r hy hr
    cases h
    simp only [y5]
    rw [c2q hy (v6 ho List.mem_cons_self)]
    exact ih hr (P1 fun d hd=>v6 ho (List.mem_cons_of_mem _ hd))
  · cases h
mutual
theorem b6q (hz:c2v ok ok' R R' H w k e):∀(x:D) (s:SV) (x':D),c4 ok w R x s→fzO k e x=some x'→∃s',c4 ok' w R' x' s'∧den (N8 k H) s'=den H s∧ment k s'=false
 | .v x,s,x',h,hx=>by
  simp only [c4]at h
  simp only [fzO]at hx;cases hx
  obtain⟨rfl,h⟩:=h
  exact⟨.v x,by simp only [c4];exact⟨trivial,h⟩,rfl,rfl⟩
 | .lst z n l,s,x',h,hx=>by
  simp only [fzO]at hx;cases hx
  simp only [c4]at h
  obtain⟨y,rfl,h⟩:=h
  exact⟨.v y,by simp only [c4];exact⟨y,rfl,Rep.mono (fun b hb=>⟨hz.ok b hb,rfl⟩) _ _ h⟩,rfl,rfl⟩
 | .ptr l o,s,x',h,hx=>by
  simp only [fzO]at hx;cases hx
  simp only [c4]at h
  obtain⟨y,rfl,h⟩:=h
  exact⟨.v y,by simp only [c4];exact⟨y,rfl,Rep.mono (fun b hb=>⟨hz.ok b hb,rfl⟩) _ _ h⟩,rfl,rfl⟩
 | .own j o,s,x',h,hx=>by
  simp only [c4]at h
  obtain⟨rfl,h⟩:=h
  simp only [fzO]at hx
  cases hb:Nat.beq j k with
  |false=>
   rw [hb]at hx;cases hx
   exact⟨_,by simp only [c4];exact⟨trivial,hz.R _ _ (a2p hb) h⟩,a6C (by simpa [ment]using hb),by simpa [ment]using hb⟩
  |true=>
   have:=u7 hb;subst this
   rw [hb]at hx
   simp only at hx
   split at hx
   · cases hx
     obtain⟨hfl,hrv,b,xs,h1,h2,h3,h4⟩:=hz.blk _ _ rfl
     refine⟨.v (.pointer (some ⟨b,o,none⟩)), ?_,by simp [den,h1],rfl⟩
     simp only [c4,Rep]
     exact⟨_,rfl,b,0,xs,by rw [Nat.zero_add],h2,hfl,h3,fun i hi=>by rw [Nat.zero_add];exact h4 i hi⟩
   · cases hx
 | .ownx j o,s,x',h,hx=>by
  simp only [c4]at h
  obtain⟨rfl,h⟩:=h
  simp only [fzO]at hx
  cases hb:Nat.beq j k with
  |false=>rw [hb]at hx;cases hx;exact⟨_,by simp only [c4];exact⟨trivial,hz.R _ _ (a2p hb) h⟩,a6C (by simpa [ment]using hb),by simpa [ment]using hb⟩
  |true=>rw [hb]at hx;cases hx
 | .elr j z i o,s,x',h,hx=>by
  simp only [c4]at h
  obtain⟨rfl,h⟩:=h
  simp only [fzO]at hx
  cases hb:Nat.beq j k with
  |false=>rw [hb]at hx;cases hx;exact⟨_,by simp only [c4];exact⟨trivial,hz.R _ _ (a2p hb) h⟩,a6C (by simpa [ment]using hb),by simpa [ment]using hb⟩
  |true=>rw [hb]at hx;cases hx
 | .row j z,s,x',h,hx=>by
  simp only [c4]at h
  obtain⟨rfl,h⟩:=h
  simp only [fzO]at hx
  cases hb:Nat.beq j k with
  |false=>rw [hb]at hx;cases hx;exact⟨_,by simp only [c4];exact⟨trivial,hz.R _ _ (a2p hb) h⟩,a6C (by simpa [ment]using hb),by simpa [ment]using hb⟩
  |true=>
   have:=u7 hb;subst this
   rw [hb]at hx
   simp only at hx
   split at hx
   · cases hx
     exact⟨.v (l4 H j),by simp only [c4];exact⟨_,rfl,hz.row _ _ _ _ rfl⟩,rfl,rfl⟩
   · cases hx
 | .osl j o z n c,s,x',h,hx=>by
  simp only [c4]at h
  obtain⟨rfl,h⟩:=h
  simp only [fzO]at hx
  cases hb:Nat.beq j k with
  |false=>rw [hb]at hx;cases hx;exact⟨_,by simp only [c4];exact⟨trivial,hz.R _ _ (a2p hb) h⟩,a6C (by simpa [ment]using hb),by simpa [ment]using hb⟩
  |true=>
   have:=u7 hb;subst this
   rw [hb]at hx
   simp only at hx
   split at hx
   · split at hx
     · rename_i l hl hnc hnm
       cases hx
       obtain⟨hfl,hrv,b,xs,h1,h2,h3,h4⟩:=hz.blk _ _ rfl
       obtain⟨g1,g2,g3⟩:=h3.part hl
       refine⟨.v (.slice (some ⟨b,o,none⟩) n c), ?_,by simp [den,h1,hrv,b2j,undef],rfl⟩
       simp only [c4,Rep]
       have hll:=(b2w hl).2.1
       rw [b6d]at hll
       refine⟨_,rfl,_,c,rfl,Nat.le_of_ble_eq_true hnc,by have:=Nat.le_of_ble_eq_true hnm;omega,g2,a6S hfl fun d hd=>List.mem_of_mem_drop (List.mem_of_mem_take (hll▸hd)), .inr ⟨b,o,_,rfl,h2,g1,fun i hi=> ?_⟩⟩
       rw [h4 (o+i) (by omega),List.getElem?_take,if_pos hi,List.getElem?_drop]
     · cases hx
   · cases hx
 | .agg l,s,x',h,hx=>by
  simp only [c4]at h
  obtain⟨cs,h1,h2,h3⟩:=h
  simp only [fzO]at hx
  split at hx
  · rename_i l' hl
    cases hx
    obtain⟨cs',g1,g2,g3⟩:=a3b hz l cs l' h2 hl
    refine⟨.agg cs',by simp only [c4];exact⟨cs',rfl,g1,c1t hl h3⟩, ?_,by simpa [ment]using g3⟩
    cases s<;>simp [a4a]at h1
    · rename_i y;cases y<;>simp at h1
      subst h1
      rw [J3]at g2
      simp [den,g2]
    · subst h1;simp [den,g2]
  · cases hx
 | .tup l,s,x',h,hx=>by
  simp only [c4]at h
  simp only [fzO]at hx
  split at hx
  · rename_i l' hl
    cases hx
    rcases h with⟨cs,rfl,h2⟩|⟨a,rfl,h2⟩
    · obtain⟨cs',g1,g2,g3⟩:=a3b hz l cs l' h2 hl
      exact⟨.tup cs',by simp only [c4];exact .inl ⟨cs',rfl,g1⟩,by simp [den,g2],by simpa [ment]using g3⟩
    · obtain⟨cs',g1,g2,g3⟩:=a3b hz l _ l' h2 hl
      rw [J3]at g2
      exact⟨.tup cs',by simp only [c4];exact .inl ⟨cs',rfl,g1⟩,by simp [den,g2],by simpa [ment]using g3⟩
  · cases hx
 | .fn f a b,s,x',h,hx=>by
  simp only [c4]at h
  simp only [fzO]at hx
  split at hx
  · rename_i a' b' ha hb
    cases hx
    rcases h with⟨p,q,rfl,h2,h3⟩|⟨p,q,rfl,h2,h3⟩
    · obtain⟨p',g1,g2,g3⟩:=a3b hz a p a' h2 ha
      obtain⟨q',g4,g5,g6⟩:=a3b hz b q b' h3 hb
      exact⟨.fn f p' q',by simp only [c4];exact .inl ⟨p',q',rfl,g1,g4⟩,by simp [den,g2,g5],by simp only [ment,g3,g6]⟩
    · obtain⟨p',g1,g2,g3⟩:=a3b hz a _ a' h2 ha
      obtain⟨q',g4,g5,g6⟩:=a3b hz b _ b' h3 hb
      rw [J3]at g2 g5
      exact⟨.fn f p' q',by simp only [c4];exact .inl ⟨p',q',rfl,g1,g4⟩,by simp [den,g2,g5],by simp only [ment,g3,g6]⟩
  · cases hx
 | .mp l,s,x',h,hx=>by
  simp only [fzO]at hx;cases hx
  simp only [c4]at h⊢
  obtain⟨y,rfl,h⟩:=h
  exact⟨.v y,⟨y,rfl,Rep.mono (fun b hb=>⟨hz.ok b hb,rfl⟩) _ _ h⟩,rfl,rfl⟩
 | .und,s,x',h,hx=>by
  simp only [fzO]at hx;cases hx
  simp only [c4]at h
  subst h
  exact⟨.v undef,by simp only [c4],rfl,rfl⟩
 | .bad,_,_,_,hx=>by simp [fzO]at hx
theorem a3b (hz:c2v ok ok' R R' H w k e):∀(l:List D) (r:List SV) (l':List D),c0 ok w R l r→fzL k e l=some l'→∃r',c0 ok' w R' l' r'∧i4 (N8 k H) r'=i4 H r∧J8 k r'=false
 | [], [],l',_,hx=>by simp only [fzL]at hx;cases hx;exact⟨[],trivial,rfl,rfl⟩
 |d::l,y::r,l',h,hx=>by
  simp only [c0]at h
  simp only [fzL]at hx
  split at hx
  · rename_i d' l'' hd hl
    cases hx
    obtain⟨s',g1,g2,g3⟩:=b6q hz d y d' h.1 hd
    obtain⟨r',g4,g5,g6⟩:=a3b hz l r l'' h.2 hl
    exact⟨s'::r',⟨g1,g4⟩,by simp [i4,g2,g5],by simp only [J8,g3,g6]⟩
  · cases hx
 | [],_::_,_,h,_=>by simp [c0]at h
 |_::_, [],_,h,_=>by simp [c0]at h
end
theorem b7H (hz:c2v ok ok' R R' H w k e):∀(l:List D) (r:List SV),c0 ok w R l r→∃r',c0 ok' w R' (fzC k e l) r'∧J8 k r'=false∧∀xs,j6 H r xs→j6 (N8 k H) r' xs
 | [], [],_=>⟨[],trivial,rfl,fun xs h=>by cases xs with
  |nil=>trivial
  |cons=>simp [j6]at h⟩
 |d::l,y::r,h=>by
  simp only [c0]at h
  obtain⟨r',g4,g5,g6⟩:=b7H hz l r h.2
  simp only [fzC,fzG]
  cases hd:fzO k e d with
  |none=>exact⟨.bad::r',⟨by simp only [c4],g4⟩,by simp only [J8,ment,g5],fun xs hc=>by
   cases xs with
   |nil=>simp [j6]at hc
   |cons x xs=>simp only [j6]at hc;exact⟨.inl rfl,g6 xs hc.2⟩⟩
  |some d'=>
   obtain⟨s',g1,g2,g3⟩:=b6q hz d y d' h.1 hd
   have hne:d≠ .bad:=fun e=>by subst e;simp [fzO]at hd
   have hy:=h.1.ne hne
   refine⟨s'::r',⟨g1,g4⟩,by simp only [J8,g3,g5],fun xs hc=> ?_⟩
   cases xs with
   |nil=>simp [j6]at hc
   |cons x xs=>
    simp only [j6]at hc
    refine⟨?_,g6 xs hc.2⟩
    rcases hc.1 with h|h
    · exact absurd h hy
    · exact .inr (by rw [g2];exact h)
 | [],_::_,h=>by simp [c0]at h
 |_::_, [],h=>by simp [c0]at h
theorem c0f {T:List (Nat×D)} {d:Nat} {x:D} (h:q8 (fzT k e T) d=some x):∃y,q8 T d=some y∧x=fzG k e y:=by
 induction T with
 |nil=>simp [q8,fzT]at h
 |cons q T ih=>
  obtain⟨d',s'⟩:=q
  simp only [q8,fzT]at h⊢
  cases hb:Nat.beq d' d with
  |true=>rw [hb]at h;cases h;exact⟨_,rfl,rfl⟩
  |false=>rw [hb]at h;exact ih h
theorem c0Y {Hd:Hy} {j:Nat} {x:E} (h:j7 (fzH k e Hd) j=some x):j≠k∧∃y,j7 Hd j=some y∧x=fzE k e y:=by
 induction Hd with
 |nil=>simp [j7,fzH]at h
 |cons q Hd ih=>
  obtain⟨i,s'⟩:=q
  simp only [fzH]at h
  simp only [j7]
  cases hb:Nat.beq i k with
  |true=>
   rw [hb]at h
   obtain⟨h1,y,h2,h3⟩:=ih h
   have:=u7 hb;subst this
   rw [U0 (Ne.symm h1)]
   exact⟨h1,y,h2,h3⟩
  |false=>
   rw [hb]at h
   simp only [j7]at h
   cases hb2:Nat.beq i j with
   |true=>rw [hb2]at h;cases h;exact⟨by have:=u7 hb2;subst this;exact a2p hb,_,rfl,rfl⟩
   |false=>rw [hb2]at h;exact ih h
end
end Go.Sx
namespace Go.Sx
open Go Go.RowKit
mutual
theorem a3i {ok:Nat→Prop} {w:World} {R:Bool→Nat→Prop} {H:Hp}:∀(x:D) (s:SV),c4 ok w R x s→Z6 x=true→Rep ok w x (den H s)
 | .v x,s,h,_=>by simp only [c4]at h;rw [h.1];simp only [Rep,den];exact⟨trivial,h.2⟩
 | .lst z n l,s,h,_=>by simp only [c4]at h;obtain⟨y,rfl,h⟩:=h;exact h
 | .ptr l o,s,h,_=>by simp only [c4]at h;obtain⟨y,rfl,h⟩:=h;exact h
 | .agg l,s,h,hc=>by
  simp only [c4]at h
  obtain⟨cs,h1,h2,h3⟩:=h
  simp only [Z6]at hc
  split at hc
  · rename_i hcl
    have:=H7 (H:=H) l cs h2 hcl
    simp only [Rep]
    cases s<;>simp [a4a]at h1
    · rename_i y;cases y<;>simp at h1
      subst h1
      rw [J3]at this
      exact⟨_,rfl,this,h3⟩
    · subst h1;exact⟨_,rfl,by simpa using this,h3⟩
  · cases hc
 | .tup l,s,h,hc=>by
  simp only [c4]at h
  simp only [Z6]at hc
  simp only [Rep]
  rcases h with⟨cs,rfl,h⟩|⟨a,rfl,h⟩
  · exact⟨_,rfl,by simpa using H7 (H:=H) l cs h hc⟩
  · have:=H7 (H:=H) l _ h hc
    rw [J3]at this
    exact⟨_,rfl,this⟩
 | .mp l,s,h,hc=>by
  simp only [c4]at h
  obtain⟨y,rfl,h⟩:=h
  exact h
 | .fn f a b,s,h,hc=>by
  simp only [c4]at h
  simp only [Z6]at hc
  split at hc
  · rename_i ha
    simp only [Rep]
    rcases h with⟨p,q,rfl,h2,h3⟩|⟨p,q,rfl,h2,h3⟩
    · exact⟨_,_,rfl,by simpa using H7 (H:=H) a p h2 ha,by simpa using H7 (H:=H) b q h3 hc⟩
    · have g1:=H7 (H:=H) a _ h2 ha
      have g2:=H7 (H:=H) b _ h3 hc
      rw [J3]at g1 g2
      exact⟨_,_,rfl,g1,g2⟩
  · cases hc
 | .own _ _,_,_,h=>by simp [Z6]at h
 | .ownx _ _,_,_,h=>by simp [Z6]at h
 | .row _ _,_,_,h=>by simp [Z6]at h
 | .elr _ _ _ _,_,_,h=>by simp [Z6]at h
 | .osl _ _ _ _ _,_,_,h=>by simp [Z6]at h
 | .und,_,_,h=>by simp [Z6]at h
 | .bad,_,_,h=>by simp [Z6]at h
theorem H7 {ok:Nat→Prop} {w:World} {R:Bool→Nat→Prop} {H:Hp}:∀(l:List D) (r:List SV),c0 ok w R l r→P8 l=true→c8 ok w l (i4 H r)
 | [], [],_,_=>trivial
 |d::l,y::r,h,hc=>by
  simp only [c0]at h
  simp only [P8]at hc
  split at hc
  · rename_i hd
    exact⟨a3i d y h.1 hd,H7 l r h.2 hc⟩
  · cases hc
 | [],_::_,h,_=>by simp [c0]at h
 |_::_, [],h,_=>by simp [c0]at h
end
theorem a9O {ok:Nat→Prop} {w:World} {R:Bool→Nat→Prop}:∀(l:List D) (r:List SV),c0 ok w R l r→P8 l=true→ .bad∉r
 | [], [],_,_=>by simp
 |d::l,y::r,h,hc=>by
  simp only [c0]at h
  simp only [P8]at hc
  split at hc
  · rename_i hd
    have h2:=a9O l r h.2 hc
    intro hm
    rcases List.mem_cons.1 hm with e|hm
    · subst e
      cases d<;>simp_all [c4,Z6,a4a]
    · exact h2 hm
  · cases hc
 | [],_::_,h,_=>by simp [c0]at h
 |_::_, [],h,_=>by simp [c0]at h
section
variable {A : Nat → Prop} {Xx : Cx} {w : World} {st : St} {sy : Sy}
def b9F (st st':St):Prop:=∀d s,w3 st'.T d=some s→s= .bad∨∃s0,w3 st.T d=some s0∧s0≠ .bad∧den st'.H s=den st.H s0
theorem b3v {α:Type} {p:α→Prop} (d:α):∃x,(p x∨¬(∃y,p y)∧x=d):=by
 by_cases h:∃y,p y
 · obtain⟨y,hy⟩:=h;exact⟨y, .inl hy⟩
 · exact⟨d, .inr ⟨h,rfl⟩⟩
theorem b3B {g:Nat→SV→SV} {T:List (Nat×SV)} {d:Nat}:w3 (T.map fun p=>(p.1,g p.1 p.2)) d=(w3 T d).map (g d):=by
 induction T with
 |nil=>rfl
 |cons x T ih=>
  obtain⟨i,s⟩:=x
  simp only [List.map_cons,w3]
  cases hb:Nat.beq i d with
  |true=>have:=u7 hb;subst this;rfl
  |false=>exact ih
theorem b5x {g:Nat→SV→SV} {T:List (Nat×SV)} {j:Nat} (h:∀d s,ment j (g d s)=false):s9 j (T.map fun p=>(p.1,g p.1 p.2))=true:=by
 induction T with
 |nil=>rfl
 |cons x T ih=>simp only [List.map_cons,s9,h];exact ih
theorem b5O {g:Nat→List SV→List SV} {H:Hp} {j:Nat} (h:∀i cs,J8 j (g i cs)=false):E0 j (a2r g H)=true:=by
 induction H with
 |nil=>rfl
 |cons x H ih=>
  obtain⟨i,e⟩:=x
  cases e with
  |blk b cs ty=>simp only [a2r,E0,h];exact ih
  |row v n xs sz ty=>simp only [a2r,E0];exact ih
theorem b2c {H:Hp}:∀(xs:List Value),j6 H (xs.map fun _=>SV.bad) xs
 | []=>trivial
 |x::xs=>⟨.inl rfl,b2c xs⟩
theorem b8n {α:Type} (k:Nat) (l:List α):J8 k (l.map fun _=>SV.bad)=false:=by
 induction l with
 |nil=>rfl
 |cons x l ih=>simp only [List.map_cons,J8,ment];exact ih
def a7i (H' H:Hp):Prop:=∀j e,(j,e)∈H'→∃e0,(j,e0)∈H∧∀b,b∈bsE e→b∈bsE e0
theorem a7i.bs {H' H:Hp} (h:a7i H' H) (b:Nat) (hb:b∈bs H'):b∈Sx.bs H:=by
 obtain⟨j,e,h1,h2⟩:=y0.1 hb
 obtain⟨e0,h3,h4⟩:=h j e h1
 exact y0.2 ⟨j,e0,h3,h4 b h2⟩
theorem a7i.refl (H:Hp):a7i H H:=fun _ e h=>⟨e,h,fun _ h=>h⟩
theorem a7i.trans {A B C:Hp} (h:a7i A B) (k:a7i B C):a7i A C:=fun j e hm=>by
 obtain⟨e1,h1,h2⟩:=h j e hm
 obtain⟨e2,h3,h4⟩:=k j e1 h1
 exact⟨e2,h3,fun b hb=>h4 b (h2 b hb)⟩
theorem c2B (hA:∀b,(Xx.w0.heap.size≤b∨b∈Xx.bor)→A b) (hc:Cls Xx st.H st.nk w w) (hat:At st w) (hs:Sim A st sy) {k:Nat} {e:E} (hf:j7 sy.H k=some e) (hok:okE e=true):
 ∃st',Cls Xx st'.H st'.nk w w∧At st' w∧Sim A st' ⟨fzT k e sy.T,fzH k e sy.H,sy.nk⟩∧a7i st'.H st.H∧st'.nk=st.nk∧b9F st st'∧
  ∀l r l',c0 (okS A st) w (y7 st) l r→fzL k e l=some l'→∃r',c0 (okS A st') w (y7 st') l' r'∧i4 st'.H r'=i4 st.H r:=by
 obtain⟨T,H,nk,ws,lo,iv⟩:=st
 obtain⟨h1,h2,h3⟩:=hat
 simp only at h1 h2 h3 hc
 subst h1 h2 h3
 obtain⟨e',hf',hr⟩:=hs.H k e hf
 simp only at hf'
 have hmem:=l6 hf'
 have hkb:∀b,b∈bsE e'→b∉bs (N8 k H):=by
  intro b hb hb2
  obtain⟨j,x,hj,hbx⟩:=y0.1 hb2
  obtain⟨hj1,hj2⟩:=a3o hj
  exact a3D hc.nd hc.keys hmem hj1 (Ne.symm hj2) hb hbx
 have hsubl:=c2T (b5f (k:=k) H)
 --what is allowed now
 let ok':Nat→Prop:=fun b=>(b<ws.heap.size∧b7D (N8 k H) b)∧A b
 let R':Bool→Nat→Prop:=fun q j=>j<nk∧(q=true→∃v n xs sz ty,c7 (N8 k H) j=some (.row v n xs sz ty))
 have hz:c2v (okS A ⟨T,H,nk,ws,ws.heap.size, []⟩) ok' (y7 ⟨T,H,nk,ws,ws.heap.size, []⟩) R' H ws k e:=by
  have hok1:∀b,okS A ⟨T,H,nk,ws,ws.heap.size, []⟩ b→ok' b:=fun b h=>⟨⟨h.2.1,fun c hcb=>h.2.2 c (hsubl.subset hcb)⟩,h.1.2⟩
  have hkok:∀b,b∈bsE e'→ok' b:=fun b hb=>⟨⟨b5E (hc.own k e' hmem) hb,fun c hcb e=>hkb b hb (e▸hcb)⟩,hA b (by
   rcases hc.lb b (y0.2 ⟨k,e',hmem,hb⟩)with h|h
   · exact .inr h
   · exact .inl h)⟩
  refine⟨hok1,fun q j hj hq=>⟨hq.1,fun h=> ?_⟩,fun cs ty he=> ?_,fun z n l ty he=> ?_⟩
  · rw [a5u hj];exact hq.2 h
  · subst he
    cases e' with
    |row=>exact hr.elim
    |blk b cs' ty'=>
     simp only [okE]at hok
     split at hok
     · rename_i hno
       have hrep:=H7 (H:=H) _ _ hr.2 hno
       obtain⟨ys,hy,hh⟩:=hc.blk hf'
       have hys:=b8u hy (a9O _ _ hr.2 hno)
       rw [←hys]at hrep
       refine⟨hok,by simp [l4,hf'],b,ys,a5j hf',hkok b (by simp [bsE]),c8.mono (fun b hb=>⟨hok1 b hb,rfl⟩) _ _ hrep,fun j hj=> ?_⟩
       rw [a4L hh];simp
     · cases hok
  · subst he
    cases e' with
    |blk=>exact hr.elim
    |row v n' xs z' ty'=>
     obtain⟨rfl,rfl,rfl,hrep,hfl,hlen⟩:=hr
     have hown:=hc.row hf'
     have hrv:l4 H k=v:=by simp [l4,hf']
     rw [hrv]
     simp only [Rep]
     rcases hown.2 with⟨rfl,rfl⟩|⟨g,cap,cur,rfl,hb,hg,hnc,hcm,_⟩
     · exact⟨none,0,rfl,Nat.le_refl _,by simp,hlen,hfl, .inl rfl⟩
     · refine⟨_,cap,rfl,hnc,by simp only [maxLen]at hcm;omega,hlen,hfl, .inr ⟨g,0,xs,rfl,hkok g (by simp [bsE,m7]),c8.mono (fun b hb=>⟨hok1 b hb,rfl⟩) _ _ hrep,fun j hj=> ?_⟩⟩
       have hxl:=hrep.length
       have hlt:j<xs.length:=by omega
       have:=hown.cells (g:=g) rfl j (xs[j]) (by simp [hlt])
       rw [Q6]at this
       rw [this];simp [hlt]
 --the slots
 have hg:∀d s,∃s',((∃x x',q8 sy.T d=some x∧fzO k e x=some x'∧c4 ok' ws R' x' s'∧den (N8 k H) s'=den H s∧s≠ .bad∧ment k s'=false)∨
  ¬(∃s',∃x x',q8 sy.T d=some x∧fzO k e x=some x'∧c4 ok' ws R' x' s'∧den (N8 k H) s'=den H s∧s≠ .bad∧ment k s'=false)∧s'=SV.bad):=fun d s=>b3v (SV.bad)
 let g:Nat→SV→SV:=fun d s=>(hg d s).choose
 have hgs:∀d s,_:=fun d s=>(hg d s).choose_spec
 --the cells
 have hq:∀j cs,∃cs',((∃dcs ty,j7 sy.H j=some (.blk dcs ty)∧c0 ok' ws R' (fzC k e dcs) cs'∧J8 k cs'=false∧∀xs,j6 H cs xs→j6 (N8 k H) cs' xs)∨
  ¬(∃cs',∃dcs ty,j7 sy.H j=some (.blk dcs ty)∧c0 ok' ws R' (fzC k e dcs) cs'∧J8 k cs'=false∧∀xs,j6 H cs xs→j6 (N8 k H) cs' xs)∧cs'=cs.map fun _=>SV.bad):=fun j cs=>b3v _
 let q:Nat→List SV→List SV:=fun j cs=>(hq j cs).choose
 have hqs:∀j cs,_:=fun j cs=>(hq j cs).choose_spec
 have hR'lt:∀ {p j},R' p j→j<nk:=fun h=>h.1
 have hgm:∀j,nk≤j→∀d s,ment j (g d s)=false:=by
  intro j hj d s
  rcases hgs d s with⟨x,x',_,_,h3,_⟩|⟨_,h⟩
  · exact h3.ment (fun p hp=>by have:=hR'lt hp;omega)
  · show ment j (hg d s).choose=false
    rw [h];rfl
 have hqm:∀j,nk≤j→∀i cs,J8 j (q i cs)=false:=by
  intro j hj i cs
  rcases hqs i cs with⟨dcs,ty,_,h3,_⟩|⟨_,h⟩
  · exact h3.ment (fun p hp=>by have:=hR'lt hp;omega)
  · show J8 j (hq i cs).choose=false
    rw [h];exact b8n _ _
 have hden:∀s,den (a2r q (N8 k H)) s=den (N8 k H) s:=fun s=>a6e (fun j=>c2d j) s
 have hcell:∀l xs,j6 (N8 k H) l xs→j6 (a2r q (N8 k H)) l xs:=fun l xs h=>a1j h fun s _ _=>hden s
 have hksub:a7i (a2r q (N8 k H)) H:=fun j x hm=>by
  rcases mem_map hm with⟨b,cs,ty,h1,rfl⟩|⟨h1,v,n,xs,sz,ty,rfl⟩
  · exact⟨_,(a3o h1).1,fun _ h=>h⟩
  · exact⟨_,(a3o h1).1,fun _ h=>h⟩
 have hbs:∀b,b∈bs (a2r q (N8 k H))→b∈bs H:=hksub.bs
 have hks:∀b,okS A ⟨T.map fun p=>(p.1,g p.1 p.2),a2r q (N8 k H),nk,ws,ws.heap.size, []⟩ b↔ok' b:=by
  intro b
  constructor
  · intro h;exact⟨⟨h.2.1,fun c hcb=>h.2.2 c (by rw [b6n];exact hcb)⟩,h.1.2⟩
  · intro h;exact⟨⟨.inl h.1.1,h.2⟩,h.1.1,fun c hcb=>h.1.2 c (by simp only [b6n]at hcb;exact hcb)⟩
 have hkk:∀p j,R' p j→y7 ⟨T.map fun p=>(p.1,g p.1 p.2),a2r q (N8 k H),nk,ws,ws.heap.size, []⟩ p j:=by
  intro p j h
  refine⟨h.1,fun hp=> ?_⟩
  obtain⟨v,n,xs,sz,ty,h2⟩:=h.2 hp
  simp only
  rw [a9z,h2]
  exact⟨_,_,_,_,_,rfl⟩
 have up:∀x s,c4 ok' ws R' x s→c4 (okS A ⟨T.map fun p=>(p.1,g p.1 p.2),a2r q (N8 k H),nk,ws,ws.heap.size, []⟩) ws (y7 ⟨T.map fun p=>(p.1,g p.1 p.2),a2r q (N8 k H),nk,ws,ws.heap.size, []⟩) x s:=
  fun x s h=>c4.mono (fun b hb=>⟨(hks b).2 hb,rfl⟩) hkk _ _ h
 have upL:∀x s,c0 ok' ws R' x s→c0 (okS A ⟨T.map fun p=>(p.1,g p.1 p.2),a2r q (N8 k H),nk,ws,ws.heap.size, []⟩) ws (y7 ⟨T.map fun p=>(p.1,g p.1 p.2),a2r q (N8 k H),nk,ws,ws.heap.size, []⟩) x s:=
  fun x s h=>c0.mono (fun b hb=>⟨(hks b).2 hb,rfl⟩) hkk _ _ h
 refine⟨⟨T.map fun p=>(p.1,g p.1 p.2),a2r q (N8 k H),nk,ws,ws.heap.size, []⟩, ?_,⟨rfl,rfl,rfl⟩, ?_,hksub,rfl, ?_, ?_⟩
 · refine⟨Fx.refl _ _,hc.fx0,fun j x hm=> ?_,by simp only [b6n];exact hsubl.nodup hc.nd,fun b hb=>hc.lb b (hbs b hb),by simp only [c0l];exact((b5f H).map _).nodup hc.keys,fun j x hm=> ?_⟩
   · rcases mem_map hm with⟨b,cs,ty,h1,rfl⟩|⟨h1,v,n,xs,sz,ty,rfl⟩
     · obtain⟨h2,h3⟩:=a3o h1
       obtain⟨xs,h4,h5⟩:=hc.own j _ h2
       refine⟨xs,hcell _ _ ?_,h5⟩
       rcases hqs j cs with⟨dcs,ty',_,_,_,h6⟩|⟨_,h6⟩
       · exact h6 xs h4
       · show j6 _ (hq j cs).choose xs
         rw [h6]
         have hl:=a7m h4
         have:(cs.map fun _=>SV.bad)=(xs.map fun _=>SV.bad):=by
          simp only [List.map_const',hl]
         rw [this];exact b2c xs
     · exact hc.own j _ (a3o h1).1
   · rcases mem_map hm with⟨b,cs,ty,h1,rfl⟩|⟨h1,_⟩
     · exact hc.lt j _ (a3o h1).1
     · exact hc.lt j _ (a3o h1).1
 · refine⟨fun d x hx=> ?_,fun j x hx=> ?_,hs.nk,fun j hj=>b5x (hgm j hj),fun j hj=>b5O (hqm j hj)⟩
   · obtain⟨y,hy,rfl⟩:=c0f hx
     unfold fzG
     cases hfz:fzO k e y with
     |none=>exact .inl rfl
     |some x'=>
      right
      have hyne:y≠ .bad:=fun e=>by subst e;simp [fzO]at hfz
      rcases hs.T d y hy with h|⟨s,h1,h2⟩
      · exact absurd h hyne
      · simp only at h1 h2
        refine⟨g d s,by simp only [b3B,h1];rfl,up _ _ ?_⟩
        rcases hgs d s with⟨y2,x2,h3,h4,h5,_⟩|⟨h3,_⟩
        · rw [hy]at h3;cases h3
          rw [hfz]at h4;cases h4
          exact h5
        · exfalso
          obtain⟨s',g1,g2,g3⟩:=b6q hz y s x' h2 hfz
          exact h3 ⟨s',y,x',hy,hfz,g1,g2,h2.ne hyne,g3⟩
   · obtain⟨hjk,y,hy,rfl⟩:=c0Y hx
     obtain⟨e1,h1,h2⟩:=hs.H j y hy
     simp only at h1 h2
     simp only
     rw [a9z,a5u hjk,h1]
     cases y with
     |blk dcs ty=>
      cases e1 with
      |row=>exact h2.elim
      |blk b cs ty'=>
       obtain⟨rfl,h2⟩:=h2
       refine⟨_,rfl, ?_⟩
       simp only [fzE,a2Q]
       refine⟨trivial,upL _ _ ?_⟩
       rcases hqs j cs with⟨dcs',ty',h3,h4,_⟩|⟨h3,_⟩
       · rw [hy]at h3;cases h3;exact h4
       · exfalso
         obtain⟨r',g1,g2,g3⟩:=b7H hz dcs cs h2
         exact h3 ⟨r',dcs,ty,hy,g1,g2,g3⟩
     |row z n l ty=>
      cases e1 with
      |blk=>exact h2.elim
      |row v n' xs z' ty'=>
       refine⟨_,rfl, ?_⟩
       simp only [a2Q]at h2
       simp only [fzE,a2Q]
       exact⟨h2.1,h2.2.1,h2.2.2.1,c8.mono (fun b hb=>⟨(hks b).2 (hz.ok b hb),rfl⟩) _ _ h2.2.2.2.1,h2.2.2.2.2⟩
 · intro d s hd
   simp only [b3B]at hd
   cases hl:w3 T d with
   |none=>rw [hl]at hd;cases hd
   |some s0=>
    rw [hl]at hd
    simp only [Option.map_some,Option.some.injEq]at hd
    rcases hgs d s0 with⟨x,x',h3,h4,h5,h6,h7,_⟩|⟨_,h3⟩
    · right
      refine⟨s0,rfl,h7, ?_⟩
      simp only
      rw [hden,←hd];exact h6
    · left;rw [←hd];exact h3
 · intro l r l' hl hfl
   obtain⟨r',g1,g2,_⟩:=a3b hz l r l' hl hfl
   refine⟨r',upL _ _ g1, ?_⟩
   simp only
   rw [←g2,Q9,Q9]
   exact List.map_congr_left fun s _=>hden s
end
end Go.Sx
namespace Go.Sx
open Go Go.RowKit
mutual
theorem a8H {ok ok':Nat→Prop} {w w':World}:∀(x:D) (y:Value),Rep ok w x y→a4F x=true→Rep ok' w' x y
 | .v x,y,h,_=>h
 | .agg l,y,h,hc=>by
  simp only [Rep]at h⊢
  obtain⟨a,h1,h2,h3⟩:=h
  exact⟨a,h1,a9J l _ h2 (by simpa [a4F]using hc),h3⟩
 | .tup l,y,h,hc=>by
  simp only [Rep]at h⊢
  obtain⟨a,h1,h2⟩:=h
  exact⟨a,h1,a9J l _ h2 (by simpa [a4F]using hc)⟩
 | .lst _ _ _,_,_,h=>by simp [a4F]at h
 | .ptr _ _,_,_,h=>by simp [a4F]at h
 | .mp _,_,_,h=>by simp [a4F]at h
 | .fn _ _ _,_,_,h=>by simp [a4F]at h
 | .own _ _,_,_,h=>by simp [a4F]at h
 | .ownx _ _,_,_,h=>by simp [a4F]at h
 | .row _ _,_,_,h=>by simp [a4F]at h
 | .elr _ _ _ _,_,_,h=>by simp [a4F]at h
 | .osl _ _ _ _ _,_,_,h=>by simp [a4F]at h
 | .und,_,_,h=>by simp [a4F]at h
 | .bad,_,_,h=>by simp [a4F]at h
theorem a9J {ok ok':Nat→Prop} {w w':World}:∀(l:List D) (r:List Value),c8 ok w l r→b6f l=true→c8 ok' w' l r
 | [], [],_,_=>trivial
 |d::l,y::r,h,hc=>by
  simp only [c8]at h
  simp only [b6f]at hc
  split at hc
  · rename_i hd;exact⟨a8H d y h.1 hd,a9J l r h.2 hc⟩
  · cases hc
 | [],_::_,h,_=>by simp [c8]at h
 |_::_, [],h,_=>by simp [c8]at h
end
section
variable {A : Nat → Prop} {Xx : Cx} {X : Cy} {w0 : World} {bor : List Nat} {st : St} {sy : Sy} {a : Act} {w : World}
theorem b6r {s1 s2 s3:St} (h:b9F s1 s2) (h':b9F s2 s3):b9F s1 s3:=by
 intro d s hd
 rcases h' d s hd with e|⟨t,h1,h2,h3⟩
 · exact .inl e
 · rcases h d t h1 with e|⟨u,h4,h5,h6⟩
   · exact absurd e h2
   · exact .inr ⟨u,h4,h5,by rw [h3,h6]⟩
theorem a4P (hA:∀b,(Xx.w0.heap.size≤b∨b∈Xx.bor)→A b):∀(ks:List Nat) {st:St} {sy sy':Sy} {l l':List D} {r:List SV},Cls Xx st.H st.nk w w→At st w→Sim A st sy→c0 (okS A st) w (y7 st) l r→a4S ks sy l=some (sy',l')→
 ∃st' r',Cls Xx st'.H st'.nk w w∧At st' w∧Sim A st' sy'∧a7i st'.H st.H∧b9F st st'∧c0 (okS A st') w (y7 st') l' r'∧i4 st'.H r'=i4 st.H r
 | [],st,sy,sy',l,l',r,hc,hat,hs,hl,h=>by
  simp only [a4S]at h;cases h
  exact⟨st,r,hc,hat,hs,a7i.refl _,fun d s h=>by
   by_cases hb:s= .bad
   · exact .inl hb
   · exact .inr ⟨s,h,hb,rfl⟩,hl,rfl⟩
 |k::ks,st,sy,sy',l,l',r,hc,hat,hs,hl,h=>by
  obtain⟨T,H,nk⟩:=sy
  simp only [a4S]at h
  split at h
  · rename_i e he
    split at h
    · rename_i l1 hok hfl
      simp only [b7G,b8i]at h
      obtain⟨st1,c1,a1,s1,b1,n1,o1,f1⟩:=c2B hA hc hat hs he hok
      obtain⟨r1,g1,g2⟩:=f1 l r l1 hl hfl
      obtain⟨st2,r2,c2,a2,s2,b2,o2,g3,g4⟩:=a4P hA ks c1 a1 s1 g1 h
      exact⟨st2,r2,c2,a2,s2,b2.trans b1,b6r o1 o2,g3,by rw [g4,g2]⟩
    · cases h
  · cases h
def now (st:St) (w:World):St:=⟨st.T,st.H,st.nk,w,w.heap.size, []⟩
theorem Rel.now (hr:Rel Xx st a w):Rel Xx (now st w) a w:=by
 refine⟨hr.size,hr.T,hr.dfs, ?_,Nat.le_refl _,by simp [Sx.now]⟩
 have hc:=hr.cls
 exact⟨Fx.refl _ _,hc.fx0,hc.own,hc.nd,hc.lb,hc.keys,hc.lt⟩
theorem a4u (hc:Cls Xx st.H st.nk st.w w):∀b,okS A st b→okS A (now st w) b∧w.heap[b]?=st.w.heap[b]?:=fun b hb=>
 ⟨⟨⟨.inl (Nat.lt_of_lt_of_le hb.2.1 hc.fx.size),hb.1.2⟩,Nat.lt_of_lt_of_le hb.2.1 hc.fx.size,hb.2.2⟩,hc.fx.block b hb.2.1 hb.2.2⟩
theorem Sim.now (hs:Sim A st sy) (hc:Cls Xx st.H st.nk st.w w):Sim A (now st w) sy:=by
 obtain⟨T,H,nk⟩:=sy
 exact hs.mono (a4u hc) (fun _ _ h=>h) (fun _ _ h=>h) (fun _ _ h=>h) rfl hs.fT hs.fH
theorem c0.now {l:List D} {r:List SV} (h:c0 (okS A st) st.w (y7 st) l r) (hc:Cls Xx st.H st.nk st.w w):c0 (okS A (now st w)) w (y7 (now st w)) l r:=c0.mono (a4u hc) (fun _ _ h=>h) _ _ h
theorem Rel.past {w':World} (hr:Rel Xx st a w) (hb:Below w.heap.size w w'):Rel Xx (Sx.now st w') a w':=by
 have hc:=hr.cls
 have hown:∀b,b∈bs st.H→w'.heap[b]?=w.heap[b]?:=fun b hbm=>hb.block b (hc.lt_size hbm)
 exact⟨hr.size,hr.T,hr.dfs,⟨Fx.refl _ _,hc.fx0.of_below hb,fun k e he=>R3 (hc.own k e he) fun b hbe=>hown b (y0.2 ⟨k,e,he,hbe⟩),hc.nd,hc.lb,hc.keys,hc.lt⟩,Nat.le_refl _,by simp [Sx.now]⟩
theorem b4T {w':World} (hc:Cls Xx st.H st.nk st.w w) (hb:Below w.heap.size w w'):∀b,okS A st b→okS A (now st w') b∧w'.heap[b]?=st.w.heap[b]?:=fun b h=>
 ⟨⟨⟨.inl (Nat.lt_of_lt_of_le h.2.1 (Nat.le_trans hc.fx.size hb.size)),h.1.2⟩,Nat.lt_of_lt_of_le h.2.1 (Nat.le_trans hc.fx.size hb.size),h.2.2⟩,by
  rw [hb.block b (Nat.lt_of_lt_of_le h.2.1 hc.fx.size)];exact hc.fx.block b h.2.1 h.2.2⟩
theorem Sim.past {w':World} (hs:Sim A st sy) (hc:Cls Xx st.H st.nk st.w w) (hb:Below w.heap.size w w'):Sim A (Sx.now st w') sy:=by
 obtain⟨T,H,nk⟩:=sy
 exact hs.mono (b4T hc hb) (fun _ _ h=>h) (fun _ _ h=>h) (fun _ _ h=>h) rfl hs.fT hs.fH
def LvY (A:Nat→Prop) (Xx:Cx) (H:Hp) (w:World) (KY:Sy→Prop) (a':Act) (w':World):Prop:=∃st' sy',KY sy'∧Sim A st' sy'∧Lv Xx H w st' a' w'
theorem a5e (v:Value):(m7 v).Nodup:=by unfold m7;split<;>simp
theorem b3a {k b:Nat} {e e':Ent}:∀ {H:Hp},(bs H).Nodup→c7 H k=some e→b∈bsE e→b∉bsE e'→b∉bs (a0x H k e')
 | [],_,h,_,_=>by simp [c7]at h
 |(j,ej)::H,hn,h,hb,hb'=>by
  simp only [bs,List.nodup_append]at hn
  simp only [c7]at h
  simp only [a0x]
  cases hj:Nat.beq j k with
  |true=>
   rw [hj]at h;cases h
   simp only [bs,List.mem_append,not_or]
   exact⟨hb',fun hm=>hn.2.2 b hb b hm rfl⟩
  |false=>
   rw [hj]at h
   simp only [bs,List.mem_append,not_or]
   exact⟨fun hm=>hn.2.2 b hm b (y0.2 ⟨k,e,l6 h,hb⟩) rfl,b3a hn.2.1 h hb hb'⟩
theorem c0z {k:Nat} {v v':Value} {n n' z z' ty ty':Nat} {xs xs':List Value} {w':World} (hr:Rel Xx st a w) (hat:At st w) (hf:c7 st.H k=some (.row v n xs z ty)) (hfx:Fx (m7 v) w w') (hown:w'.ownsRow 0 ty' z' v' n' xs')
 (hb:∀b,b∈m7 v'→b∈m7 v∨w.heap.size≤b):Rel Xx ⟨a0E k st.T,a0x (A2 k st.H) k (.row v' n' xs' z' ty'),st.nk,w',w'.heap.size, []⟩ a w':=by
 have hsplit:∃H1 H2,st.H=H1++(k, .row v n xs z ty)::H2∧(∀e',(k,e')∉H1):=by
  have:∀H:Hp,c7 H k=some (.row v n xs z ty)→∃H1 H2,H=H1++(k, .row v n xs z ty)::H2∧(∀e',(k,e')∉H1):=by
   intro H
   induction H with
   |nil=>intro h;simp [c7]at h
   |cons x H ih=>
    obtain⟨j,e⟩:=x
    intro h
    simp only [c7]at h
    cases hb:Nat.beq j k with
    |true=>rw [hb]at h;cases h;have:=u7 hb;subst this;exact⟨[],H,rfl,by simp⟩
    |false=>
     rw [hb]at h
     obtain⟨H1,H2,rfl,h1⟩:=ih h
     refine⟨(j,e)::H1,H2,rfl,fun e' hm=> ?_⟩
     rcases List.mem_cons.1 hm with hm|hm
     · cases hm;exact a2p hb rfl
     · exact h1 e' hm
  exact this _ hf
 obtain⟨H1,H2,hH,hk1⟩:=hsplit
 have hupd:∀e,a0x (A2 k st.H) k e=A2 k H1++(k,e)::A2 k H2:=by
  intro e
  rw [hH]
  clear hH hf
  induction H1 with
  |nil=>simp [A2,a0x]
  |cons x H1 ih=>
   obtain⟨j,ej⟩:=x
   have hj:j≠k:=fun e=>hk1 ej (by rw [e];exact List.mem_cons_self)
   simp only [List.cons_append,A2,a0x,U0 hj]
   rw [ih fun e' hm=>hk1 e' (List.mem_cons_of_mem _ hm)]
 have hc:=hr.cls
 have hcw:Cls Xx st.H st.nk w w:=⟨Fx.refl _ _,hc.fx0,hc.own,hc.nd,hc.lb,hc.keys,hc.lt⟩
 have hnin:∀i,i∉m7 v→∀b,b∈m7 v→b≠i:=fun i hi b hb e=>hi (e▸hb)
 obtain⟨hcls,hden⟩:=hcw.grow (v':=v') (n:=n') (sz:=z') (ty:=ty') (xs:=xs') hH hk1 hown (fun i hi hn=>hfx.block i hi (hnin i (by simpa [bsE]using hn))) hfx.size hfx.os hfx.tape hfx.output (by simpa [bsE]using hb)
  (fun b hb=>hc.lb b (y0.2 ⟨k,_,l6 hf,hb⟩))
 refine⟨hr.size,fun d s hlk=> ?_,hr.dfs,by rw [hupd];exact hcls,Nat.le_refl _,by simp⟩
 rcases a9K hlk with h|⟨h,hm⟩
 · exact .inl h
 · rcases hr.T d s h with h|h
   · exact .inl h
   · right;rw [h];simp only;rw [hupd,hden s hm]
theorem b3R {k:Nat} {e:Ent}:∀ {H:Hp},c7 H k=some e→∃H1 H2,H=H1++(k,e)::H2∧(∀e',(k,e')∉H1)∧∀e',a0x H k e'=H1++(k,e')::H2
 | [],h=>by simp [c7]at h
 |(j,ej)::H,h=>by
  simp only [c7]at h
  cases hb:Nat.beq j k with
  |true=>rw [hb]at h;cases h;have:=u7 hb;subst this;exact⟨[],H,rfl,by simp,fun e'=>by simp [a0x]⟩
  |false=>
   rw [hb]at h
   obtain⟨H1,H2,rfl,h1,h2⟩:=b3R h
   refine⟨(j,ej)::H1,H2,rfl,fun e' hm=> ?_,fun e'=>by simp only [a0x,hb,h2];rfl⟩
   rcases List.mem_cons.1 hm with hm|hm
   · cases hm;exact a2p hb rfl
   · exact h1 e' hm
theorem b9l {v:Value} {w w':World} (h:Fx (m7 v) w w') (hlt:∀b,b∈m7 v→b<w.heap.size):∃w1,Below w.heap.size w w1∧w'.heap.size=w1.heap.size∧(∀i,i∉m7 v→w'.heap[i]?=w1.heap[i]?)∧w'.os=w1.os∧w'.tape=w1.tape∧w'.output=w1.output:=by
 have hcases:m7 v= []∨∃g,m7 v= [g]:=by
  unfold m7
  split
  · exact .inr ⟨_,rfl⟩
  · exact .inl rfl
 rcases hcases with h0|⟨g,h0⟩
 · rw [h0]at h⊢
   exact⟨w',⟨h.os,h.tape,h.output,h.size,fun i hi=>h.block i hi (by simp)⟩,rfl,fun _ _=>rfl,rfl,rfl,rfl⟩
 · rw [h0]at h hlt⊢
   have hg:=hlt g (by simp)
   refine⟨{ w' with heap:=w'.heap.setIfInBounds g (w.heap[g]'hg)},⟨h.os,h.tape,h.output,by simpa using h.size,fun i hi=> ?_⟩,by simp,fun i hi=> ?_,rfl,rfl,rfl⟩
   · simp only [Array.getElem?_setIfInBounds]
     by_cases e:g=i
     · subst e
       rw [if_pos rfl,if_pos (Nat.lt_of_lt_of_le hg h.size),Array.getElem?_eq_getElem hg]
     · rw [if_neg e]
       exact h.block i hi (by simpa using e)
   · simp only [Array.getElem?_setIfInBounds]
     rw [if_neg (fun e=>hi (by simp [e]))]
theorem b9J {A:Nat→Prop} {X:Cy} {w0:World} {bor:List Nat} {st1:St} {sy1:Sy} {H0:Hp} {a:Act} {w w':World} {KY:Sy→Prop} {dst:Option Nat} {k z n ty:Nat} {v:Value} {xs:List Value} {l':List D}
 (hr1:Rel (cx X w0 bor) st1 a w) (a1:At st1 w) (s1:Sim A st1 sy1) (b1:a7i st1.H H0) (hf':c7 st1.H k=some (.row v n xs z ty)) (hk:R5 X ⟨sy1.T,b0w sy1.H k (.row z n l' ty),sy1.nk⟩ dst (.tup []) KY)
 (hrow:a9a (fun b=>okS A st1 b∧b∉m7 v) w' z n l' ty v) (hfx:Fx (m7 v) w w'):∃st' sy',KY sy'∧Sim A st' sy'∧Lv (cx X w0 bor) H0 w st' (a.put dst (.tuple #[])) w':=by
 obtain⟨T,H,nk⟩:=sy1
 obtain⟨T',H',nk',ws,lo,iv⟩:=st1
 obtain⟨h1,h2,h3⟩:=a1
 simp only at h1 h2 h3
 subst h1 h2 h3
 have c1:Cls (cx X w0 bor) H' nk' ws ws:=hr1.cls
 have hlt:∀b,b∈m7 v→b<ws.heap.size:=fun b hb=>c1.lt_size (y0.2 ⟨k,_,l6 hf',hb⟩)
 obtain⟨w1,hb1,hz1,hh1,ho1,ho2,ho3⟩:=b9l hfx hlt
 have hr2:=hr1.past hb1
 have s2:=s1.past c1 hb1
 obtain⟨xs',hown',hrp,hfl',hlen'⟩:=hrow
 simp only at hf'
 obtain⟨H1,H2,hH,hk1,hupd⟩:=b3R hf'
 have hd:∀j,bOf (H1++(k, .row v n xs' z ty)::H2) j=bOf (H1++(k, .row v n xs z ty)::H2) j∧l4 (H1++(k, .row v n xs' z ty)::H2) j=l4 (H1++(k, .row v n xs z ty)::H2) j:=by
  intro j
  simp only [bOf,l4,a1R (e:= .row v n xs' z ty) (e0:= .row v n xs z ty) hk1]
  by_cases hj:j=k
  · subst hj;simp [a1k hk1]
  · simp [hj]
 have hr3:Rel (cx X w0 bor) ⟨T',H1++(k, .row v n xs' z ty)::H2,nk',w1,w1.heap.size, []⟩ a w':=by
  have hr2':Rel (cx X w0 bor) ⟨T',H1++(k, .row v n xs z ty)::H2,nk',w1,w1.heap.size, []⟩ a w1:=by
   have:=hr2
   unfold Sx.now at this
   simp only at this
   rw [hH]at this
   exact this
  exact hr2'.swap rfl hd hz1 hh1 ho1 ho2 ho3 hown'
 have hr4:=hr3.now
 have s3:Sim A ⟨T',a0x H' k (.row v n xs' z ty),nk',w1,w1.heap.size, []⟩ ⟨T,b0w H k (.row z n l' ty),nk⟩:=by
  refine b4p (e0:= .row v n xs z ty) s2 hf' ?_ rfl (fun _=>⟨_,_,_,_,_,rfl⟩) fun j hj=>rfl
  refine⟨rfl,rfl,rfl,c8.mono (fun b hb=>⟨?_,(hh1 b hb.2).symm⟩) _ _ hrp,hfl',hlen'⟩
  exact(b4T c1 hb1 b hb.1).1
 rw [hupd]at s3
 have s4:=s3.now hr3.cls
 have hput:=F8 (w0:=w0) (bor:=bor) (s:= .v (.tuple #[])) hk s4 (by simp only [c4];exact .inr ⟨_,rfl,trivial⟩)
 obtain⟨st2,⟨sy2,g1,g2⟩,g3,g4⟩:=a1G hr4 hput (v:= .tuple #[]) (.inr rfl)
 refine⟨st2,sy2,g1,g2,g3,hfx.wide fun b hb=>b1.bs b (y0.2 ⟨k,_,l6 hf',hb⟩),fun b hb2=> .inl ?_⟩
 rw [g4]at hb2
 refine b1.bs b ?_
 have:bs (H1++(k,Ent.row v n xs' z ty)::H2)=bs H':=by rw [hH];exact b0E rfl
 rw [←this];exact hb2
theorem b8U (hA:∀b,(w0.heap.size≤b∨b∈bor)→A b) {o:Oper} {Q:Exit→Act→World→Prop} {KY:Sy→Prop} {f:FuncId} {args:List D} {args':List SV} (hr:Rel (cx X w0 bor) st a w) (hs:Sim A st sy) (ha:c0 (okS A st) st.w (y7 st) args args')
 (h:match(generalizing:=false) true,args with
 |true,x::rest=>match a4S (b8e sy.H rest) sy (x::rest)with
  |some (st', .row k _::fa)=>match P8 fa,j7 st'.H k with
   |true,some e=>(b1I X.P f k e fa st' fun sy' x=>R5 X sy' o.dst x KY)∨(c0T X.P f k e fa st' fun sy' x=>R5 X sy' o.dst x KY)
   |_,_=>False
  |_=>False
 |_,_=>False) (hout:a1x (cx X w0 bor) st a o (.call f args')):o.wp X.P a w (LvY A (cx X w0 bor) st.H w KY) Q:=by
 have hr0:=hr.now
 have hs0:=hs.now hr.cls
 have ha0:=ha.now hr.cls
 split at h
 · rename_i x rest _ _
   split at h
   · rename_i sy1 k z0 fa hfz
     split at h
     · rename_i e hcl hfe
       obtain⟨st1,l1,c1,a1,s1,b1,o1,g1,g2⟩:=a4P (Xx:=cx X w0 bor) hA _ hr0.cls ⟨rfl,rfl,rfl⟩ hs0 ha0 hfz
       have hr1:Rel (cx X w0 bor) st1 a w:=by
        refine⟨hr.size,fun d s hd=> ?_,hr.dfs, ?_, ?_, ?_⟩
        · rcases o1 d s hd with e|⟨s0,h1,h2,h3⟩
          · exact .inl e
          · rcases hr0.T d s0 h1 with e|e
            · exact absurd e h2
            · right;rw [e,h3]
        · rw [a1.1];exact c1
        · rw [a1.2.1];exact Nat.le_refl _
        · rw [a1.2.2];simp
       cases l1 with
       |nil=>simp [c0]at g1
       |cons s0 fa'=>
        simp only [c0]at g1
        obtain⟨g0,g1⟩:=g1
        simp only [c4]at g0
        obtain⟨rfl,hkey⟩:=g0
        obtain⟨e',hf',he⟩:=s1.H _ _ hfe
        cases e with
        |blk=>rcases h with h|h<;>(obtain⟨z,n,l,ty,_⟩:=h.ex;simp_all)
        |row z n l ty=>
        cases e' with
        |blk=>exact he.elim
        |row v n1 xs z1 ty1=>
         obtain⟨rfl,rfl,rfl,hrep,hfl,hlen⟩:=he
         rw [a1.1]at hrep
         have hown:=c1.row hf'
         have hdv:den st1.H (.row k)=v:=by simp [den,l4,hf']
         have hrepA:=H7 (H:=st1.H) _ _ g1 hcl
         have hnok:∀b,b∈m7 v→¬okS A st1 b:=fun b hb hok=>hok.2.2 b (y0.2 ⟨k,_,l6 hf',hb⟩) rfl
         have hoksz:∀b,okS A st1 b→b<w.heap.size:=fun b hb=>by have:=hb.2.1;rw [a1.1]at this;exact this
         have hargs:(i4 st.H args').toArray=(v::i4 st1.H fa').toArray:=by
          have:i4 st1.H (.row k::fa')=i4 st.H args':=g2
          rw [←this];simp only [i4,hdv]
         rcases h with h|h
         rotate_left
         · obtain⟨_,_,_,_,n',l',he1,⟨rfl,hd⟩,hk⟩:=h.ex
           cases he1
           have hcall:=hd (okS A st1) w v _ ⟨xs,hown,hrep,hfl,hlen⟩ hnok hrepA hoksz
           rw [←hargs]at hcall
           have hbody:=a0g hcall fun e w' ⟨he,_⟩=>⟨_,he⟩
           unfold Oper.wp
           rw [show(execOp a.eval o).run X.P w=_ from hout w hbody]
           simp only [Oper.upon]
           refine hcall.mono fun e w' ⟨he,hrow,hb⟩=> ?_
           subst he
           simp only
           exact b9J hr1 a1 s1 b1 hf' (a3j hk) hrow hb
         obtain⟨_,_,_,_,z',n',l',he1,hd,hk⟩:=h.ex
         cases he1
         have hcall:=hd (okS A st1) w v _ ⟨xs,hown,hrep,hfl,hlen⟩ hnok hrepA hoksz
         rw [←hargs]at hcall
         have hbody:=a0g hcall fun e w' ⟨v',he,_⟩=>⟨_,he⟩
         unfold Oper.wp
         rw [show(execOp a.eval o).run X.P w=_ from hout w hbody]
         simp only [Oper.upon]
         refine hcall.mono fun e w' ⟨v',he,hfr,⟨xs',hown',hrp,hfl',hlen'⟩,hb⟩=> ?_
         subst he
         simp only
         have hk:=a3j hk
         rw [a9w]at hk
         have hrel2:=c0z hr1 a1 hf' hb hown' hfr
         obtain⟨T,H,nk⟩:=sy1
         obtain⟨T',H',nk',ws,lo,iv⟩:=st1
         obtain⟨h1,h2,h3⟩:=a1
         simp only at h1 h2 h3
         subst h1 h2 h3
         have hlt:∀c,c∈bs H'→c<ws.heap.size:=fun c hc=>c1.lt_size hc
         have hfxH:Fx (bs H') ws w':=hb.wide fun b hb=>y0.2 ⟨k,_,l6 hf',hb⟩
         have hsim:Sim A ⟨a0E k T',a0x (A2 k H') k (.row v' n' xs' z' ty),nk',w',w'.heap.size, []⟩ ⟨a5r k T,b0w (a4v k H) k (.row z' n' l' ty),nk⟩:=by
          refine b8m (lo:=ws.heap.size) (iv:= []) (w:=ws) s1 hf' (fun b hb=> ?_) hfxH (.inl rfl) ?_ hfl' hlen'
          · rcases hfr b hb with h|h
            · exact .inl (y0.2 ⟨k,_,l6 hf',h⟩)
            · exact .inr h
          · refine c8.mono (fun b hbk=>⟨?_,rfl⟩) _ _ hrp
            obtain⟨hb1,hb2⟩:=hbk
            have hne:∀c,c∈bs (a0x (A2 k H') k (.row v' n' xs' z' ty))→c≠b:=by
             intro c hc e
             subst e
             rcases hb1 with hb1|hb1|hb1
             · rcases a9A hc with hc|hc
               · rw [a4s]at hc
                 exact hb1.2.2 c hc rfl
               · exact hb2 hc
             · exact b3a (by rw [a4s];exact c1.nd) (show c7 (A2 k H') k=some (a0D k _) by rw [K9,hf'];rfl) (by rw [a8r];exact hb1) hb2 hc
             · rcases a9A hc with hc|hc
               · rw [a4s]at hc
                 have:=hlt c hc;omega
               · exact hb2 hc
            rcases hb1 with hb1|hb1|hb1
            · exact⟨⟨.inl (Nat.lt_of_lt_of_le hb1.2.1 hb.size),hb1.1.2⟩,Nat.lt_of_lt_of_le hb1.2.1 hb.size,hne⟩
            · have hbm:b∈bs H':=y0.2 ⟨k,_,l6 hf',hb1⟩
              have hlw:=Nat.lt_of_lt_of_le (hlt b hbm) hb.size
              exact⟨⟨.inl hlw,hA b (c1.lb b hbm).symm⟩,hlw,hne⟩
            · exact⟨⟨.inl hb1.2,hA b (.inl (Nat.le_trans c1.fx0.size hb1.1))⟩,hb1.2,hne⟩
         have hfu:c7 (a0x (A2 k H') k (.row v' n' xs' z' ty)) k=some (.row v' n' xs' z' ty):=by
          rw [a0r (e0:=a0D k _) (by rw [K9,hf'];rfl)];simp
         have hput:=F8 (w0:=w0) (bor:=bor) (s:= .row k) hk hsim (by simp only [c4];exact⟨trivial,hkey.1,fun _=>⟨_,_,_,_,_,hfu⟩⟩)
         obtain⟨st2,⟨sy2,h1,h2⟩,h3,h4⟩:=a1G hrel2 hput (v:=v') (.inr (by simp [den,l4,hfu]))
         refine⟨st2,sy2,h1,h2,h3,hb.wide fun b hb=>b1.bs b (y0.2 ⟨k,_,l6 hf',hb⟩),fun b hb2=> ?_⟩
         rw [h4]at hb2
         rcases a9A hb2 with hb2|hb2
         · rw [a4s]at hb2;exact .inl (b1.bs b hb2)
         · rcases hfr b hb2 with h|h
           · exact .inl (b1.bs b (y0.2 ⟨k,_,l6 hf',h⟩))
           · exact .inr h
     · exact h.elim
   · exact h.elim
 · exact h.elim
def LvK (A:Nat→Prop) (Xx:Cx) (H:Hp) (w:World) (KY:Sy→Prop) (a':Act) (w':World):Prop:=∃st' sy',KY sy'∧Sim A st' sy'∧Lv Xx H w st' a' w'∧(∀i,i<w.heap.size→w'.heap[i]?=w.heap[i]?)∧KB H w st'.H
theorem b7j (hA:∀b,(w0.heap.size≤b∨b∈bor)→A b) {o:Oper} {Q:Exit→Act→World→Prop} {KY:Sy→Prop} {f:FuncId} {args:List D} {args':List SV} (hr:Rel (cx X w0 bor) st a w) (hs:Sim A st sy) (ha:c0 (okS A st) st.w (y7 st) args args')
 (hcl:P8 args=true) (h:b2g X.P f args sy fun sy' x=>R5 X sy' o.dst x KY) (hout:a1x (cx X w0 bor) st a o (.call f args')):o.wp X.P a w (LvK A (cx X w0 bor) st.H w KY) Q:=by
 have hr0:=hr.now
 have hs0:=hs.now hr.cls
 have ha0:=ha.now hr.cls
 obtain⟨z,n,l,ty,hd,hk⟩:=h.ex
 have hrep:=H7 (H:=st.H) _ _ ha0 hcl
 have hcall:=hd (okS A (now st w)) w _ hrep fun b hb=>hb.2.1
 have hbody:=a0g hcall fun e w' ⟨v,he,_⟩=>⟨_,he⟩
 unfold Oper.wp
 rw [show(execOp a.eval o).run X.P w=_ from hout w hbody]
 simp only [Oper.upon]
 refine hcall.mono fun e w' ⟨v,he,hfr,⟨xs,hown,hrp,hfl,hlen⟩,hb⟩=> ?_
 subst he
 simp only
 obtain⟨T,H,nk⟩:=sy
 obtain⟨T',H',nk',ws,lo,iv⟩:=st
 have hnk:nk=nk':=hs.nk
 subst hnk
 have hownB:=a5e v
 have hblk:∀i,i<w.heap.size→w'.heap[i]?=w.heap[i]?:=fun i hi=>hb.block i hi
 have hrel:=hr0.cons (w':=w') (e:= .row v n xs z ty) (hs.fT nk (Nat.le_refl _)) (hs.fH nk (Nat.le_refl _)) hb.size hblk hb.os hb.tape hb.output hown hfr hownB
 have hrel2:=hrel.now
 have hlt:∀c,c∈bs H'→c<w.heap.size:=fun c hc=>hr.cls.lt_size hc
 have hsim:Sim A ⟨T',(nk, .row v n xs z ty)::H',nk+1,w',w'.heap.size, []⟩ ⟨T,(nk, .row z n l ty)::H,nk+1⟩:=by
  refine b5w (lo:=w.heap.size) (iv:= []) (w:=w) hs0 (fun b hb=> .inr (hfr b hb)) ((Fx.refl _ _).of_below hb) (.inl rfl) ?_ hfl hlen
  refine c8.mono (fun b hbk=>⟨?_,rfl⟩) _ _ hrp
  obtain⟨hb1,hb2⟩:=hbk
  have hne:∀c,c∈bs ((nk,Ent.row v n xs z ty)::H')→c≠b:=by
   intro c hc e
   subst e
   simp only [bs,bsE,List.mem_append]at hc
   rcases hc with hc|hc
   · exact hb2 hc
   · rcases hb1 with hb1|hb1
     · exact hb1.2.2 c hc rfl
     · have:=hlt c hc;omega
  rcases hb1 with hb1|hb1
  · exact⟨⟨.inl (Nat.lt_of_lt_of_le hb1.2.1 hb.size),hb1.1.2⟩,Nat.lt_of_lt_of_le hb1.2.1 hb.size,hne⟩
  · exact⟨⟨.inl hb1.2,hA b (.inl (Nat.le_trans hr.cls.fx0.size hb1.1))⟩,hb1.2,hne⟩
 have hput:=F8 (w0:=w0) (bor:=bor) (s:= .row nk) hk hsim (by simp only [c4];exact⟨trivial,by simp only;omega,fun _=>⟨_,_,_,_,_,by simp [c7];exact⟨rfl,rfl,rfl,rfl,rfl⟩⟩⟩)
 obtain⟨st2,⟨sy2,h1,h2⟩,h3,h4⟩:=a1G hrel2 hput (v:=v) (.inr (by simp [den,l4,now,c7]))
 refine⟨st2,sy2,h1,h2,⟨h3,(Fx.refl _ _).of_below hb,fun b hb2=> ?_⟩,hblk,fun k e hm b hb2=> ?_⟩
 rotate_left
 · rw [h4]at hm
   simp only [now]at hm
   rcases List.mem_cons.1 hm with hm|hm
   · cases hm;exact .inl (hfr b hb2)
   · exact .inr ⟨e,hm,hb2⟩
 rw [h4]at hb2
 simp only [now,bs,bsE,List.mem_append]at hb2
 rcases hb2 with hb2|hb2
 · exact .inr (hfr b hb2)
 · exact .inl hb2
abbrev b2M:=Value×Nat×List Value×Nat×TypeId
def X5:Nat→List b2M→Hp→Hp
 |_, [],H=>H
 |k,(v,n,xs,z,ty)::rs,H=>X5 (k+1) rs ((k, .row v n xs z ty)::H)
theorem b0W:∀(rs:List b2M) (k:Nat) (H:Hp) (b:Nat),b∈bs (X5 k rs H)↔b∈bs H∨b∈rs.flatMap fun r=>m7 r.1
 | [],k,H,b=>by simp [X5]
 |(v,n,xs,z,ty)::rs,k,H,b=>by
  rw [X5,b0W rs]
  simp only [bs,bsE,List.mem_append,List.flatMap_cons]
  constructor
  · rintro((h|h)|h)
    · exact .inr (.inl h)
    · exact .inl h
    · exact .inr (.inr h)
  · rintro(h|h|h)
    · exact .inl (.inr h)
    · exact .inl (.inl h)
    · exact .inr h
theorem b3D:∀(rs:List b2M) (k:Nat) (H:Hp) (j:Nat) (e:Ent),(j,e)∈X5 k rs H→(j,e)∈H∨(∀b,b∈bsE e→b∈rs.flatMap fun r=>m7 r.1)
 | [],k,H,j,e,h=> .inl h
 |(v,n,xs,z,ty)::rs,k,H,j,e,h=>by
  rw [X5]at h
  rcases b3D rs _ _ _ _ h with h|h
  · rcases List.mem_cons.1 h with h|h
    · cases h
      exact .inr fun b hb=>by simp only [List.flatMap_cons,List.mem_append];exact .inl hb
    · exact .inl h
  · exact .inr fun b hb=>by simp only [List.flatMap_cons,List.mem_append];exact .inr (h b hb)
theorem b0d {j:Nat}:∀(rs:List b2M) (k:Nat) (H:Hp),E0 j H=true→E0 j (X5 k rs H)=true
 | [],_,_,h=>h
 |(v,n,xs,z,ty)::rs,k,H,h=>b0d rs _ _ (by simpa [E0]using h)
theorem a0L {k:Nat}:∀(rs:List b2M) (nk:Nat) (H:Hp),k<nk→c7 (X5 nk rs H) k=c7 H k
 | [],_,_,_=>rfl
 |(v,n,xs,z,ty)::rs,nk,H,h=>by rw [X5,a0L rs _ _ (by omega),R8 (by omega)]
theorem a2P:∀(rs:List b2M) (nk:Nat) (H:Hp) (i:Nat) (v:Value) (n:Nat) (xs:List Value) (z:Nat) (ty:TypeId),rs[i]?=some (v,n,xs,z,ty)→c7 (X5 nk rs H) (nk+i)=some (.row v n xs z ty)
 | [],_,_,_,_,_,_,_,_,h=>by simp at h
 |(v',n',xs',z',ty')::rs,nk,H,i,v,n,xs,z,ty,h=>by
  rw [X5]
  cases i with
  |zero=>
   simp at h
   obtain⟨rfl,rfl,rfl,rfl,rfl⟩:=h
   rw [Nat.add_zero,a0L rs _ _ (by omega)]
   simp [c7]
  |succ i=>
   have:=a2P rs (nk+1) ((nk, .row v' n' xs' z' ty')::H) i v n xs z ty (by simpa using h)
   rw [show nk+(i+1)=nk+1+i by omega]
   exact this
theorem a9Q {k:Nat} {e:E}:∀(rs:List (Nat×Nat×List D×TypeId)) (nk:Nat) (H:Hy),(∀k e,j7 H k=some e→k<nk)→j7 (b5W nk rs H) k=some e→j7 H k=some e∧k<nk∨∃i z n l ty,k=nk+i∧rs[i]?=some (z,n,l,ty)∧e= .row z n l ty
 | [],nk,H,hl,h=> .inl ⟨h,hl _ _ h⟩
 |(z,n,l,ty)::rs,nk,H,hl,h=>by
  rw [b5W]at h
  rcases a9Q rs (nk+1) _ (fun k e hk=>by
   simp only [j7]at hk
   cases hb:Nat.beq nk k with
   |true=>have:=u7 hb;omega
   |false=>rw [hb]at hk;have:=hl _ _ hk;omega) h with⟨h,hlt⟩|⟨i,z',n',l',ty',rfl,h1,h2⟩
  · simp only [j7]at h
    cases hb:Nat.beq nk k with
    |true=>
     rw [hb]at h;cases h
     have:=u7 hb;subst this
     exact .inr ⟨0,z,n,l,ty,rfl,rfl,rfl⟩
    |false=>
     rw [hb]at h
     exact .inl ⟨h,by have:=a2p hb;omega⟩
  · exact .inr ⟨i+1,z',n',l',ty',by omega,by simpa using h1,h2⟩
theorem Rel.consL {Xx:Cx} {a:Act} {w:World} {T:List (Nat×SV)} {ws:World} {lo:Nat} {iv:List (Nat×Nat)}:∀(rs:List b2M) (H:Hp) (nk:Nat),Rel Xx ⟨T,H,nk,ws,lo,iv⟩ a w→(∀j,nk≤j→s9 j T=true)→(∀j,nk≤j→E0 j H=true)→
 (∀v n xs z ty,(v,n,xs,z,ty)∈rs→w.ownsRow 0 ty z v n xs)→(∀b,(b∈rs.flatMap fun r=>m7 r.1)→Xx.w0.heap.size≤b∧b∉bs H)→(rs.flatMap fun r=>m7 r.1).Nodup→Rel Xx ⟨T,X5 nk rs H,nk+rs.length,ws,lo,iv⟩ a w
 | [],_,_,hr,_,_,_,_,_=>hr
 |(v,n,xs,z,ty)::rs,H,nk,hr,hT,hH,ho,hb,hn=>by
  simp only [List.flatMap_cons,List.nodup_append]at hn
  have h1:=hr.consG (e:= .row v n xs z ty) (hT nk (Nat.le_refl _)) (hH nk (Nat.le_refl _)) (ho v n xs z ty List.mem_cons_self) (fun b hb'=>hb b (by simp only [List.flatMap_cons,List.mem_append];exact .inl hb')) (a5e v)
  have h2:=Rel.consL rs _ _ h1 (fun j hj=>hT j (Nat.le_of_succ_le hj)) (fun j hj=>by simpa [E0]using hH j (Nat.le_of_succ_le hj)) (fun v n xs z ty h=>ho v n xs z ty (List.mem_cons_of_mem _ h)) (fun b hb'=>by
   have h3:=hb b (by simp only [List.flatMap_cons,List.mem_append];exact .inr hb')
   refine⟨h3.1,fun hc=> ?_⟩
   simp only [bs,bsE,List.mem_append]at hc
   rcases hc with hc|hc
   · exact hn.2.2 b hc b hb' rfl
   · exact h3.2 hc) hn.2.1
  rw [X5,List.length_cons,show nk+(rs.length+1)=nk+1+rs.length by omega]
  exact h2
theorem a2C.choose {ok:Nat→Prop} {w:World}:∀ {rows:List (Nat×Nat×List D×TypeId)} {rv:List Value},a2C ok w rows rv→
 ∃rs:List b2M,rs.map (·.1)=rv∧rs.length=rows.length∧(∀v n xs z ty,((v,n,xs,z,ty):b2M)∈rs→w.ownsRow 0 ty z v n xs)∧
  ∀(i z n:Nat) (l:List D) (ty:TypeId),rows[i]?=some (z,n,l,ty)→∃(v:Value) (xs:List Value),rs[i]?=some ((v,n,xs,z,ty):b2M)∧c8 ok w l xs∧y5 l=true∧l.length=n*z
 | [], [],_=>⟨[],rfl,rfl,fun _ _ _ _ _ h=>by simp at h,fun _ _ _ _ _ h=>by simp at h⟩
 |(z,n,l,ty)::rows,v::rv,h=>by
  simp only [a2C]at h
  obtain⟨⟨xs,h1,h2,h3,h4⟩,h5⟩:=h
  obtain⟨rs,g1,g2,g3,g4⟩:=a2C.choose h5
  refine⟨(v,n,xs,z,ty)::rs,by simp [g1],by simp [g2],fun v' n' xs' z' ty' hm=> ?_,fun i z' n' l' ty' hi=> ?_⟩
  · rcases List.mem_cons.1 hm with hm|hm
    · cases hm;exact h1
    · exact g3 _ _ _ _ _ hm
  · cases i with
    |zero=>simp at hi;obtain⟨rfl,rfl,rfl,rfl⟩:=hi;exact⟨v,xs,rfl,h2,h3,h4⟩
    |succ i=>
     obtain⟨v',xs',e1,e2⟩:=g4 i z' n' l' ty' (by simpa using hi)
     exact⟨v',xs',by simpa using e1,e2⟩
 | [],_::_,h=>by simp [a2C]at h
 |_::_, [],h=>by simp [a2C]at h
theorem b6U (hA:∀b,(w0.heap.size≤b∨b∈bor)→A b) {o:Oper} {Q:Exit→Act→World→Prop} {KY:Sy→Prop} {f:FuncId} {args:List D} {args':List SV} (hr:Rel (cx X w0 bor) st a w) (hs:Sim A st sy) (ha:c0 (okS A st) st.w (y7 st) args args')
 (hcl:P8 args=true) (h:a3F X.P f args sy fun sy' x=>R5 X sy' o.dst x KY) (hout:a1x (cx X w0 bor) st a o (.call f args')):o.wp X.P a w (LvK A (cx X w0 bor) st.H w KY) Q:=by
 have hr0:=hr.now
 have hs0:=hs.now hr.cls
 have ha0:=ha.now hr.cls
 obtain⟨rows,cells,⟨hfl,hd⟩,hk⟩:=h.ex
 have hrep:=H7 (H:=st.H) _ _ ha0 hcl
 have hcall:=hd (okS A (now st w)) w _ hrep fun b hb=>hb.2.1
 have hbody:=a0g hcall fun e w' ⟨v,rv,he,_⟩=>⟨_,he⟩
 unfold Oper.wp
 rw [show(execOp a.eval o).run X.P w=_ from hout w hbody]
 simp only [Oper.upon]
 refine hcall.mono fun e w' hex=> ?_
 obtain⟨av,rv,he,hbl,hnd,hrows,hcells,hb⟩:=hex
 subst he
 simp only
 obtain⟨T,H,nk⟩:=sy
 obtain⟨T',H',nk',ws,lo,iv⟩:=st
 have hnk:nk=nk':=hs.nk
 subst hnk
 obtain⟨rs,e1,e2,hown,hrow⟩:=hrows.choose
 have hflat:(rs.flatMap fun r=>m7 r.1)=rv.flatMap m7:=by rw [←e1,List.flatMap_map]
 have hlt:∀c,c∈bs H'→c<w.heap.size:=fun c hc=>hr.cls.lt_size hc
 have hblk:∀i,i<w.heap.size→w'.heap[i]?=w.heap[i]?:=fun i hi=>hb.block i hi
 have hrel0:=hr0.past hb
 have hrel:Rel (cx X w0 bor) ⟨T',X5 nk rs H',nk+rs.length,w',w'.heap.size, []⟩ a w':=by
  refine Rel.consL rs H' nk hrel0 hs.fT hs.fH hown (fun b hb'=> ?_) (by rw [hflat];exact hnd)
  rw [hflat]at hb'
  have h1:=hbl b hb'
  exact⟨Nat.le_trans hr.cls.fx0.size h1.1,fun hc=>by have:=hlt b hc;omega⟩
 have hne:∀b,(∀c,c∈bs H'→c≠b)→b∉rv.flatMap m7→∀c,c∈bs (X5 nk rs H')→c≠b:=by
  intro b h1 h2 c hc
  rcases(b0W rs nk H' c).1 hc with hc|hc
  · exact h1 c hc
  · rw [hflat]at hc
    exact fun e=>h2 (e▸hc)
 have hokN:∀b,((okS A (now ⟨T',H',nk,ws,lo,iv⟩ w) b∨(w.heap.size≤b∧b<w'.heap.size))∧b∉rv.flatMap m7)→okS A ⟨T',X5 nk rs H',nk+rs.length,w',w'.heap.size, []⟩ b:=by
  rintro b ⟨hb1,hb2⟩
  rcases hb1 with hb1|hb1
  · exact⟨⟨.inl (Nat.lt_of_lt_of_le hb1.2.1 hb.size),hb1.1.2⟩,Nat.lt_of_lt_of_le hb1.2.1 hb.size,hne b hb1.2.2 hb2⟩
  · exact⟨⟨.inl hb1.2,hA b (.inl (Nat.le_trans hr.cls.fx0.size hb1.1))⟩,hb1.2,hne b (fun c hc e=>by have:=hlt c hc;omega) hb2⟩
 have hokO:∀b,okS A (now ⟨T',H',nk,ws,lo,iv⟩ w) b→okS A ⟨T',X5 nk rs H',nk+rs.length,w',w'.heap.size, []⟩ b∧w'.heap[b]?=w.heap[b]?:=fun b hb1=>
  ⟨hokN b ⟨.inl hb1,fun hc=>by have h1:=(hbl b hc).1;have h2:=hb1.2.1;simp only [now]at h2;omega⟩,hblk b hb1.2.1⟩
 have hkO:∀q k,y7 (now ⟨T',H',nk,ws,lo,iv⟩ w) q k→y7 ⟨T',X5 nk rs H',nk+rs.length,w',w'.heap.size, []⟩ q k:=by
  intro q k ⟨h1,h2⟩
  simp only [now]at h1
  refine⟨by simp only;omega,fun hq=> ?_⟩
  simp only
  rw [a0L rs _ _ h1]
  exact h2 hq
 have hsim:Sim A ⟨T',X5 nk rs H',nk+rs.length,w',w'.heap.size, []⟩ ⟨T,b5W nk rows H,nk+rows.length⟩:=by
  refine⟨fun d x hx=> ?_,fun k e he=> ?_,by rw [e2],fun j hj=>hs.fT j (by simp only at hj⊢;omega),fun j hj=>b0d rs _ _ (hs.fH j (by simp only at hj⊢;omega))⟩
  · rcases hs0.T d x hx with h|⟨s,h1,h2⟩
    · exact .inl h
    · exact .inr ⟨s,h1,c4.mono hokO hkO _ _ h2⟩
  · have hyl:∀k e,j7 H k=some e→k<nk:=fun k e h=>by
     obtain⟨e',h1,_⟩:=hs.H k e h
     exact hr.cls.lt k e' (l6 h1)
    rcases a9Q rows nk H hyl he with⟨h1,h2⟩|⟨i,z,n,l,ty,rfl,h1,rfl⟩
    · obtain⟨e',g1,g2⟩:=hs0.H k e h1
      exact⟨e',by rw [show(_:St).H=_ from rfl];simp only;rw [a0L rs _ _ h2];exact g1,a2Q.mono hokO hkO g2⟩
    · obtain⟨v,xs,g1,g2,g3,g4⟩:=hrow i z n l ty h1
      exact⟨_,a2P rs nk H' i v n xs z ty g1,rfl,rfl,rfl,c8.mono (fun b hb1=>⟨hokN b hb1,rfl⟩) _ _ g2,g3,g4⟩
 have hval:∃cs:List SV,c0 (okS A ⟨T',X5 nk rs H',nk+rs.length,w',w'.heap.size, []⟩) w' (y7 ⟨T',X5 nk rs H',nk+rs.length,w',w'.heap.size, []⟩) (shC nk cells) cs∧i4 (X5 nk rs H') cs=av:=by
  clear hfl hk hd hcall hbody
  induction cells generalizing av with
  |nil=>cases av with
   |nil=>exact⟨[],trivial,rfl⟩
   |cons=>simp [R2]at hcells
  |cons d cells ih=>cases av with
   |nil=>cases d<;>simp [R2]at hcells
   |cons y av=>
    have gen:Rep (fun b=>(okS A (now ⟨T',H',nk,ws,lo,iv⟩ w) b∨(w.heap.size≤b∧b<w'.heap.size))∧b∉rv.flatMap m7) w' d y→R2 (fun b=>(okS A (now ⟨T',H',nk,ws,lo,iv⟩ w) b∨(w.heap.size≤b∧b<w'.heap.size))∧b∉rv.flatMap m7) w' rv cells av→
     ∃cs:List SV,c0 (okS A ⟨T',X5 nk rs H',nk+rs.length,w',w'.heap.size, []⟩) w' (y7 ⟨T',X5 nk rs H',nk+rs.length,w',w'.heap.size, []⟩) (d::shC nk cells) cs∧i4 (X5 nk rs H') cs=y::av:=by
     intro h1 h2
     obtain⟨cs,g1,g2⟩:=ih av h2
     exact⟨.v y::cs,⟨Rep.rel _ _ (Rep.mono (fun b hb1=>⟨hokN b hb1,rfl⟩) _ _ h1),g1⟩,by simp [i4,den,g2]⟩
    cases d with
    |row i z=>
     simp only [R2]at hcells
     obtain⟨h1,h2⟩:=hcells
     obtain⟨cs,g1,g2⟩:=ih av h2
     have h3:∃r,rs[i]?=some r∧r.1=y:=by
      rw [←e1,List.getElem?_map]at h1
      cases hri:rs[i]? with
      |none=>rw [hri]at h1;cases h1
      |some r=>rw [hri]at h1;exact⟨r,rfl,Option.some.inj h1⟩
     obtain⟨⟨v,n,xs,z',ty⟩,h3,rfl⟩:=h3
     have h4:=a2P rs nk H' i v n xs z' ty h3
     have hi:i<rs.length:=(List.getElem?_eq_some_iff.1 h3).1
     refine⟨.row (nk+i)::cs,⟨?_,g1⟩,by simp [i4,den,l4,h4,g2]⟩
     simp only [c4]
     exact⟨trivial,by simp only;omega,fun _=>⟨v,n,xs,z',ty,h4⟩⟩
    |_=>simp only [R2]at hcells;exact gen hcells.1 hcells.2
 obtain⟨cs,hcs,hden⟩:=hval
 have hflS:y5 (shC nk cells)=true:=by
  clear hcs hcells hk hd hcall hbody
  induction cells with
  |nil=>rfl
  |cons d l ih=>
   have h1:=v6 hfl List.mem_cons_self
   have h2:=ih (P1 fun x hx=>v6 hfl (List.mem_cons_of_mem _ hx))
   cases d<;>simp [a4w]at h1<;>exact h2
 have hput:=F8 (w0:=w0) (bor:=bor) (s:= .agg cs) hk hsim (by simp only [c4];exact⟨cs,rfl,hcs,hflS⟩)
 obtain⟨st2,⟨sy2,h1,h2⟩,h3,h4⟩:=a1G hrel hput (v:= .agg av.toArray) (.inr (by simp [den,hden]))
 refine⟨st2,sy2,h1,h2,⟨h3,(Fx.refl _ _).of_below hb,fun b hb2=> ?_⟩,hblk,fun k e hm b hb2=> ?_⟩
 · rw [h4]at hb2
   rcases(b0W rs nk H' b).1 hb2 with hb2|hb2
   · exact .inl hb2
   · rw [hflat]at hb2;exact .inr (hbl b hb2).1
 · rw [h4]at hm
   rcases b3D rs nk H' k e hm with hm|hm
   · exact .inr ⟨e,hm,hb2⟩
   · have:=hm b hb2
     rw [hflat]at this
     exact .inl (hbl b this).1
theorem b1A (hA:∀b,(w0.heap.size≤b∨b∈bor)→A b) {o:Oper} {Q:Exit→Act→World→Prop} {KY:Sy→Prop} {f:FuncId} {args:List D} {args':List SV} (hr:Rel (cx X w0 bor) st a w) (hs:Sim A st sy) (ha:c0 (okS A st) st.w (y7 st) args args')
 (hln:M7 f X.ln=false) (h:b0j X true f args sy fun sy' x=>R5 X sy' o.dst x KY) (hout:a1x (cx X w0 bor) st a o (.call f args')):o.wp X.P a w (LvK A (cx X w0 bor) st.H w KY) Q:=by
 have hr0:=hr.now
 have hs0:=hs.now hr.cls
 have ha0:=ha.now hr.cls
 --the call itself,from some state
 have main:∀(st1:St) (args1:List SV) (fa:List D) (Qr:D→Prop),Cls (cx X w0 bor) st1.H st1.nk w w→At st1 w→c0 (okS A st1) w (y7 st1) fa args1→i4 st1.H args1=i4 st.H args'→P8 fa=true→d7 X.P f fa Qr→
  (∀v r w',Below w.heap.size w w'→Qr r→Rep (fun b=>okS A st1 b∨(w.heap.size≤b∧b<w'.heap.size)) w' r v→LvK A (cx X w0 bor) st.H w KY (a.put o.dst v) w')→o.wp X.P a w (LvK A (cx X w0 bor) st.H w KY) Q:=by
  intro st1 args1 fa Qr hc hat hfa hden hcl hd hk
  have hrep:=H7 (H:=st1.H) _ _ hfa hcl
  rw [hden]at hrep
  have hcall:=hd (okS A st1) w _ hrep fun b hb=>by have:=hb.2.1;rw [hat.1]at this;exact this
  have hbody:=a0g hcall fun e w' ⟨v,r,he,_⟩=>⟨_,he⟩
  unfold Oper.wp
  rw [show(execOp a.eval o).run X.P w=_ from hout w hbody]
  simp only [Oper.upon]
  refine hcall.mono fun e w' ⟨v,r,he,hq,hrp,hb⟩=> ?_
  subst he
  exact hk v r w' hb hq hrp
 have done:∀(st1:St) (sy1:Sy) (v:Value) (r:D) (w':World),Rel (cx X w0 bor) st1 a w→Sim A st1 sy1→a7i st1.H st.H→Below w.heap.size w w'→c4 (okS A (now st1 w')) w' (y7 (now st1 w')) r (.v v)→R5 X sy1 o.dst r KY→LvK A (cx X w0 bor) st.H w KY (a.put o.dst v) w':=by
  intro st1 sy1 v r w' hr1 hs1 hsub hb hrd hp
  have hput:=F8 (w0:=w0) (bor:=bor) hp (hs1.past hr1.cls hb) hrd
  obtain⟨st2,⟨sy2,h1,h2⟩,h3,h4⟩:=a1G (hr1.past hb) hput (v:=v) (.inr rfl)
  exact⟨st2,sy2,h1,h2,⟨h3,(Fx.refl _ _).of_below hb,fun b hb2=> .inl (hsub.bs b (by rw [h4]at hb2;exact hb2))⟩,fun i hi=>hb.block i hi,fun k e hm b hb2=>by
   rw [h4]at hm
   obtain⟨e0,g1,g2⟩:=hsub k e hm
   exact .inr ⟨e0,g1,g2 b hb2⟩⟩
 have repOk:∀(st1:St) (w':World) (v:Value) (r:D),Cls (cx X w0 bor) st1.H st1.nk st1.w w→At st1 w→Below w.heap.size w w'→Rep (fun b=>okS A st1 b∨(w.heap.size≤b∧b<w'.heap.size)) w' r v→c4 (okS A (now st1 w')) w' (y7 (now st1 w')) r (.v v):=by
  intro st1 w' v r hc hat hb hrp
  refine Rep.rel _ _ (Rep.mono (fun b hbk=>⟨?_,rfl⟩) _ _ hrp)
  rcases hbk with hbk|⟨h1,h2⟩
  · exact((b4T hc hb) b hbk).1
  · exact⟨⟨.inl h2,hA b (.inl (Nat.le_trans hc.fx0.size h1))⟩,h2,fun c hcb e=>by have:=hc.lt_size hcb;omega⟩
 unfold b0j at h
 split at h
 · rename_i hm;rw [hln]at hm;cases hm
 · split at h
   · rcases h with h|h
     · exact b7j hA hr hs ha (by assumption) h hout
     · exact b6U hA hr hs ha (by assumption) h hout
   · exact h.elim
 split at h
 · rename_i hcl
   obtain⟨Qr,hd,hk⟩:=h.ex
   refine main (now st w) args' args Qr hr0.cls ⟨rfl,rfl,rfl⟩ ha0 rfl hcl hd fun v r w' hb hq hrp=> ?_
   exact done (now st w) sy v r w' hr0 hs0 (a7i.refl _) hb (repOk (now st w) w' v r hr0.cls ⟨rfl,rfl,rfl⟩ hb hrp) (hk r hq)
 · split at h
   · rename_i sy' fa hfz
     split at h
     · rename_i hcl
       obtain⟨Qr,hd,hk⟩:=h.ex
       obtain⟨st1,args1,c1,a1,s1,b1,o1,g1,g2⟩:=a4P (Xx:=cx X w0 bor) hA _ hr0.cls ⟨rfl,rfl,rfl⟩ hs0 ha0 hfz
       have hr1:Rel (cx X w0 bor) st1 a w:=by
        refine⟨hr.size,fun d s hd=> ?_,hr.dfs, ?_, ?_, ?_⟩
        · rcases o1 d s hd with e|⟨s0,h1,h2,h3⟩
          · exact .inl e
          · rcases hr0.T d s0 h1 with e|e
            · exact absurd e h2
            · right;rw [e,h3]
        · rw [a1.1];exact c1
        · rw [a1.2.1];exact Nat.le_refl _
        · rw [a1.2.2];simp
       refine main st1 args1 fa Qr c1 a1 g1 g2 hcl hd fun v r w' hb hq hrp=> ?_
       have hkr:=hk r hq
       cases hsc:a4F r with
       |true=>
        rw [hsc]at hkr
        exact done (now st w) sy v r w' hr0 hs0 (a7i.refl _) hb (Rep.rel _ _ (a8H _ _ hrp hsc)) hkr
       |false=>
        rw [hsc]at hkr
        exact done st1 sy' v r w' hr1 s1 b1 hb (repOk st1 w' v r hr1.cls a1 hb hrp) hkr
     · exact h.elim
   · exact h.elim
theorem b8H (hA:∀b,(w0.heap.size≤b∨b∈bor)→A b) {o:Oper} {Q:Exit→Act→World→Prop} {KY:Sy→Prop} {f:FuncId} {args:List D} {args':List SV} (hr:Rel (cx X w0 bor) st a w) (hs:Sim A st sy) (ha:c0 (okS A st) st.w (y7 st) args args')
 (h:b0j X true f args sy fun sy' x=>R5 X sy' o.dst x KY) (hout:a1x (cx X w0 bor) st a o (.call f args')):o.wp X.P a w (LvY A (cx X w0 bor) st.H w KY) Q:=by
 cases hln:M7 f X.ln with
 |true=>simp only [b0j,hln]at h;exact b8U hA hr hs ha h hout
 |false=>exact Oper.wp_mono (fun a' w' ⟨st2,sy2,g1,g2,g3,_⟩=>⟨st2,sy2,g1,g2,g3⟩) (b1A hA hr hs ha hln h hout)
theorem b7i (hA:∀b,(w0.heap.size≤b∨b∈bor)→A b) {KY:Sy→Prop} {f:FuncId} {args:List D} {args':List SV} {dst:Option Nat} (hs:Sim A st sy) (ha:c0 (okS A st) st.w (y7 st) args args')
 (h:b0j X false f args sy fun sy' x=>R5 X sy' dst x KY):c0n (cx X w0 bor) false f args' st fun st' s=>put (cx X w0 bor) st' dst s fun st'=>∃sy',KY sy'∧Sim A st' sy':=by
 have fxok:∀n w1,st.w.heap.size≤n→n≤w1.heap.size→Fx (bs st.H) st.w w1→∀b,okS A st b→okS A ⟨st.T,st.H,st.nk,w1,st.lo,(n,w1.heap.size)::st.iv⟩ b∧w1.heap[b]?=st.w.heap[b]?:=by
  intro n w1 h1 h2 hfx b hb
  refine⟨⟨⟨?_,hb.1.2⟩,Nat.lt_of_lt_of_le hb.2.1 hfx.size,hb.2.2⟩,hfx.block b hb.2.1 hb.2.2⟩
  rcases hb.1.1 with h|⟨p,hp,h3⟩
  · exact .inl h
  · exact .inr ⟨p,List.mem_cons_of_mem _ hp,h3⟩
 have simOk:∀n w1,st.w.heap.size≤n→n≤w1.heap.size→Fx (bs st.H) st.w w1→Sim A ⟨st.T,st.H,st.nk,w1,st.lo,(n,w1.heap.size)::st.iv⟩ sy:=by
  intro n w1 h1 h2 hfx
  obtain⟨T,H,nk⟩:=sy
  exact hs.mono (fxok n w1 h1 h2 hfx) (fun _ _ h=>h) (fun _ _ h=>h) (fun _ _ h=>h) rfl hs.fT hs.fH
 unfold b0j at h
 split at h
 · exact h.elim
 · exact h.elim
 split at h
 · rename_i hcl
   obtain⟨Qr,hd,hk⟩:=h.ex
   refine⟨Value, .v,fun v n w1=>w0.heap.size≤n∧∃r,Qr r∧Rep (fun b=>(b<n∧okS A st b)∨(n≤b∧b<w1.heap.size)) w1 r v,fun wc hc=> ?_,fun v n w1 h1 h2 h3 hfx ⟨hw0,r,hq,hrp⟩=> ?_⟩
   · have hrep:=H7 (H:=st.H) _ _ (ha.now hc) hcl
     have hrep2:c8 (fun b=>b<wc.heap.size∧okS A st b) wc args (i4 st.H args'):=by
      have:=H7 (H:=st.H) _ _ ha hcl
      refine c8.mono (fun b hb=>⟨⟨Nat.lt_of_lt_of_le hb.2.1 hc.fx.size,hb⟩,hc.fx.block b hb.2.1 hb.2.2⟩) _ _ this
     refine(hd _ wc _ hrep2 fun b hb=>hb.1).mono fun e w' ⟨v,r,he,hq,hrp,hb⟩=> ?_
     exact⟨v,he,hb,hc.fx0.size,r,hq,hrp⟩
   · obtain⟨T',H',nk',w,lo,iv⟩:=st
     refine F8 (hk r hq) (simOk n w1 h1 h2 hfx) (Rep.rel _ _ (Rep.mono (fun b hbk=>⟨?_,rfl⟩) _ _ hrp))
     rcases hbk with⟨_,hbk⟩|⟨h4,h5⟩
     · exact(fxok n w1 h1 h2 hfx b hbk).1
     · exact⟨⟨.inr ⟨_,List.mem_cons_self,h4,h5⟩,hA b (.inl (Nat.le_trans hw0 h4))⟩,h5,fun c hcb e=>by have:=h3 c hcb;omega⟩
 · split at h
   · rename_i sy' fa hfz
     split at h
     · rename_i hcl
       obtain⟨Qr,hd,hk⟩:=h.ex
       refine⟨Value, .v,fun v n w1=>∃r,Qr r∧a4F r=true∧Rep (fun _=>False) w1 r v,fun wc hc=> ?_,fun v n w1 h1 h2 h3 hfx ⟨r,hq,hsc,hrp⟩=> ?_⟩
       · have hcn:Cls (cx X w0 bor) (now st wc).H (now st wc).nk wc wc:=⟨Fx.refl _ _,hc.fx0,hc.own,hc.nd,hc.lb,hc.keys,hc.lt⟩
         obtain⟨st1,args1,c1,a1,s1,b1,o1,g1,g2⟩:=a4P (Xx:=cx X w0 bor) hA _ hcn ⟨rfl,rfl,rfl⟩ (hs.now hc) (ha.now hc) hfz
         have hrep:=H7 (H:=st1.H) _ _ g1 hcl
         rw [g2]at hrep
         refine(hd (okS A st1) wc _ hrep fun b hb=>by have:=hb.2.1;rw [a1.1]at this;exact this).mono fun e w' ⟨v,r,he,hq,hrp,hb⟩=> ?_
         have hkr:=hk r hq
         cases hsc:a4F r with
         |true=>exact⟨v,he,hb,r,hq,hsc,a8H _ _ hrp hsc⟩
         |false=>rw [hsc]at hkr;exact hkr.elim
       · have hkr:=hk r hq
         rw [hsc]at hkr
         obtain⟨T',H',nk',w,lo,iv⟩:=st
         exact F8 hkr (simOk n w1 h1 h2 hfx) (Rep.rel _ _ (a8H _ _ hrp hsc))
     · exact h.elim
   · exact h.elim
end
end Go.Sx
namespace Go.Sx
open Go Go.RowKit
section
variable {A : Nat → Prop} {X : Cy} {w0 : World} {bor : List Nat} {st : St} {sy : Sy} {a : Act} {w : World}
theorem a5b (hA:∀b,(w0.heap.size≤b∨b∈bor)→A b) {seq:Bool} {dst:Option Nat} {KY:Sy→Prop} {oy:a5X} {out:Out} (h:a6a X seq sy dst KY oy) (hr:a7F st.H (okS A st) st.w (y7 st) oy out) (hs:Sim A st sy) (hc:seq=false∨∀f args,out≠ .call f args):
 fin (cx X w0 bor) seq st dst (fun st'=>∃sy',KY sy'∧Sim A st' sy') out:=by
 cases oy with
 |val x=>
  cases out<;>try exact hr.elim
  exact F8 h hs hr.1
 |new cs ty sl=>
  cases out<;>try exact hr.elim
  rename_i cs' ty' sl'
  obtain⟨rfl,h2,rfl⟩:=hr
  obtain⟨T',H',nk',w,lo,iv⟩:=st
  obtain⟨T,H,nk⟩:=sy
  have hnk:nk=nk':=hs.nk
  subst hnk
  simp only [fin,hs.fT nk (Nat.le_refl _),hs.fH nk (Nat.le_refl _),h2.ment (fun q=>a8N (st:=⟨T',H',nk,w,lo,iv⟩) (Nat.le_refl _) q)]
  refine .inl fun b hb hiv=> ?_
  refine F8 h (c2s hs h2 hb hiv) ?_
  cases sl with
  |none=>simp only [c4,Option.map_none];exact⟨trivial,by simp only;omega,by simp⟩
  |some p=>obtain⟨z,n⟩:=p;simp only [c4,Option.map_some];exact⟨trivial,by simp only;omega,by simp⟩
 |newR l ty z n=>
  cases out<;>try exact hr.elim
  rename_i cs' ty' sl'
  obtain⟨rfl,rfl,hlen,hnm,hfl,xs,rfl,hrep⟩:=hr
  obtain⟨T',H',nk',w,lo,iv⟩:=st
  obtain⟨T,H,nk⟩:=sy
  have hnk:nk=nk':=hs.nk
  subst hnk
  simp only [fin,hs.fT nk (Nat.le_refl _),hs.fH nk (Nat.le_refl _),b0z]
  refine .inr ⟨n,z,⟨rfl,by rw [b3k,←hrep.length,hlen],hnm,(c8.rel (R:=y7 ⟨T',H',nk,w,lo,iv⟩) _ _ hrep).one (b3P _) hfl⟩,fun b hb hiv=> ?_⟩
  rw [J3]
  refine F8 h (c0v hs hrep hfl hlen hb hiv) ?_
  simp only [c4]
  exact⟨trivial,by simp only;omega,fun _=>⟨_,_,_,_,_,by simp [c7];exact⟨rfl,rfl,rfl,rfl,rfl⟩⟩⟩
 |call f args=>
  cases out<;>try exact hr.elim
  obtain⟨rfl,h2⟩:=hr
  rcases hc with rfl|hc
  · simp only [a6a]at h
    split at h
    · exact h.elim
    · exact b7i hA hs h2 h
  · exact absurd rfl (hc _ _)
 |upd k cs=>
  cases out<;>try exact hr.elim
  obtain⟨rfl,h2⟩:=hr
  obtain⟨T',H',nk',w,lo,iv⟩:=st
  obtain⟨T,H,nk⟩:=sy
  simp only [a6a]at h
  cases hf:j7 H k with
  |none=>rw [hf]at h;exact h.elim
  |some e=>
   rw [hf]at h
   cases e with
   |row=>exact h.elim
   |blk cs0 ty=>
    obtain⟨e',hf',he⟩:=hs.H _ _ hf
    cases e' with
    |row=>exact he.elim
    |blk b cs' ty'=>
     simp only at hf'
     obtain⟨rfl,_⟩:=he
     have h:=a3j h
     simp only [fin,hf']
     refine a5k hf' ?_
     refine F8 h (b4p (e':= .blk b _ _) hs hf' (by exact⟨rfl,h2⟩) rfl (by rintro⟨_,_,_,_,_,h⟩;cases h) fun j hj=> ?_) (by simp only [c4])
     simp only [a5D,Bool.not_eq_true']
     exact h2.ment (fun q=>a8N (st:=⟨T',H',nk',w,lo,iv⟩) hj q)
 |updR k l=>
  cases out<;>try exact hr.elim
  obtain⟨rfl,h2,h3,h6⟩:=hr
  obtain⟨T',H',nk',w,lo,iv⟩:=st
  obtain⟨T,H,nk⟩:=sy
  simp only [a6a]at h
  cases hf:j7 H k with
  |none=>rw [hf]at h;exact h.elim
  |some e=>
   rw [hf]at h
   cases e with
   |blk=>exact h.elim
   |row z n l0 ty=>
    obtain⟨e',hf',he⟩:=hs.H _ _ hf
    cases e' with
    |blk=>exact he.elim
    |row v n' xs z' ty'=>
     simp only at hf'
     obtain⟨rfl,rfl,rfl,h4,h5,h7⟩:=he
     have h:=a3j h
     simp only [fin,hf']
     refine a5k hf' ?_
     exact F8 h (b4p (e':= .row v n _ z ty) hs hf' (by exact⟨rfl,rfl,rfl,h2,h3,h6 _ _ _ _ _ hf'⟩) rfl (fun _=>⟨_,_,_,_,_,rfl⟩) fun j hj=>rfl) (by simp only [c4])
 |app e esz bytes s x=>
  cases out<;>try exact hr.elim
  obtain⟨rfl,rfl,rfl,h4,h5⟩:=hr
  exact c1D h hs h4 h5
theorem a9o {ops:List Oper} {g:Option (Nat×Bool)} {yesY noY:Sy→Prop} {yes no:St→Prop} (h:a2n ops g sy yesY noY) (hs:Sim A st sy) (h1:∀st' sy',Sim A st' sy'→yesY sy'→yes st') (h2:∀st' sy',Sim A st' sy'→noY sy'→no st'):a5g ops g st yes no:=by
 unfold a2n at h
 split at h
 · exact h1 _ _ hs h
 · rename_i j want
   split at h
   · rename_i d hd
     obtain⟨T',H',nk',w,lo,iv⟩:=st
     obtain⟨T,H,nk⟩:=sy
     have ext:∀b:Bool,Sim A ⟨(d, .v (.bool b))::T',H',nk',w,lo,iv⟩ ⟨(d, .v (.bool b))::T,H,nk⟩:=by
      intro b
      refine⟨fun d' x hx=> ?_,hs.H,hs.nk,fun j hj=> ?_,hs.fH⟩
      · simp only [q8]at hx
        simp only [w3]
        cases hb:Nat.beq d d' with
        |true=>rw [hb]at hx;cases hx;exact .inr ⟨_,rfl,by simp only [c4];exact⟨trivial,rfl⟩⟩
        |false=>rw [hb]at hx;exact hs.T d' x hx
      · simp only [s9,ment];exact hs.fT j hj
     split at h
     · rename_i b hl
       obtain⟨hlt,hl⟩:=a2M hl
       rcases hs.T d _ hl with e|⟨s,h3,h4⟩
       · cases e
       · have:=h4.sc;subst this
         simp only at h3
         simp only [a5g,hd,a6m hlt,h3]
         cases b<;>cases want<;>simp only [VIf]at h⊢
         · exact h1 _ _ (ext false) h
         · exact h2 _ _ (ext false) h
         · exact h2 _ _ (ext true) h
         · exact h1 _ _ (ext true) h
     · rename_i hl
       obtain⟨hlt,hl⟩:=a2M hl
       rcases hs.T d _ hl with e|⟨s,h3,h4⟩
       · cases e
       · simp only [c4]at h4
         subst h4
         simp only at h3
         simp only [a5g,hd,a6m hlt,h3,undef]
         exact h2 _ _ hs h
     · exact h.elim
   · exact h.elim
theorem zOK (hP:POK X.P X.tt):∀t i,F9 X.tt t=some i→(∀x,x∈i.z→a4Z x=true)∧i.z.length=i.n:=fun t i h=>⟨fun x hx=>by rw [a6Y];exact(hP.tt t i h).zo x hx,(hP.tt t i h).zn⟩
theorem c2y {x:D} {s:SV} {ok:Nat→Prop} {R:Bool→Nat→Prop} (h:c4 ok w R x s) (hne:x≠ .bad):c4U x=b2W s:=by
 cases x<;>simp only [c4]at h
 · rw [h.1];rfl
 · obtain⟨cs,h,_⟩:=h;cases s<;>simp [a4a]at h<;>rfl
 · obtain⟨y,rfl,_⟩:=h;rfl
 · obtain⟨y,rfl,_⟩:=h;rfl
 · rw [h.1];rfl
 · rw [h.1];rfl
 · rw [h.1];rfl
 · rw [h.1];rfl
 · rw [h.1];rfl
 · rcases h with⟨cs,rfl,_⟩|⟨cs,rfl,_⟩<;>rfl
 · rcases h with⟨cs,_,rfl,_⟩|⟨cs,_,rfl,_⟩<;>rfl
 · obtain⟨y,rfl,_⟩:=h;rfl
 · rw [h];rfl
 · exact absurd rfl hne
theorem c3t {fl:Bool} {i:Nat} {op:Op} {pr:List (Nat×Option Nat)} {K K':List (Nat×Option Nat)→Prop} (h:rdY fl i op sy pr K) (hs:Sim A st sy) (hK:∀pr,K pr→K' pr):rdP (cx X w0 bor) fl i op st pr K':=by
 unfold rdY at h
 split at h
 · rename_i t p
   split at h
   · rename_i x hx
     obtain⟨s,h1,h2,h3⟩:=j5 hs hx
     have ht:=c2y h2 h3
     split at h
     · rename_i k hk
       rw [hk]at ht
       simp only [rdP,h1,←ht]
       exact hK _ h
     · rename_i hk
       rw [hk]at ht
       simp only [rdP,h1,←ht]
       split at h
       · simp only [c4,Rep]at h2
         obtain⟨y,rfl,b,p,xs,rfl,hok,_⟩:=h2
         cases fl with
         |false=>exact hK _ h
         |true=>exact⟨.inr (by rcases hok.1.1 with h|h;exact .inl h;exact .inr h),hK _ h⟩
       · exact h.elim
   · exact h.elim
 · exact h.elim
 · rename_i hno hnl
   unfold rdP
   split
   · rename_i t p;exact absurd rfl (hno t p)
   · exact absurd rfl (hnl _ _ _ _)
   · exact hK _ h
theorem b6R {ok:Nat→Prop} {R:Bool→Nat→Prop} {e z b:Nat} {s x:D} {s' x':SV} (h4:c4 ok w R s s'):b1P (.app e z b s x)=a5M (.app e z b s' x'):=by
 cases s<;>simp only [c4]at h4
 · rw [h4.1];rfl
 · obtain⟨cs,h,_⟩:=h4;cases s'<;>simp [a4a]at h<;>rfl
 · obtain⟨y,rfl,_⟩:=h4;rfl
 · obtain⟨y,rfl,_⟩:=h4;rfl
 · rw [h4.1];rfl
 · rw [h4.1];rfl
 · rw [h4.1];rfl
 · rw [h4.1];rfl
 · rw [h4.1];rfl
 · rcases h4 with⟨cs,rfl,_⟩|⟨cs,rfl,_⟩<;>rfl
 · rcases h4 with⟨cs,_,rfl,_⟩|⟨cs,_,rfl,_⟩<;>rfl
 · obtain⟨y,rfl,_⟩:=h4;rfl
 · rw [h4];rfl
 · rw [h4];rfl
theorem c2r {oy:a5X} {out:Out} {ok:Nat→Prop} {R:Bool→Nat→Prop} (h:a7F st.H ok w R oy out):b1P oy=a5M out∨(b1P oy=none∧∃e z b s x,out= .app e z b s x∧a5M out=none):=by
 cases oy<;>cases out<;>try exact h.elim
 · exact .inl rfl
 · exact .inl rfl
 · exact .inl rfl
 · exact .inl rfl
 · obtain⟨rfl,_⟩:=h;exact .inl rfl
 · obtain⟨rfl,_⟩:=h;exact .inl rfl
 · obtain⟨rfl,rfl,rfl,h4,_⟩:=h
   left
   exact b6R h4
theorem b9Y {Xx:Cx} {seq:Bool} {dst:Option Nat} {out:Out} {K K':St→Prop} (h:fin Xx seq st dst K out) (hk:∀st',K st'→K' st'):fin Xx seq st dst K' out:=by
 obtain⟨T,H,nk,ws,lo,iv⟩:=st
 cases out with
 |val s=>exact P2 h hk
 |new cs ty sl=>
  simp only [fin]at h⊢
  cases h1:s9 nk T with
  |false=>rw [h1]at h;exact h.elim
  |true=>cases h2:E0 nk H with
   |false=>rw [h1,h2]at h;exact h.elim
   |true=>cases h3:J8 nk cs with
    |true=>rw [h1,h2,h3]at h;exact h.elim
    |false=>
     rw [h1,h2,h3]at h
     rcases h with h|⟨n,sz,h0,h⟩
     · exact .inl fun b hb hiv=>P2 (h b hb hiv) hk
     · exact .inr ⟨n,sz,h0,fun b hb hiv=>P2 (h b hb hiv) hk⟩
 |call f args=>
  obtain⟨ι,r,φ,h1,h2⟩:=h.ex
  refine⟨ι,r,φ,h1,fun i n w1 a1 a2 a3 a4 a5=> ?_⟩
  have:=h2 i n w1 a1 a2 a3 a4 a5
  cases seq
  · exact P2 this hk
  · exact P2 this hk
 |upd k cs=>
  unfold fin at h⊢
  simp only at h⊢
  cases hf:c7 H k with
  |none=>rw [hf]at h;exact h.elim
  |some e=>
   rw [hf]at h
   cases e with
   |row=>exact h.elim
   |blk=>exact a1u h fun H' hh=>P2 hh hk
 |updR k xs=>
  unfold fin at h⊢
  simp only at h⊢
  cases hf:c7 H k with
  |none=>rw [hf]at h;exact h.elim
  |some e=>
   rw [hf]at h
   cases e with
   |blk=>exact h.elim
   |row=>exact a1u h fun H' hh=>P2 hh hk
 |app e esz bytes s x=>
  obtain⟨k,n,m,v,xs,news,h0,h1⟩:=b3n.ex h
  have reM:∀ {w1:World} {A B:List (Nat×SV)→Hp→Nat→World→Nat→List (Nat×Nat)→Prop},(∀T H nk w lo iv,A T H nk w lo iv→B T H nk w lo iv)→reW seq ⟨T,H,nk,ws,lo,iv⟩ w1 A→reW seq ⟨T,H,nk,ws,lo,iv⟩ w1 B:=by
   intro w1 A B hAB hA
   cases seq
   · exact hAB _ _ _ _ _ _ hA
   · exact hAB _ _ _ _ _ _ hA
  refine b3n.mk ⟨k,n,m,v,xs,news,h0, ?_⟩
  rcases h1 with⟨g1,g2,h1⟩|⟨g1,g2,h1⟩|⟨g1,g2,h1⟩|⟨g1,g2,h1,h1'⟩
  · exact .inl ⟨g1,g2,fun v' w1 a1 a2 a3=>reM (fun _ _ _ _ _ _ ⟨b1,b2,b3⟩=>⟨b1,b2,P2 b3 hk⟩) (h1 v' w1 a1 a2 a3)⟩
  · exact .inr (.inl ⟨g1,g2,fun v' w1 a1 a2 a3=>reM (fun _ _ _ _ _ _ b=>a1u b fun H' hh=>by rw [a3T]at hh⊢;exact P2 hh hk) (h1 v' w1 a1 a2 a3)⟩)
  · exact .inr (.inr (.inl ⟨g1,g2,fun v' w1 a1 a2 a3=>reM (fun _ _ _ _ _ _ b=>a1u b fun H' hh=>by rw [a3T]at hh⊢;exact P2 hh hk) (h1 v' w1 a1 a2 a3)⟩))
  · exact .inr (.inr (.inr ⟨g1,g2,fun a=>P2 (h1 a) hk,fun a v' w1 a1 a2 a3=>reM (fun _ _ _ _ _ _ ⟨b1,b2,b3⟩=>⟨b1,b2,P2 b3 hk⟩) (h1' a v' w1 a1 a2 a3)⟩))
theorem b8o (hA:∀b,(w0.heap.size≤b∨b∈bor)→A b) {i:Nat} {S:List Nat} {fl:Bool} {pr:List (Nat×Option Nat)} {o:Oper} {K:Sy→List (Nat×Option Nat)→Prop} {K':St→List (Nat×Option Nat)→Prop} {oy:a5X} {out:Out} (h:b5t X i S fl pr o sy K oy)
 (hr:a7F st.H (okS A st) st.w (y7 st) oy out) (hs:Sim A st sy) (hK:∀st' sy' pr,Sim A st' sy'→K sy' pr→K' st' pr):b5j (cx X w0 bor) i S fl pr o st K' out:=by
 have mono:∀(seq:Bool) (dst:Option Nat) (out:Out),fin (cx X w0 bor) seq st dst (fun st'=>∃sy',K sy' pr∧Sim A st' sy') out→fin (cx X w0 bor) seq st dst (fun st'=>K' st' pr) out:=fun seq dst out h=>b9Y h fun st' ⟨sy',h1,h2⟩=>hK st' sy' pr h2 h1
 unfold b5t at h
 unfold b5j
 split at h
 · rename_i hv
   simp only [hv]
   cases oy<;>try exact h.elim
   cases out<;>try exact hr.elim
   refine c3t h hs fun pr hp=> ?_
   exact P2 (F8 hp hs hr.1) fun st' ⟨sy',h1,h2⟩=>hK st' sy' pr h2 h1
 · rename_i hv
   simp only [hv]
   split at h
   · rename_i ha
     simp only [ha]
     cases oy<;>try exact h.elim
     · cases out<;>try exact hr.elim
       rename_i cs ty sl cs' ty' sl'
       cases sl with
       |none=>
        obtain⟨rfl,h2,rfl⟩:=hr
        exact mono _ _ _ (a5b hA h (by exact⟨rfl,h2,rfl⟩) hs (.inl rfl))
       |some p=>exact h.elim
     · cases out<;>try exact hr.elim
       exact mono _ _ _ (a5b hA h hr hs (.inl rfl))
   · rename_i ha
     simp only [ha]
     split at h
     · rename_i hc
       simp only [hc]
       cases oy<;>try exact h.elim
       cases out<;>try exact hr.elim
       exact mono _ _ _ (a5b hA h hr hs (.inl rfl))
     · rename_i hc
       simp only [hc]
       have hk:b1P oy=a5M out:=by
        rcases c2r hr with h|⟨h1,_,_,_,_,_,_,h2⟩
        · exact h
        · rw [h1,h2]
       cases oy<;>try exact h.elim
       all_goals (cases out<;>try exact hr.elim)
       all_goals (
        have h':=h
        try simp only at h'
        try simp only
        rw [hk]at h'
        split
        · rename_i k hkk
          rw [hkk]at h'
          simp only at h'
          cases hse:b5H pr S k with
          |true=>rw [hse]at h';exact mono _ _ _ (a5b hA h' hr hs (.inl rfl))
          |false=>rw [hse]at h';exact h'.elim
        · rename_i hkk
          rw [hkk]at h'
          exact mono _ _ _ (a5b hA h' hr hs (.inl rfl)))
end
end Go.Sx
namespace Go.Sx
open Go Go.RowKit
mutual
theorem b6S {ok:Nat→Prop} {w:World} {R:Bool→Nat→Prop}:∀(x y:D) (s:SV),leD x y→c4 ok w R x s→c4 ok w R y s
 | .v x,y,v,h,hr=>by
  simp only [leD]at h
  rcases h with rfl|⟨rfl,z,rfl⟩
  · exact hr
  · simp only [c4,Rep]at hr⊢
    exact⟨_,hr.1,none,0,rfl,Nat.le_refl _,by simp,by simp,rfl, .inl rfl⟩
 | .agg l,y,v,h,hr=>by
  simp only [leD]at h
  obtain⟨r,rfl,h⟩:=h
  simp only [c4]at hr⊢
  obtain⟨a,h1,h2,h3⟩:=hr
  exact⟨a,h1,b0A l r _ h h2,b3U l r h h3⟩
 | .tup l,y,v,h,hr=>by
  simp only [leD]at h
  obtain⟨r,rfl,h⟩:=h
  simp only [c4]at hr⊢
  rcases hr with⟨a,h1,h2⟩|⟨a,h1,h2⟩
  · exact .inl ⟨a,h1,b0A l r _ h h2⟩
  · exact .inr ⟨a,h1,b0A l r _ h h2⟩
 | .lst _ _ _,y,v,h,hr=>by simp only [leD]at h;subst h;exact hr
 | .ptr _ _,y,v,h,hr=>by simp only [leD]at h;subst h;exact hr
 | .mp _,y,v,h,hr=>by simp only [leD]at h;subst h;exact hr
 | .fn _ _ _,y,v,h,hr=>by simp only [leD]at h;subst h;exact hr
 | .own _ _,y,v,h,hr=>by simp only [leD]at h;subst h;exact hr
 | .ownx _ _,y,v,h,hr=>by simp only [leD]at h;subst h;exact hr
 | .row _ _,y,v,h,hr=>by simp only [leD]at h;subst h;exact hr
 | .elr _ _ _ _,y,v,h,hr=>by simp only [leD]at h;subst h;exact hr
 | .osl _ _ _ _ _,y,v,h,hr=>by simp only [leD]at h;subst h;exact hr
 | .und,y,v,h,hr=>by simp only [leD]at h;subst h;exact hr
 | .bad,y,v,h,hr=>by simp only [leD]at h;subst h;exact hr
theorem b0A {ok:Nat→Prop} {w:World} {R:Bool→Nat→Prop}:∀(l r:List D) (v:List SV),a3d l r→c0 ok w R l v→c0 ok w R r v
 | [], [],v,_,hr=>hr
 |x::l,y::r,v::vs,h,hr=>by
  simp only [a3d]at h
  simp only [c0]at hr⊢
  exact⟨b6S x y v h.1 hr.1,b0A l r vs h.2 hr.2⟩
 |_::_,_::_, [],_,hr=>by simp [c0]at hr
 | [],_::_,_,h,_=>by simp [a3d]at h
 |_::_, [],_,h,_=>by simp [a3d]at h
theorem b3U:∀(l r:List D),a3d l r→y5 l=true→y5 r=true
 | [], [],_,_=>rfl
 |x::l,y::r,h,hf=>by
  simp only [a3d]at h
  have h1:=v6 hf List.mem_cons_self
  have h2:a4w y=true:=by
   have h:=h.1
   cases x<;>simp [a4w]at h1<;>simp only [leD]at h
   · rcases h with rfl|⟨_,z,rfl⟩<;>rfl
   all_goals (subst h;rfl)
  simp only [y5,h2]
  exact b3U l r h.2 (P1 fun d hd=>v6 hf (List.mem_cons_of_mem _ hd))
 | [],_::_,h,_=>by simp [a3d]at h
 |_::_, [],h,_=>by simp [a3d]at h
end
section
variable {A : Nat → Prop} {X : Cy} {w0 : World} {bor : List Nat} {st : St} {sy : Sy} {a : Act} {w : World} {Q : Exit → Act → World → Prop}
theorem b6L {ops:List Oper} {T:List (Nat×D)} {d:Nat} {x:D} (h:q8 (a6j ops T) d=some x) (hx:x≠ .bad):q8 T d=some x∧∀(T':List (Nat×SV)),w3 (a4g ops T') d=w3 T' d:=by
 induction ops with
 |nil=>exact⟨h,fun _=>rfl⟩
 |cons o l ih=>
  simp only [a6j]at h
  split at h
  · rename_i d' ha hd
    simp only [q8]at h
    cases hb:Nat.beq d' d with
    |true=>rw [hb]at h;cases h;exact absurd rfl hx
    |false=>
     rw [hb]at h
     obtain⟨h1,h2⟩:=ih h
     refine⟨h1,fun T'=> ?_⟩
     simp only [a4g,ha,hd,w3,hb];exact h2 T'
  · rename_i hno
    obtain⟨h1,h2⟩:=ih h
    refine⟨h1,fun T'=> ?_⟩
    simp only [a4g]
    exact h2 T'
theorem b1V {T:List (Nat×D)} {H:Hy} {nk:Nat} {T':List (Nat×SV)} {H':Hp} {nk' lo:Nat} {ws:World} {iv:List (Nat×Nat)} {ops:List Oper} (hs:Sim A ⟨T',H',nk',ws,lo,iv⟩ ⟨T,H,nk⟩):
 Sim A ⟨a4g ops T',H',nk',ws,ws.heap.size, []⟩ ⟨a6j ops T,H,nk⟩:=by
 have hok:∀b,okS A ⟨T',H',nk',ws,lo,iv⟩ b→okS A ⟨a4g ops T',H',nk',ws,ws.heap.size, []⟩ b∧ws.heap[b]?=ws.heap[b]?:=fun b hb=>⟨⟨⟨.inl hb.2.1,hb.1.2⟩,hb.2.1,hb.2.2⟩,rfl⟩
 refine⟨fun d x hx=> ?_,fun k e he=> ?_,hs.nk,fun j hj=> ?_,hs.fH⟩
 · by_cases hb:x= .bad
   · exact .inl hb
   · obtain⟨h1,h2⟩:=b6L hx hb
     rcases hs.T d x h1 with h|⟨s,h3,h4⟩
     · exact .inl h
     · exact .inr ⟨s,by simp only [h2];exact h3,c4.mono hok (fun _ _ h=>h) _ _ h4⟩
 · obtain⟨e',h1,h2⟩:=hs.H k e he
   exact⟨e',h1,a2Q.mono hok (fun _ _ h=>h) h2⟩
 · have:=hs.fT j hj
   simp only at this⊢
   clear hs hok hj
   induction ops with
   |nil=>exact this
   |cons o l ih=>
    simp only [a4g]
    split
    · simp only [s9,ment];exact ih
    · exact ih
mutual
def fwS:D→SV→SV
 | .row k _,_=> .row k
 | .agg l,s=>match a4a s with|some cs=> .agg (fwL l cs)|none=>s
 | .tup l, .tup cs=> .tup (fwL l cs)
 | .tup l, .v (.tuple a)=> .tup (fwL l (vs a.toList))
 | .fn f x y, .fn _ a b=> .fn f (fwL x a) (fwL y b)
 | .fn f x y, .v (.func _ p q)=> .fn f (fwL x (vs p.toList)) (fwL y (vs q.toList))
 |_,s=>s
def fwL:List D→List SV→List SV
 |x::l,s::r=>fwS x s::fwL l r
 |_,_=> []
end
def fwB:List D→List SV→List SV
 | .bad::l,_::r=> .bad::fwB l r
 |x::l,s::r=>fwS x s::fwB l r
 |_,_=> []
def fwH (n:Nat) (H:Hp):Hy→Hp
 | []=> []
 |(k, .blk ds ty)::r=>(match c7 H k with|some (.blk b cs ty')=>(k, .blk b (fwB ds cs) ty')|_=>(k, .row (.slice none 0 0) 0 [] 0 ty))::fwH n H r
 |(k, .row z m l ty)::r=>(match Nat.blt k n,c7 H k with|true,some (.row v m' xs z' ty')=>(k, .row v m' xs z' ty')|_,_=>(k, .row (.slice none 0 0) 0 [] z ty))::fwH n H r
def fwT (T:List (Nat×SV)):List (Nat×D)→List (Nat×SV)
 | []=> []
 |(d,x)::r=>(match w3 T d with|some s=>(d,fwS x s)|none=>(d, .bad))::fwT T r
def a5Q (n:Nat):Hy→List (Option Nat)
 | []=> []
 |(k, .blk _ _)::r=>some k::a5Q n r
 |(k, .row _ _ _ _)::r=>(match Nat.blt k n with|true=>some k|false=>none)::a5Q n r
structure b8c (ok:Nat→Prop) (w:World) (n:Nat) (ks:List Nat) (R R':Bool→Nat→Prop) (H H':Hp):Prop where
 R:∀q j,M7 j ks=true→j<n→R q j→R' q j
 old:∀j,M7 j ks=true→j<n→bOf H' j=bOf H j∧l4 H' j=l4 H j
 new:∀j,M7 j ks=true→¬j<n→R' true j∧l4 H' j= .slice none 0 0
theorem a1P {a b:Nat}:Nat.blt a b=true↔a<b:=by simp [Nat.blt_eq]
mutual
theorem b6W {ok:Nat→Prop} {w:World} {n:Nat} {ks:List Nat} {R R':Bool→Nat→Prop} {H H':Hp} (hz:b8c ok w n ks R R' H H'):∀(x:D) (s:SV),c4 ok w R (a1F n x) s→inK n ks x=true→c4 ok w R' x (fwS x s)∧den H' (fwS x s)=den H s
 | .v x,s,h,_=>by simp only [a1F]at h;simp only [fwS];refine⟨h, ?_⟩;simp only [c4]at h;rw [h.1];rfl
 | .lst z m l,s,h,_=>by simp only [a1F]at h;simp only [fwS];refine⟨h, ?_⟩;simp only [c4]at h;obtain⟨y,rfl,_⟩:=h;rfl
 | .ptr l o,s,h,_=>by simp only [a1F]at h;simp only [fwS];refine⟨h, ?_⟩;simp only [c4]at h;obtain⟨y,rfl,_⟩:=h;rfl
 | .mp l,s,h,_=>by simp only [a1F]at h;simp only [fwS];refine⟨h, ?_⟩;simp only [c4]at h;obtain⟨y,rfl,_⟩:=h;rfl
 | .und,s,h,_=>by simp only [a1F]at h;simp only [fwS];refine⟨h, ?_⟩;simp only [c4]at h;rw [h];rfl
 | .bad,s,h,hk=>by simp [inK]at hk
 | .own j o,s,h,hk=>by
  simp only [a1F,c4]at h
  simp only [inK]at hk
  obtain⟨rfl,h⟩:=h
  split at hk
  · rename_i hb
    have hj:=a1P.1 hb
    simp only [fwS,c4]
    exact⟨⟨trivial,hz.R _ _ hk hj h⟩,by simp only [den,(hz.old j hk hj).1]⟩
  · cases hk
 | .ownx j o,s,h,hk=>by
  simp only [a1F,c4]at h
  simp only [inK]at hk
  obtain⟨rfl,h⟩:=h
  split at hk
  · rename_i hb
    have hj:=a1P.1 hb
    simp only [fwS,c4]
    exact⟨⟨trivial,hz.R _ _ hk hj h⟩,by simp only [den,(hz.old j hk hj).1]⟩
  · cases hk
 | .elr j z i o,s,h,hk=>by
  simp only [a1F,c4]at h
  simp only [inK]at hk
  obtain⟨rfl,h⟩:=h
  split at hk
  · rename_i hb
    have hj:=a1P.1 hb
    simp only [fwS,c4]
    exact⟨⟨trivial,hz.R _ _ hk hj h⟩,by simp only [den,(hz.old j hk hj).1]⟩
  · cases hk
 | .osl j o z m c,s,h,hk=>by
  simp only [a1F,c4]at h
  simp only [inK]at hk
  obtain⟨rfl,h⟩:=h
  split at hk
  · rename_i hb
    have hj:=a1P.1 hb
    simp only [fwS,c4]
    exact⟨⟨trivial,hz.R _ _ hk hj h⟩,by simp only [den,(hz.old j hk hj).1,(hz.old j hk hj).2]⟩
  · cases hk
 | .row j z,s,h,hk=>by
  simp only [inK]at hk
  simp only [a1F]at h
  simp only [fwS,c4]
  cases hb:Nat.blt j n with
  |true=>
   rw [hb]at h
   simp only [c4]at h
   obtain⟨rfl,h⟩:=h
   have hj:=a1P.1 hb
   exact⟨⟨trivial,hz.R _ _ hk hj h⟩,by simp only [den,(hz.old j hk hj).2]⟩
  |false=>
   rw [hb]at h
   have hj:¬j<n:=fun h=>by rw [a1P.2 h]at hb;cases hb
   have:=h.sc;subst this
   exact⟨⟨trivial,(hz.new j hk hj).1⟩,by simp only [den,(hz.new j hk hj).2]⟩
 | .agg l,s,h,hk=>by
  simp only [a1F,c4]at h
  simp only [inK]at hk
  obtain⟨cs,h1,h2,h3⟩:=h
  obtain⟨g1,g2⟩:=a4c hz l cs h2 hk
  simp only [fwS,h1,c4]
  refine⟨⟨_,rfl,g1, ?_⟩, ?_⟩
  · refine P1 fun d hd=> ?_
    have:∀l:List D,y5 (a1X n l)=true→∀d∈l,a4w d=true:=by
     intro l
     induction l with
     |nil=>simp
     |cons x l ih=>
      intro hf d hd
      have h0:a4w (a1F n x)=true:=v6 hf List.mem_cons_self
      rcases List.mem_cons.1 hd with rfl|hd
      · cases d<;>simp [a1F,a4w]at h0⊢
      · exact ih (P1 fun d hd=>v6 hf (List.mem_cons_of_mem _ hd)) d hd
    exact this l h3 d hd
  · cases s<;>simp [a4a]at h1
    · rename_i y;cases y<;>simp at h1
      subst h1
      rw [J3]at g2
      simp [den,g2]
    · subst h1;simp [den,g2]
 | .tup l,s,h,hk=>by
  simp only [a1F,c4]at h
  simp only [inK]at hk
  rcases h with⟨cs,rfl,h2⟩|⟨a,rfl,h2⟩
  · obtain⟨g1,g2⟩:=a4c hz l cs h2 hk
    simp only [fwS,c4]
    exact⟨.inl ⟨_,rfl,g1⟩,by simp [den,g2]⟩
  · obtain⟨g1,g2⟩:=a4c hz l _ h2 hk
    rw [J3]at g2
    simp only [fwS,c4]
    exact⟨.inl ⟨_,rfl,g1⟩,by simp [den,g2]⟩
 | .fn f x y,s,h,hk=>by
  simp only [a1F,c4]at h
  simp only [inK]at hk
  split at hk
  · rename_i hx
    rcases h with⟨p,q,rfl,h2,h3⟩|⟨p,q,rfl,h2,h3⟩
    · obtain⟨g1,g2⟩:=a4c hz x p h2 hx
      obtain⟨g3,g4⟩:=a4c hz y q h3 hk
      simp only [fwS,c4]
      exact⟨.inl ⟨_,_,rfl,g1,g3⟩,by simp [den,g2,g4]⟩
    · obtain⟨g1,g2⟩:=a4c hz x _ h2 hx
      obtain⟨g3,g4⟩:=a4c hz y _ h3 hk
      rw [J3]at g2 g4
      simp only [fwS,c4]
      exact⟨.inl ⟨_,_,rfl,g1,g3⟩,by simp [den,g2,g4]⟩
  · cases hk
theorem a4c {ok:Nat→Prop} {w:World} {n:Nat} {ks:List Nat} {R R':Bool→Nat→Prop} {H H':Hp} (hz:b8c ok w n ks R R' H H'):∀(l:List D) (r:List SV),c0 ok w R (a1X n l) r→b7z n ks l=true→c0 ok w R' l (fwL l r)∧i4 H' (fwL l r)=i4 H r
 | [], [],_,_=>⟨trivial,rfl⟩
 |x::l,s::r,h,hk=>by
  simp only [a1X,c0]at h
  simp only [b7z]at hk
  split at hk
  · rename_i hx
    obtain⟨g1,g2⟩:=b6W hz x s h.1 hx
    obtain⟨g3,g4⟩:=a4c hz l r h.2 hk
    simp only [fwL]
    exact⟨⟨g1,g3⟩,by simp [i4,g2,g4]⟩
  · cases hk
 | [],_::_,h,_=>by simp [a1X,c0]at h
 |_::_, [],h,_=>by simp [a1X,c0]at h
end
def a9v (ok:Nat→Prop) (w:World) (R:Bool→Nat→Prop):List D→List SV→Prop
 | [], []=>True
 | .bad::l,_::r=>a9v ok w R l r
 |x::l,s::r=>c4 ok w R x s∧a9v ok w R l r
 |_,_=>False
theorem b4u {ok:Nat→Prop} {w:World} {R:Bool→Nat→Prop}:∀(l r:List D) (v:List SV),a9F l r→c0 ok w R l v→a9v ok w R r v
 | [], [], [],_,_=>trivial
 |x::l,y::r,v::vs,h,hr=>by
  simp only [c0]at hr
  cases y<;>simp only [a9F]at h<;>simp only [a9v]
  case bad=>exact b4u l r vs h hr.2
  all_goals exact⟨b6S x _ v h.1 hr.1,b4u l r vs h.2 hr.2⟩
 |_::_, [],_,h,_=>by simp [a9F]at h
 | [],y::_,_,h,_=>by cases y<;>simp [a9F]at h
 |_::_,_::_, [],_,hr=>by simp [c0]at hr
 | [], [],_::_,_,hr=>by simp [c0]at hr
theorem a8o {ok:Nat→Prop} {w:World} {n:Nat} {ks:List Nat} {R R':Bool→Nat→Prop} {H H':Hp} (hz:b8c ok w n ks R R' H H'):∀(l:List D) (r:List SV),a9v ok w R (a1X n l) r→b4A n ks l=true→c0 ok w R' l (fwB l r)∧b5F H H' r (fwB l r)
 | [], [],_,_=>⟨trivial,trivial⟩
 | [],_::_,h,_=>by simp [a1X,a9v]at h
 |x::l, [],h,_=>by
  simp only [a1X]at h
  cases hx:a1F n x<;>rw [hx]at h<;>simp [a9v]at h
 |x::l,s::r,h,hk=>by
  have gen:x≠ .bad→(a9v ok w R (a1F n x::a1X n l) (s::r)→c4 ok w R (a1F n x) s∧a9v ok w R (a1X n l) r)→(inK n ks x=true∧a4w x=true∧b4A n ks l=true)→fwB (x::l) (s::r)=fwS x s::fwB l r→c0 ok w R' (x::l) (fwB (x::l) (s::r))∧b5F H H' (s::r) (fwB (x::l) (s::r)):=by
   intro hb h1 h2 h3
   obtain⟨g1,g2⟩:=h1 h
   obtain⟨k1,k2,k3⟩:=h2
   obtain⟨q1,q2⟩:=b6W hz x s g1 k1
   obtain⟨q3,q4⟩:=a8o hz l r g2 k3
   rw [h3]
   refine⟨⟨q1,q3⟩, .inr ⟨c4.ne g1 ?_,q2.symm⟩,q4⟩
   cases x<;>simp only [a1F]<;>first|exact absurd rfl hb|(split<;>simp)|simp
  cases x
  case bad=>
   simp only [a1X,a1F,a9v]at h
   simp only [b4A]at hk
   obtain⟨q3,q4⟩:=a8o hz l r h hk
   simp only [fwB]
   exact⟨⟨by simp only [c4],q3⟩, .inl rfl,q4⟩
  case row k z=>
   refine gen (by simp) (fun h=> ?_) ?_ rfl
   · simp only [a1F]at h⊢
     split at h<;>simpa only [a9v]using h
   · simp only [b4A]at hk
     split at hk
     · rename_i h1 h2;exact⟨h1,h2,hk⟩
     · cases hk
  all_goals
   refine gen (by simp) (fun h=>by simpa only [a1F,a9v]using h) ?_ rfl
   simp only [b4A]at hk
   split at hk
   · rename_i h1 h2;exact⟨h1,h2,hk⟩
   · cases hk
end
end Go.Sx
