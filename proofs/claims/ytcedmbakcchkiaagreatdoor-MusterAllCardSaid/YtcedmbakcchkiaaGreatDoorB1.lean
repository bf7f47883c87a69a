/- The walk over pure data: its definitions, that it is sound, and what may be read at a type. -/
import Derived.Test.YtcedmbakcchkiaaGreatDoorA2
set_option linter.unusedVariables false
set_option linter.unusedSimpArgs false
namespace Go.Sx
open Go Go.RowKit
inductive D where
 |v (x:Value)
 |agg (l:List D)
 |lst (z n:Nat) (l:List D)
 |ptr (l:List D) (o:Nat)
 |own (k o:Nat)
 |ownx (k o:Nat)
 |row (k z:Nat)
 |elr (k z i o:Nat)
 |osl (k o z n c:Nat)
 |tup (l:List D)
 |fn (f:FuncId) (first caps:List D)
 |mp (l:List (Int×Nat))
 |und
 |bad
inductive E where
 |blk (cs:List D) (ty:TypeId)
 |row (z n:Nat) (l:List D) (ty:TypeId)
abbrev Hy:=List (Nat×E)
structure Sy where
 T:List (Nat×D)
 H:Hy
 nk:Nat
structure Cy where
 P:Program
 tt:List (Nat×TI)
 nt:Nat
 pl:List (Nat×PT)
 ln:List Nat:= []
 un:List Nat:= []
 dfs:List Deferred:= []
 inl:List Nat:= []
 sv:List Value:= []
def i6:Hy→Nat→Option E
 | [],_=>none
 |(k',e)::H,k=>match Nat.beq k' k with|true=>some e|false=>i6 H k
def n7:List (Nat×D)→Nat→Option D
 | [],_=>none
 |(d,s)::T,k=>match Nat.beq d k with|true=>some s|false=>n7 T k
def a3G:D→Bool
 | .v _=>true
 | .lst _ _ _=>true
 | .ptr _ _=>true
 | .own _ _=>true
 | .ownx _ _=>true
 | .row _ _=>true
 | .elr _ _ _ _=>true
 | .osl _ _ _ _ _=>true
 | .fn _ _ _=>true
 | .mp _=>true
 |_=>false
def u2:List D→Bool
 | []=>true
 |d::l=>match a3G d with|true=>u2 l|false=>false
def ofV:Value→Option D
 | .agg a=>match a.toList.all a3Z with|true=>some (.agg (a.toList.map .v))|false=>none
 | .tuple _=>none
 |x=>some (.v x)
def a8H (T:List (Nat×D)) (d:Nat):Option D:=match Nat.blt d 1000000 with|true=>n7 T d|false=>none
theorem a1D {T:List (Nat×D)} {d:Nat} {s:D} (h:a8H T d=some s):d<I9∧n7 T d=some s:=by
 unfold a8H at h
 split at h
 · rename_i hb;exact⟨by simpa [Nat.blt_eq]using hb,h⟩
 · cases h
theorem a5p {T:List (Nat×SV)} {d:Nat} (h:d<I9):a9c T d=s7 T d:=by
 unfold a9c
 rw [show Nat.blt d 1000000=true by simpa [Nat.blt_eq]using h]
def evY (st:Sy):Operand→Option D
 | .tmp t=>match a8H st.T t with|some .bad=>none|r=>r
 | .const v=>ofV v
 | .func f=>some (.fn f [] [])
 | .global _=>none
def a6P (st:Sy):List Operand→Option (List D)
 | []=>some []
 |x::l=>match evY st x,a6P st l with|some s,some r=>some (s::r)|_,_=>none
def takeD:Nat→List D→Option (List D)
 |0,_=>some []
 |_+1, []=>none
 |_+1, .bad::_=>none
 |n+1,x::l=>match takeD n l with|some r=>some (x::r)|none=>none
def dropD:Nat→List D→List D
 |0,l=>l
 |_+1, []=> []
 |n+1,_::l=>dropD n l
def mkD (agg:Bool) (l:List D):Option D:=
 match agg,l with
 |true,l=>match u2 l with|true=>some (.agg l)|false=>none
 |false, [x]=>match a3G x with|true=>some x|false=>none
 |false,_=>none
def a8F:D→Option (List D)
 | .agg l=>some l
 | .tup _=>none
 | .und=>none
 | .bad=>none
 |s=>some [s]
def c0L:D→Option (List D)
 | .agg l=>some l
 |_=>none
def a9G:Bool→D→Option (List D)
 |true, .agg l=>some l
 |false, .v (.bool b)=>some [.v (.bool b)]
 |_,_=>none
def b7d:CK→D→D→Option Bool
 | .int k, .v (.int ka a), .v (.int kb b)=>match kEq k ka,kEq k kb with|true,true=>some (a==b)|_,_=>none
 | .bool, .v (.bool a), .v (.bool b)=>some (a==b)
 | .str, .v (.string a), .v (.string b)=>some (a.toList==b.toList)
 |_,_,_=>none
def a4O:List CK→List D→List D→Option Bool
 | [], [], []=>some true
 | [k], [x], [y]=>b7d k x y
 |k::ks,x::l,y::r=>match b7d k x y,a4O ks l r with|some a,some b=>some (a&&b)|_,_=>none
 |_,_,_=>none
def b1U:D→Bool
 | .v _=>true
 | .lst _ _ _=>true
 | .ptr _ _=>true
 |_=>false
def P5:List D→Bool
 | []=>true
 |d::l=>match b1U d with|true=>P5 l|false=>false
inductive a4Z where
 |val (s:D)
 |new (cs:List D) (ty:TypeId) (sl:Option (Nat×Nat))
 |newR (l:List D) (ty:TypeId) (z n:Nat)
 |call (f:FuncId) (args:List D)
 |upd (key:Nat) (cs:List D)
 |updR (key:Nat) (l:List D)
 |app (e esz bytes:Nat) (s x:D)
def el (l:List D) (z i:Nat):List D:=(l.drop (i*z)).take z
def a7s (l:List D) (z i:Nat) (cs:List D):List D:=l.take (i*z)++cs++l.drop (i*z+z)
def a2G (K:a4Z→Prop):Option D→Prop
 |some s=>K (.val s)
 |none=>False
def a8N (K:a4Z→Prop):Out→Prop
 | .val (.v x)=>match a3Z x with|true=>K (.val (.v x))|false=>False
 |_=>False
def b5O (st:Sy) (len cap:Nat) (lo hi mx:Option Operand) (K:Nat→Nat→Nat→Prop):Prop:=
 match mx with
 |none=>match hi with
  |none=>match lo with
   |none=>K 0 len cap
   |some l=>match evY st l with
    |some (.v (.int _ z))=>(0≤z∧z≤len)∧K z.toNat len cap
    |_=>False
  |some h=>match evY st h with
   |some (.v (.int _ y))=>(0≤y∧y≤cap)∧match lo with
    |none=>K 0 y.toNat cap
    |some l=>match evY st l with
     |some (.v (.int _ z))=>(0≤z∧z≤y)∧K z.toNat y.toNat cap
     |_=>False
   |_=>False
 |some _=>False
def b0B (X:Cy) (st:Sy) (b:Builtin) (args:List Operand) (tys:List TypeId) (K:a4Z→Prop):Prop:=
 match b,tys with
 | .len,t::_=>match D8 X.tt t,a6P st args with
  |some ⟨_,_,_,_, .slice _ _ _⟩,some [.v (.slice none 0 0)]=>K (.val (.v (.int .i64 0)))
  |some ⟨_,_,_,_, .slice _ _ _⟩,some [.lst _ n _]=>K (.val (.v (.int .i64 n)))
  |some ⟨_,_,_,_, .slice _ _ _⟩,some [.osl _ _ _ n _]=>K (.val (.v (.int .i64 n)))
  |some ⟨_,_,_,_, .slice _ _ _⟩,some [.row k _]=>match i6 st.H k with
   |some (.row _ n _ _)=>K (.val (.v (.int .i64 n)))
   |_=>False
  |some ⟨_,_,_,_, .str⟩,some [.v (.string s)]=>K (.val (.v (.int .i64 s.size)))
  |_,_=>False
 | .max,_=>match a6P st args with
  |some [.v (.int ka a), .v (.int _ b)]=>K (.val (.v (.int ka (if b>a then b else a))))
  |_=>False
 | .min,_=>match a6P st args with
  |some [.v (.int ka a), .v (.int _ b)]=>K (.val (.v (.int ka (if b<a then b else a))))
  |_=>False
 | .append,t::u::_=>match Nat.beq t u,D8 X.tt t,a6P st args with
  |true,some ⟨_,_,_,_, .slice e esz bytes⟩,some [s,x]=>match D8 X.tt e with
   |some i=>match Nat.beq i.n esz with
    |true=>K (.app e esz bytes s x)
    |false=>False
   |none=>False
  |_,_,_=>False
 |_,_=>False
def b5B (X:Cy) (fs:List (Nat×Nat×Nat)) (f:Nat) (s:D) (K:a4Z→Prop):Prop:=
 match a7B fs f,c0L s with
 |some (fty,off,n),some l=>match D8 X.tt fty,takeD n (dropD off l)with
  |some i,some r=>match Nat.beq i.n n with
   |true=>a2G K (mkD i.agg r)
   |false=>False
  |_,_=>False
 |_,_=>False
def b0l (fs:List (Nat×Nat×Nat)) (st:Sy):List (Nat×Operand)→List D→Option (List D)
 | [],l=>some l
 |(i,x)::ps,l=>match a7B fs i,evY st x with
  |some (_,off,n),some s=>match a8F s with
   |some cs=>match Nat.beq cs.length n,u2 cs with
    |true,true=>match over off cs l with
     |some r=>b0l fs st ps r
     |none=>none
    |_,_=>none
   |none=>none
  |_,_=>none
def a3v (esz:Nat) (st:Sy):List (Nat×Operand)→List D→Option (List D)
 | [],l=>some l
 |(i,x)::ps,l=>match evY st x with
  |some s=>match a8F s with
   |some cs=>match Nat.beq cs.length esz,u2 cs with
    |true,true=>match over (i*esz) cs l with
     |some r=>a3v esz st ps r
     |none=>none
    |_,_=>none
   |none=>none
  |_=>none
def a9x:Nat→List D→List D
 |0,_=> []
 |n+1,l=>l++a9x n l
def vD:List Value→List D
 | []=> []
 |x::l=> .v x::vD l
def c0l (st:Sy) (i:TI) (p:D) (K:a4Z→Prop):Prop:=
 match p with
 | .own k o=>match i6 st.H k with
  |some (.blk cs _)=>match takeD i.n (dropD o cs)with
   |some l=>a2G K (mkD i.agg l)
   |none=>False
  |_=>False
 | .ownx k o=>match i6 st.H k with
  |some (.blk cs _)=>∃l,(takeD i.n (dropD o cs)=some l)∧a2G K (mkD i.agg l)
  |_=>False
 | .elr k z j o=>match i6 st.H k with
  |some (.row z' n l _)=>match Nat.beq z' z with
   |true=>∃cs,(el l z j=cs∧j<n)∧match takeD i.n (dropD o cs),Nat.ble (o+i.n) z with
    |some l,true=>a2G K (mkD i.agg l)
    |_,_=>False
   |false=>False
  |_=>False
 | .ptr l o=>match takeD i.n (dropD o l)with
  |some l=>a2G K (mkD i.agg l)
  |none=>False
 |_=>False
def b5i (st:Sy) (i:TI) (p s:D) (K:a4Z→Prop):Prop:=
 match a8F s with
 |some l=>match Nat.beq l.length i.n,u2 l with
  |true,true=>match p with
   | .own k o=>match i6 st.H k with
    |some (.blk cs _)=>match over o l cs with
     |some cs'=>K (.upd k cs')
     |none=>False
    |_=>False
   | .ownx k o=>match i6 st.H k with
    |some (.blk cs _)=>∃cs',over o l cs=some cs'∧K (.upd k cs')
    |_=>False
   | .elr k z j o=>match i6 st.H k with
    |some (.row z' n r _)=>match Nat.beq z' z,P5 l with
     |true,true=>∃cs,(el r z j=cs∧j<n)∧match over o l cs with
      |some cs'=>∃r',a7s r z j cs'=r'∧K (.updR k r')
      |none=>False
     |_,_=>False
    |_=>False
   |_=>False
  |_,_=>False
 |none=>False
def a9O (s:D) (off:Nat):Option D:=
 match s with
 | .own k o=>some (.own k (o+off))
 | .ownx k o=>some (.ownx k (o+off))
 | .elr k z i o=>some (.elr k z i (o+off))
 | .ptr l o=>some (.ptr l (o+off))
 |_=>none
def b1o (s:D) (off:Nat):Option D:=
 match s with
 | .own k o=>some (.ownx k (o+off))
 | .ownx k o=>some (.ownx k (o+off))
 |_=>none
def a5u:List (Int×Nat)→Int→Option Nat
 | [],_=>none
 |(k,f)::l,i=>match i==k with|true=>some f|false=>a5u l i
def y1 (X:Cy) (st:Sy) (op:Op) (K:a4Z→Prop):Prop:=
 match op with
 | .move x=>a2G K (evY st x)
 | .assign x=>a2G K (evY st x)
 | .pick c a b=>match evY st c with
  |some (.v (.bool t))=>VIf t (a2G K (evY st a)) (a2G K (evY st b))
  |_=>False
 | .alloc t=>match D8 X.tt t with
  |some i=>K (.new (vD i.z) t none)
  |none=>False
 | .box t x=>match D8 X.tt t,evY st x with
  |some _,some s=>match a8F s with
   |some l=>match u2 l with|true=>K (.new l t none)|false=>False
   |none=>False
  |_,_=>False
 | .load t p=>match D8 X.tt t,evY st p with
  |some i,some s=>c0l st i s K
  |_,_=>False
 | .store t p x=>match D8 X.tt t,evY st p,evY st x with
  |some i,some q,some s=>b5i st i q s K
  |_,_,_=>False
 | .nilCheck p=>match evY st p with
  |some (.own k o)=>K (.val (.own k o))
  |some (.ownx k o)=>K (.val (.ownx k o))
  |some (.elr k z i o)=>K (.val (.elr k z i o))
  |some (.ptr l o)=>K (.val (.ptr l o))
  |_=>False
 | .fieldAddr t p f=>match D8 X.tt t,evY st p with
  |some ⟨_,_,_,_, .struct fs⟩,some s=>match a7B fs f with
   |some (_,off,_)=>a2G K (a9O s off)
   |none=>False
  |_,_=>False
 | .field t x f=>match D8 X.tt t,evY st x with
  |some ⟨_,_,_,_, .struct fs⟩,some s=>b5B X fs f s K
  |_,_=>False
 | .indexAddr t x ix=>match D8 X.tt t,evY st x,evY st ix with
  |some ⟨_,_,_,_, .slice _ esz _⟩,some (.lst z n l),some (.v (.int _ i))=>match Nat.beq z esz with
   |true=>∃cs,(el l z i.toNat=cs∧0≤i∧i<n)∧K (.val (.ptr cs 0))
   |false=>False
  |some ⟨_,_,_,_, .slice _ esz _⟩,some (.osl k o z n _),some (.v (.int _ i))=>match Nat.beq z esz with
   |true=>(0≤i∧i<n)∧K (.val (.ownx k (o+i.toNat*z)))
   |false=>False
  |some ⟨_,_,_,_, .slice _ esz _⟩,some (.row k z),some (.v (.int _ i))=>match Nat.beq z esz,i6 st.H k with
   |true,some (.row z' n _ _)=>match Nat.beq z' z with
    |true=>(0≤i∧i<n)∧K (.val (.elr k z i.toNat 0))
    |false=>False
   |_,_=>False
  |some ⟨_,_,_,_, .slice _ _ _⟩,some (.v (.slice none 0 0)),some (.v (.int _ i))=>0≤i∧i<0
  |some ⟨_,_,_,_, .arr len _ esz⟩,some s,some (.v (.int _ z))=>
   (0≤z∧z<len)∧a2G K (match b6Z ix with|true=>a9O s (z.toNat*esz)|false=>b1o s (z.toNat*esz))
  |_,_,_=>False
 | .index t x ix=>match D8 X.tt t,evY st x,evY st ix with
  |some ⟨_,_,_,_, .str⟩,some (.v (.string s)),some (.v (.int _ z))=>
   ∃c,(0≤z∧s.data.toList[z.toNat]?=some c)∧K (.val (.v (.int .u8 c.toNat)))
  |some ⟨_,_,_,_, .arr len ety esz⟩,some s,some (.v (.int _ z))=>match c0L s,D8 X.tt ety with
   |some l,some i=>(0≤z∧z<len)∧match Nat.beq i.n esz,takeD i.n (dropD (z.toNat*esz) l)with
    |true,some r=>a2G K (mkD i.agg r)
    |_,_=>False
   |_,_=>False
  |_,_,_=>False
 | .binOp op t x y _=>match evY st x,evY st y with
  |some (.v (.int ka a)),some (.v (.int kb b))=>match c2y op,kEq ka kb with
   |true,_=>b5t op ka a b (a8N K)
   |false,true=>b0E op ka a b (a8N K)
   |false,false=>False
  |some (.v (.string a)),some (.v (.string b))=>a9Y op a b (a8N K)
  |some s,some r=>match D8 X.tt t with
   |some ⟨_,agg,_,some ks,_⟩=>match a9G agg s,a9G agg r with
    |some l,some m=>match a4O ks l m with
     |some e=>a2K op e (a8N K)
     |none=>False
    |_,_=>False
   |some ⟨_,_,_,none, .slice _ _ _⟩=>match s,r with
    | .lst _ n _, .v (.slice none 0 0)=>∀b:Bool,(b=true→n=0)→a2K op b (a8N K)
    | .v (.slice none 0 0), .v (.slice none 0 0)=>a2K op true (a8N K)
    |_,_=>False
   |_=>False
  |_,_=>False
 | .unOp op _ x=>match op,evY st x with
  | .not,some (.v (.bool b))=>K (.val (.v (.bool (!b))))
  | .neg,some (.v (.int k a))=>K (.val (.v (.int k (k.wrap (0-a)))))
  |_,_=>False
 | .convert src dst x=>match D8 X.tt src,D8 X.tt dst,evY st x with
  |some _,some ⟨_,_,_,some [.int k], .int⟩,some (.v (.int _ n))=>K (.val (.v (.int k (k.wrap n))))
  |_,_,_=>False
 | .extract x n=>match evY st x with
  |some (.tup l)=>match dropD n l with| .bad::_=>False|s::_=>K (.val s)| []=>False
  |_=>False
 | .makeFunc fn first caps=>match fn,a6P st first.toList,a6P st caps.toList with
  | .func f,some l,some c=>K (.val (.fn f l c))
  |_,_,_=>False
 | .build t ps=>match D8 X.tt t with
  |some ⟨_,_,z,_, .struct fs⟩=>match b0l fs st ps.toList (vD z)with
   |some l=>match u2 l with|true=>K (.val (.agg l))|false=>False
   |none=>False
  |some ⟨_,_,z,_, .arr _ _ esz⟩=>match a3v esz st ps.toList (vD z)with
   |some l=>match u2 l with|true=>K (.val (.agg l))|false=>False
   |none=>False
  |_=>False
 | .buildSlice t n ps=>match D8 X.tt t with
  |some ⟨_,_,_,_, .slice e esz _⟩=>match D8 X.tt e with
   |some i=>match Nat.ble (n*esz) 16777216,Nat.beq i.n esz,a3v esz st ps.toList (a9x n (vD i.z))with
    |true,true,some l=>match P5 l,Nat.ble n 16777216 with
     |true,true=>∃l' n',(l=l'∧n=n')∧K (.newR l' e esz n')
     |_,_=>K (.new l e (some (esz,n)))
    |_,_,_=>False
   |none=>False
  |_=>False
 | .makeSlice t l c=>match D8 X.tt t,evY st l,evY st c with
  |some ⟨_,_,_,_, .slice e esz bytes⟩,some (.v (.int _ p)),some (.v (.int _ q))=>match D8 X.tt e with
   |some i=>match Nat.beq i.n esz with
    |true=>(p=q∧0≤p∧(bytes:Int)*p≤281474976710656∧p≤9223372036854775807)∧∃l' n',(a9x p.toNat (vD i.z)=l'∧p.toNat=n')∧K (.newR l' e esz n')
    |false=>False
   |none=>False
  |_,_,_=>False
 | .slice t x lo hi mx=>match D8 X.tt t,evY st x with
  |some ⟨_,_,_,_, .slice _ esz _⟩,some (.lst z n l)=>match Nat.beq z esz with
   |true=>b5O st n n lo hi mx fun a h _=>∃r,(l.drop (a*z)).take ((h-a)*z)=r∧K (.val (.lst z (h-a) r))
   |false=>False
  |some ⟨_,_,_,_, .slice _ esz _⟩,some (.row k z)=>match Nat.beq z esz,i6 st.H k with
   |true,some (.row _ n _ _)=>0<n∧b5O st n n lo hi mx fun a h _=>∀o,(h-a=0∨o=a*z)∧(a=0→o=0)→K (.val (.osl k o z (h-a) a))
   |_,_=>False
  |some ⟨_,_,_,_, .str⟩,some (.v (.string s))=>
   b5O st s.size s.size lo hi mx fun l h _=>K (.val (.v (.string (s.extract l h))))
  |_,_=>False
 | .lookup t x ix ok=>match ok,evY st x,evY st ix with
  |false,some (.mp l),some (.v (.int .i64 i))=>(∃kt et,X.P.underlying t=some (.map kt et)∧X.P.underlying kt=some (.int .i64))∧∃f,a5u l i=some f∧K (.val (.fn f [] []))
  |_,_,_=>False
 | .call c=>match c.callee with
  | .value f=>match evY st f,a6P st c.args.toList with
   |some (.fn g l caps),some args=>K (.call g (l++(args++caps)))
   |_,_=>False
  | .builtin b=>b0B X st b c.args.toList c.argTypes.toList K
  |_=>False
 |_=>False
end Go.Sx
namespace Go.Sx
open Go Go.RowKit
mutual
def Rep (ok:Nat→Prop) (w:World):D→Value→Prop
 | .v x,y=>y=x∧a3Z x=true
 | .agg l,y=>∃a,y= .agg a∧c7 ok w l a.toList∧u2 l=true
 | .lst z n l,y=>∃a c,y= .slice a n c∧n≤c∧(n:Int)≤9223372036854775807∧l.length=n*z∧u2 l=true∧
  (c=0∨∃b o xs,a=some ⟨b,o,none⟩∧ok b∧c7 ok w l xs∧∀j,j<n*z→w.cell? ⟨b,o+j,none⟩=xs[j]?)
 | .ptr l o,y=>∃b p xs,y= .pointer (some ⟨b,p+o,none⟩)∧ok b∧u2 l=true∧c7 ok w l xs∧∀j,j<l.length→w.cell? ⟨b,p+j,none⟩=xs[j]?
 | .fn f a b,y=>∃p q,y= .func (.func f) p q∧c7 ok w a p.toList∧c7 ok w b q.toList
 | .tup l,y=>∃a,y= .tuple a∧c7 ok w l a.toList
 | .mp l,y=>∃r es c,y= .map (some r)∧ok r∧w.heap[r]?=some (.map es c)∧es.toList.map (fun e=>(e.key,e.val))=l.map (fun p=>(Value.int .i64 p.1,Value.func (.func p.2) #[] #[]))
 |_,_=>False
def c7 (ok:Nat→Prop) (w:World):List D→List Value→Prop
 | [], []=>True
 |d::l,y::r=>Rep ok w d y∧c7 ok w l r
 |_,_=>False
end
mutual
theorem Rep.mono {ok ok':Nat→Prop} {w w':World} (hm:∀b,ok b→ok' b∧w'.heap[b]?=w.heap[b]?):∀(d:D) (y:Value),Rep ok w d y→Rep ok' w' d y
 | .v x,y,h=>h
 | .agg l,y,h=>by
  simp only [Rep]at h⊢
  obtain⟨a,h1,h2,h3⟩:=h
  exact⟨a,h1,c7.mono hm l _ h2,h3⟩
 | .lst z n l,y,h=>by
  simp only [Rep]at h⊢
  obtain⟨a,c,h1,h2,h3,h4,h5,h6⟩:=h
  refine⟨a,c,h1,h2,h3,h4,h5, ?_⟩
  rcases h6 with h6|⟨b,o,xs,e1,e2,e3,e4⟩
  · exact .inl h6
  · refine .inr ⟨b,o,xs,e1,(hm b e2).1,c7.mono hm l _ e3,fun j hj=> ?_⟩
    rw [←e4 j hj];simp only [World.cell?,(hm b e2).2]
 | .ptr l o,y,h=>by
  simp only [Rep]at h⊢
  obtain⟨b,p,xs,e1,e2,e5,e3,e4⟩:=h
  refine⟨b,p,xs,e1,(hm b e2).1,e5,c7.mono hm l _ e3,fun j hj=> ?_⟩
  rw [←e4 j hj];simp only [World.cell?,(hm b e2).2]
 | .fn f a b,y,h=>by
  simp only [Rep]at h⊢
  obtain⟨p,q,h1,h2,h3⟩:=h
  exact⟨p,q,h1,c7.mono hm a _ h2,c7.mono hm b _ h3⟩
 | .tup l,y,h=>by
  simp only [Rep]at h⊢
  obtain⟨a,h1,h2⟩:=h
  exact⟨a,h1,c7.mono hm l _ h2⟩
 | .mp l,y,h=>by
  simp only [Rep]at h⊢
  obtain⟨r,es,c,h1,h2,h3,h4⟩:=h
  exact⟨r,es,c,h1,(hm r h2).1,by rw [(hm r h2).2];exact h3,h4⟩
 | .own _ _,_,h=>by simp [Rep]at h
 | .ownx _ _,_,h=>by simp [Rep]at h
 | .row _ _,_,h=>by simp [Rep]at h
 | .elr _ _ _ _,_,h=>by simp [Rep]at h
 | .osl _ _ _ _ _,_,h=>by simp [Rep]at h
 | .und,_,h=>by simp [Rep]at h
 | .bad,_,h=>by simp [Rep]at h
theorem c7.mono {ok ok':Nat→Prop} {w w':World} (hm:∀b,ok b→ok' b∧w'.heap[b]?=w.heap[b]?):∀(l:List D) (r:List Value),c7 ok w l r→c7 ok' w' l r
 | [], [],_=>trivial
 |d::l,y::r,h=>by
  simp only [c7]at h⊢
  exact⟨Rep.mono hm d y h.1,c7.mono hm l r h.2⟩
 | [],_::_,h=>by simp [c7]at h
 |_::_, [],h=>by simp [c7]at h
end
section
variable {ok : Nat → Prop} {w : World}
theorem c7.length {l:List D} {r:List Value} (h:c7 ok w l r):l.length=r.length:=by
 induction l generalizing r with
 |nil=>cases r with
  |nil=>rfl
  |cons=>simp [c7]at h
 |cons d l ih=>cases r with
  |nil=>simp [c7]at h
  |cons y r=>simp only [c7]at h;simp [ih h.2]
theorem c7.get {l:List D} {r:List Value} (h:c7 ok w l r) {j:Nat} {d:D} (hd:l[j]?=some d):∃y,r[j]?=some y∧Rep ok w d y:=by
 induction l generalizing r j with
 |nil=>simp at hd
 |cons d' l ih=>cases r with
  |nil=>simp [c7]at h
  |cons y r=>
   simp only [c7]at h
   cases j with
   |zero=>simp at hd;subst hd;exact⟨y,by simp,h.1⟩
   |succ j=>simp at hd;obtain⟨y',h1,h2⟩:=ih h.2 hd;exact⟨y',by simpa using h1,h2⟩
theorem c7.app {l l':List D} {r r':List Value} (h:c7 ok w l r) (h':c7 ok w l' r'):c7 ok w (l++l') (r++r'):=by
 induction l generalizing r with
 |nil=>cases r with
  |nil=>exact h'
  |cons=>simp [c7]at h
 |cons d l ih=>cases r with
  |nil=>simp [c7]at h
  |cons y r=>simp only [c7]at h;exact⟨h.1,ih h.2⟩
theorem c7.drop {l:List D} {r:List Value} (h:c7 ok w l r) (n:Nat):c7 ok w (l.drop n) (r.drop n):=by
 induction n generalizing l r with
 |zero=>simpa using h
 |succ n ih=>cases l with
  |nil=>cases r with
   |nil=>simp [c7]
   |cons=>simp [c7]at h
  |cons d l=>cases r with
   |nil=>simp [c7]at h
   |cons y r=>simp only [c7]at h;simpa using ih h.2
theorem c7.take {l:List D} {r:List Value} (h:c7 ok w l r) (n:Nat):c7 ok w (l.take n) (r.take n):=by
 induction n generalizing l r with
 |zero=>simp [c7]
 |succ n ih=>cases l with
  |nil=>cases r with
   |nil=>simp [c7]
   |cons=>simp [c7]at h
  |cons d l=>cases r with
   |nil=>simp [c7]at h
   |cons y r=>simp only [c7]at h;simp only [List.take_succ_cons,c7];exact⟨h.1,ih h.2⟩
theorem s6 {l:List D} (h:u2 l=true) {d:D} (hd:d∈l):a3G d=true:=by
 induction l with
 |nil=>cases hd
 |cons x l ih=>
  simp only [u2]at h
  split at h
  · rename_i hx
    rcases List.mem_cons.1 hd with rfl|hd
    · exact hx
    · exact ih h hd
  · cases h
theorem L8 {l:List D} (h:∀d,d∈l→a3G d=true):u2 l=true:=by
 induction l with
 |nil=>rfl
 |cons x l ih=>
  simp only [u2,h x List.mem_cons_self]
  exact ih fun d hd=>h d (List.mem_cons_of_mem _ hd)
theorem Rep.one {d:D} {y:Value} (h:Rep ok w d y) (hd:a3G d=true):a3Z y=true:=by
 cases d<;>simp [a3G]at hd<;>simp only [Rep]at h
 · obtain⟨rfl,h⟩:=h;exact h
 · obtain⟨a,c,rfl,_⟩:=h;rfl
 · obtain⟨b,p,xs,rfl,_⟩:=h;rfl
 · obtain⟨p,q,rfl,_⟩:=h;rfl
 · obtain⟨r,es,c,rfl,_⟩:=h;rfl
theorem c7.one {l:List D} {r:List Value} (h:c7 ok w l r) (hl:u2 l=true):∀y,y∈r→a3Z y=true:=by
 induction l generalizing r with
 |nil=>cases r with
  |nil=>simp
  |cons=>simp [c7]at h
 |cons d l ih=>cases r with
  |nil=>simp [c7]at h
  |cons y r=>
   simp only [c7]at h
   intro u hu
   rcases List.mem_cons.1 hu with rfl|hu
   · exact h.1.one (s6 hl List.mem_cons_self)
   · exact ih h.2 (L8 fun d hd=>s6 hl (List.mem_cons_of_mem _ hd)) u hu
end
mutual
def c0 (ok:Nat→Prop) (w:World) (R:Bool→Nat→Prop):D→SV→Prop
 | .v x,s=>s= .v x∧a3Z x=true
 | .agg l,s=>∃cs,a2T s=some cs∧b8 ok w R l cs∧u2 l=true
 | .lst z n l,s=>∃y,s= .v y∧Rep ok w (.lst z n l) y
 | .ptr l o,s=>∃y,s= .v y∧Rep ok w (.ptr l o) y
 | .own k o,s=>s= .own k o∧R false k
 | .ownx k o,s=>s= .ownx k o∧R false k
 | .row k _,s=>s= .row k∧R true k
 | .elr k z i o,s=>s= .ownx k (i*z+o)∧R true k
 | .osl k o _ n c,s=>s= .osl k o n c∧R false k
 | .tup l,s=>(∃cs,s= .tup cs∧b8 ok w R l cs)∨∃a,s= .v (.tuple a)∧b8 ok w R l (vs a.toList)
 | .fn f a b,s=>(∃a' b',s= .fn f a' b'∧b8 ok w R a a'∧b8 ok w R b b')∨∃p q,s= .v (.func (.func f) p q)∧b8 ok w R a (vs p.toList)∧b8 ok w R b (vs q.toList)
 | .mp l,s=>∃y,s= .v y∧Rep ok w (.mp l) y
 | .und,s=>s= .v undef
 | .bad,s=>s= .bad
def b8 (ok:Nat→Prop) (w:World) (R:Bool→Nat→Prop):List D→List SV→Prop
 | [], []=>True
 |d::l,y::r=>c0 ok w R d y∧b8 ok w R l r
 |_,_=>False
end
mutual
theorem c0.mono {ok ok':Nat→Prop} {w w':World} {R R':Bool→Nat→Prop} (hm:∀b,ok b→ok' b∧w'.heap[b]?=w.heap[b]?) (hR:∀q k,R q k→R' q k):∀(d:D) (s:SV),c0 ok w R d s→c0 ok' w' R' d s
 | .v x,y,h=>h
 | .agg l,y,h=>by
  simp only [c0]at h⊢
  obtain⟨a,h1,h2,h3⟩:=h
  exact⟨a,h1,b8.mono hm hR l _ h2,h3⟩
 | .lst z n l,y,h=>by
  simp only [c0]at h⊢
  obtain⟨a,h1,h2⟩:=h
  exact⟨a,h1,Rep.mono hm _ _ h2⟩
 | .ptr l o,y,h=>by
  simp only [c0]at h⊢
  obtain⟨a,h1,h2⟩:=h
  exact⟨a,h1,Rep.mono hm _ _ h2⟩
 | .mp l,y,h=>by
  simp only [c0]at h⊢
  obtain⟨a,h1,h2⟩:=h
  exact⟨a,h1,Rep.mono hm _ _ h2⟩
 | .own k o,y,h=>by simp only [c0]at h⊢;exact⟨h.1,hR _ k h.2⟩
 | .ownx k o,y,h=>by simp only [c0]at h⊢;exact⟨h.1,hR _ k h.2⟩
 | .row k z,y,h=>by simp only [c0]at h⊢;exact⟨h.1,hR _ k h.2⟩
 | .elr k z i o,y,h=>by simp only [c0]at h⊢;exact⟨h.1,hR _ k h.2⟩
 | .osl k o z n c,y,h=>by simp only [c0]at h⊢;exact⟨h.1,hR _ k h.2⟩
 | .tup l,y,h=>by
  simp only [c0]at h⊢
  rcases h with⟨cs,h1,h2⟩|⟨a,h1,h2⟩
  · exact .inl ⟨cs,h1,b8.mono hm hR l _ h2⟩
  · exact .inr ⟨a,h1,b8.mono hm hR l _ h2⟩
 | .fn f a b,y,h=>by
  simp only [c0]at h⊢
  rcases h with⟨p,q,h1,h2,h3⟩|⟨p,q,h1,h2,h3⟩
  · exact .inl ⟨p,q,h1,b8.mono hm hR a _ h2,b8.mono hm hR b _ h3⟩
  · exact .inr ⟨p,q,h1,b8.mono hm hR a _ h2,b8.mono hm hR b _ h3⟩
 | .und,_,h=>h
 | .bad,_,h=>h
theorem b8.mono {ok ok':Nat→Prop} {w w':World} {R R':Bool→Nat→Prop} (hm:∀b,ok b→ok' b∧w'.heap[b]?=w.heap[b]?) (hR:∀q k,R q k→R' q k):∀(l:List D) (r:List SV),b8 ok w R l r→b8 ok' w' R' l r
 | [], [],_=>trivial
 |d::l,y::r,h=>by
  simp only [b8]at h⊢
  exact⟨c0.mono hm hR d y h.1,b8.mono hm hR l r h.2⟩
 | [],_::_,h=>by simp [b8]at h
 |_::_, [],h=>by simp [b8]at h
end
section
variable {ok : Nat → Prop} {w : World} {R : Bool → Nat → Prop}
mutual
theorem Rep.rel {ok:Nat→Prop} {w:World} {R:Bool→Nat→Prop}:∀(d:D) (y:Value),Rep ok w d y→c0 ok w R d (.v y)
 | .v x,y,h=>by simp only [Rep]at h;simp only [c0];exact⟨by rw [h.1],h.2⟩
 | .agg l,y,h=>by
  simp only [Rep]at h;simp only [c0]
  obtain⟨a,rfl,h2,h3⟩:=h
  exact⟨_,rfl,c7.rel l _ h2,h3⟩
 | .lst z n l,y,h=>by simp only [c0];exact⟨y,rfl,h⟩
 | .ptr l o,y,h=>by simp only [c0];exact⟨y,rfl,h⟩
 | .mp l,y,h=>by simp only [c0];exact⟨y,rfl,h⟩
 | .fn f a b,y,h=>by
  simp only [Rep]at h;simp only [c0]
  obtain⟨p,q,rfl,h2,h3⟩:=h
  exact .inr ⟨p,q,rfl,c7.rel a _ h2,c7.rel b _ h3⟩
 | .tup l,y,h=>by
  simp only [Rep]at h;simp only [c0]
  obtain⟨a,rfl,h2⟩:=h
  exact .inr ⟨a,rfl,c7.rel l _ h2⟩
 | .own _ _,_,h=>by simp [Rep]at h
 | .ownx _ _,_,h=>by simp [Rep]at h
 | .row _ _,_,h=>by simp [Rep]at h
 | .elr _ _ _ _,_,h=>by simp [Rep]at h
 | .osl _ _ _ _ _,_,h=>by simp [Rep]at h
 | .und,_,h=>by simp [Rep]at h
 | .bad,_,h=>by simp [Rep]at h
theorem c7.rel {ok:Nat→Prop} {w:World} {R:Bool→Nat→Prop}:∀(l:List D) (r:List Value),c7 ok w l r→b8 ok w R l (vs r)
 | [], [],_=>trivial
 |d::l,y::r,h=>by
  simp only [c7]at h;simp only [vs,b8]
  exact⟨Rep.rel d y h.1,c7.rel l r h.2⟩
 | [],_::_,h=>by simp [c7]at h
 |_::_, [],h=>by simp [c7]at h
end
theorem c0.ne {d:D} {s:SV} (h:c0 ok w R d s) (hd:d≠ .bad):s≠ .bad:=by
 cases d<;>simp only [c0]at h
 · rw [h.1];simp
 · obtain⟨cs,h1,_⟩:=h;intro e;subst e;simp [a2T]at h1
 · obtain⟨y,rfl,_⟩:=h;simp
 · obtain⟨y,rfl,_⟩:=h;simp
 · rw [h.1];simp
 · rw [h.1];simp
 · rw [h.1];simp
 · rw [h.1];simp
 · rw [h.1];simp
 · rcases h with⟨cs,rfl,_⟩|⟨cs,rfl,_⟩<;>simp
 · rcases h with⟨p,q,rfl,_⟩|⟨p,q,rfl,_⟩<;>simp
 · obtain⟨y,rfl,_⟩:=h;simp
 · rw [h];simp
 · exact absurd rfl hd
theorem b8.length {l:List D} {r:List SV} (h:b8 ok w R l r):l.length=r.length:=by
 induction l generalizing r with
 |nil=>cases r with
  |nil=>rfl
  |cons=>simp [b8]at h
 |cons d l ih=>cases r with
  |nil=>simp [b8]at h
  |cons y r=>simp only [b8]at h;simp [ih h.2]
theorem b8.app {l l':List D} {r r':List SV} (h:b8 ok w R l r) (h':b8 ok w R l' r'):b8 ok w R (l++l') (r++r'):=by
 induction l generalizing r with
 |nil=>cases r with
  |nil=>exact h'
  |cons=>simp [b8]at h
 |cons d l ih=>cases r with
  |nil=>simp [b8]at h
  |cons y r=>simp only [b8]at h;exact⟨h.1,ih h.2⟩
theorem b8.dropD {l:List D} {r:List SV} (h:b8 ok w R l r) (n:Nat):b8 ok w R (dropD n l) (a0r n r):=by
 induction n generalizing l r with
 |zero=>simpa [Sx.dropD,a0r]using h
 |succ n ih=>cases l with
  |nil=>cases r with
   |nil=>simp [Sx.dropD,a0r,b8]
   |cons=>simp [b8]at h
  |cons d l=>cases r with
   |nil=>simp [b8]at h
   |cons y r=>simp only [b8]at h;simpa [Sx.dropD,a0r]using ih h.2
theorem b8.takeD {l:List D} {r:List SV} (h:b8 ok w R l r) {n:Nat} {x:List D} (hx:takeD n l=some x):∃y,a1J n r=some y∧b8 ok w R x y:=by
 induction n generalizing l r x with
 |zero=>simp [Sx.takeD]at hx;subst hx;exact⟨[],rfl,trivial⟩
 |succ n ih=>cases l with
  |nil=>simp [Sx.takeD]at hx
  |cons d l=>cases r with
   |nil=>simp [b8]at h
   |cons s r=>
    simp only [b8]at h
    have hd:d≠ .bad:=fun e=>by subst e;simp [Sx.takeD]at hx
    have hs:=h.1.ne hd
    have hx':(match Sx.takeD n l with|some r=>some (d::r)|none=>none)=some x:=by
     cases d<;>first|exact hx|exact absurd rfl hd
    split at hx'
    · rename_i q hq
      cases hx'
      obtain⟨y,h1,h2⟩:=ih h.2 hq
      refine⟨s::y, ?_,h.1,h2⟩
      have:a1J (n+1) (s::r)=(match a1J n r with|some q=>some (s::q)|none=>none):=by
       cases s<;>first|rfl|exact absurd rfl hs
      rw [this,h1]
    · cases hx'
theorem b8.over {l:List D} {r:List SV} (h:b8 ok w R l r) {o:Nat} {x y:List D} {x':List SV} (hx:b8 ok w R x x') (hy:over o x l=some y):∃y',Sx.over o x' r=some y'∧b8 ok w R y y':=by
 induction l generalizing r o x x' y with
 |nil=>cases r with
  |cons=>simp [b8]at h
  |nil=>cases o with
   |zero=>cases x with
    |nil=>cases x' with
     |nil=>simp [Sx.over]at hy;subst hy;exact⟨[],rfl,trivial⟩
     |cons=>simp [b8]at hx
    |cons=>simp [Sx.over]at hy
   |succ o=>simp [Sx.over]at hy
 |cons d l ih=>cases r with
  |nil=>simp [b8]at h
  |cons s r=>
   simp only [b8]at h
   cases o with
   |zero=>cases x with
    |nil=>cases x' with
     |nil=>simp [Sx.over]at hy;subst hy;exact⟨s::r,rfl,h⟩
     |cons=>simp [b8]at hx
    |cons a x=>cases x' with
     |nil=>simp [b8]at hx
     |cons a' x'=>
      simp only [b8]at hx
      simp only [Sx.over]at hy⊢
      split at hy
      · rename_i q hq
        cases hy
        obtain⟨y',h1,h2⟩:=ih h.2 hx.2 hq
        exact⟨a'::y',by rw [h1],hx.1,h2⟩
      · cases hy
   |succ o=>
    simp only [Sx.over]at hy⊢
    split at hy
    · rename_i q hq
      cases hy
      obtain⟨y',h1,h2⟩:=ih h.2 hx hq
      exact⟨s::y',by rw [h1],h.1,h2⟩
    · cases hy
theorem b6v {agg:Bool} {l:List D} {r:List SV} {x:D} (h:b8 ok w R l r) (hx:mkD agg l=some x):∃s,mkv agg r=some s∧c0 ok w R x s:=by
 unfold mkD at hx
 split at hx
 · split at hx
   · rename_i hf
     cases hx
     refine⟨.agg r,rfl, ?_⟩
     simp only [c0]
     exact⟨r,rfl,h,hf⟩
   · cases hx
 · split at hx
   · cases hx
     cases r with
     |nil=>simp [b8]at h
     |cons s r=>cases r with
      |nil=>simp only [b8]at h;exact⟨s,rfl,h.1⟩
      |cons=>simp [b8]at h
   · cases hx
 · cases hx
theorem a1q {K:a4Z→Prop} {x:Option D} (h:a2G K x):∃s,x=some s∧K (.val s):=by
 cases x with
 |none=>exact h.elim
 |some s=>exact⟨s,rfl,h⟩
theorem c0.cells {d:D} {s:SV} {l:List D} (h:c0 ok w R d s) (hc:a8F d=some l):∃r,a0e s=some r∧b8 ok w R l r:=by
 have one:∀ {d:D} {s:SV},c0 ok w R d s→a0e s=some [s]→∃r,a0e s=some r∧b8 ok w R [d] r:=fun h hs=>⟨_,hs,h,trivial⟩
 cases d<;>simp only [a8F]at hc<;>first|cases hc|skip
 · refine one h ?_
   simp only [c0]at h
   obtain⟨rfl,h⟩:=h
   rename_i x
   cases x<;>first|rfl|simp [a3Z]at h
 · simp only [c0]at h
   obtain⟨cs,h1,h2,_⟩:=h
   refine⟨cs, ?_,h2⟩
   cases s<;>simp [a2T]at h1
   · rename_i x;cases x<;>simp at h1
     subst h1;rfl
   · subst h1;rfl
 · refine one h ?_
   simp only [c0,Rep]at h
   obtain⟨y,rfl,a,c,rfl,_⟩:=h
   rfl
 · refine one h ?_
   simp only [c0,Rep]at h
   obtain⟨y,rfl,a,c,xs,rfl,_⟩:=h
   rfl
 · refine one h ?_;simp only [c0]at h;rw [h.1];rfl
 · refine one h ?_;simp only [c0]at h;rw [h.1];rfl
 · refine one h ?_;simp only [c0]at h;rw [h.1];rfl
 · refine one h ?_;simp only [c0]at h;rw [h.1];rfl
 · refine one h ?_;simp only [c0]at h;rw [h.1];rfl
 · refine one h ?_
   simp only [c0]at h
   rcases h with⟨p,q,rfl,_⟩|⟨p,q,rfl,_⟩<;>rfl
 · refine one h ?_
   simp only [c0,Rep]at h
   obtain⟨y,rfl,r,es,c,rfl,_⟩:=h
   rfl
theorem c0.one {Hp:Hp} (hR:∀k,R true k→∃v n xs sz ty,c6 Hp k=some (.row v n xs sz ty)) {d:D} {s:SV} (h:c0 ok w R d s) (hd:a3G d=true):b1B Hp s=true:=by
 cases d<;>simp [a3G]at hd<;>simp only [c0]at h
 · rw [h.1];exact h.2
 · obtain⟨y,rfl,h⟩:=h;exact h.one rfl
 · obtain⟨y,rfl,h⟩:=h;exact h.one rfl
 · rw [h.1];rfl
 · rw [h.1];rfl
 · obtain⟨v,n,xs,sz,ty,hf⟩:=hR _ h.2;rw [h.1];simp [b1B,hf]
 · rw [h.1];rfl
 · rw [h.1];rfl
 · rcases h with⟨p,q,rfl,_⟩|⟨p,q,rfl,_⟩<;>rfl
 · obtain⟨y,rfl,h⟩:=h;exact h.one rfl
theorem b8.one {Hp:Hp} (hR:∀k,R true k→∃v n xs sz ty,c6 Hp k=some (.row v n xs sz ty)) {l:List D} {r:List SV} (h:b8 ok w R l r) (hl:u2 l=true):a7c Hp r=true:=by
 induction l generalizing r with
 |nil=>cases r with
  |nil=>rfl
  |cons=>simp [b8]at h
 |cons d l ih=>cases r with
  |nil=>simp [b8]at h
  |cons y r=>
   simp only [b8]at h
   simp only [a7c,h.1.one hR (s6 hl List.mem_cons_self)]
   exact ih h.2 (L8 fun d hd=>s6 hl (List.mem_cons_of_mem _ hd))
theorem b1k {l:List Value} (h:∀x,x∈l→a3Z x=true):b8 ok w R (vD l) (vs l):=by
 induction l with
 |nil=>trivial
 |cons x l ih=>
  refine⟨?_,ih fun y hy=>h y (List.mem_cons_of_mem _ hy)⟩
  simp only [c0];exact⟨trivial,h x List.mem_cons_self⟩
theorem b5S {l:List D} (h:P5 l=true) {d:D} (hd:d∈l):b1U d=true:=by
 induction l with
 |nil=>cases hd
 |cons x l ih=>
  simp only [P5]at h
  split at h
  · rename_i hx
    rcases List.mem_cons.1 hd with rfl|hd
    · exact hx
    · exact ih h hd
  · cases h
theorem b8.vals {l:List D} {r:List SV} (h:b8 ok w R l r) (hl:P5 l=true):∃xs,r=vs xs∧c7 ok w l xs:=by
 induction l generalizing r with
 |nil=>cases r with
  |nil=>exact⟨[],rfl,trivial⟩
  |cons=>simp [b8]at h
 |cons d l ih=>cases r with
  |nil=>simp [b8]at h
  |cons s r=>
   simp only [b8]at h
   simp only [P5]at hl
   split at hl
   · rename_i hd
     obtain⟨xs,rfl,hx⟩:=ih h.2 hl
     have:∃y,s= .v y∧Rep ok w d y:=by
      cases d<;>simp [b1U]at hd
      · have:=h.1;simp only [c0]at this;exact⟨_,this.1,by simp only [Rep];exact⟨trivial,this.2⟩⟩
      · have:=h.1;simp only [c0]at this;exact this
      · have:=h.1;simp only [c0]at this;exact this
     obtain⟨y,rfl,hy⟩:=this
     exact⟨y::xs,rfl,hy,hx⟩
   · cases hl
end
theorem a9C (k:Nat) (l:List Value):H5 k (vs l)=false:=by
 induction l with
 |nil=>rfl
 |cons x l ih=>simp only [vs,H5,ment];exact ih
mutual
theorem c0.ment {ok:Nat→Prop} {w:World} {R:Bool→Nat→Prop} {k:Nat} (hR:∀q,¬R q k):∀(d:D) (s:SV),c0 ok w R d s→Sx.ment k s=false
 | .v x,s,h=>by simp only [c0]at h;rw [h.1];rfl
 | .agg l,s,h=>by
  simp only [c0]at h
  obtain⟨cs,h1,h2,_⟩:=h
  have:=b8.ment hR l _ h2
  cases s<;>simp [a2T]at h1
  · rfl
  · subst h1;simpa [Sx.ment]using this
 | .lst z n l,s,h=>by simp only [c0]at h;obtain⟨y,rfl,_⟩:=h;rfl
 | .ptr l o,s,h=>by simp only [c0]at h;obtain⟨y,rfl,_⟩:=h;rfl
 | .own j o,s,h=>by
  simp only [c0]at h;rw [h.1];simp only [Sx.ment]
  cases hb:Nat.beq j k with
  |false=>rfl
  |true=>have:=r6 hb;subst this;exact absurd h.2 (hR _)
 | .ownx j o,s,h=>by
  simp only [c0]at h;rw [h.1];simp only [Sx.ment]
  cases hb:Nat.beq j k with
  |false=>rfl
  |true=>have:=r6 hb;subst this;exact absurd h.2 (hR _)
 | .row j z,s,h=>by
  simp only [c0]at h;rw [h.1];simp only [Sx.ment]
  cases hb:Nat.beq j k with
  |false=>rfl
  |true=>have:=r6 hb;subst this;exact absurd h.2 (hR _)
 | .elr j z i o,s,h=>by
  simp only [c0]at h;rw [h.1];simp only [Sx.ment]
  cases hb:Nat.beq j k with
  |false=>rfl
  |true=>have:=r6 hb;subst this;exact absurd h.2 (hR _)
 | .osl j o z n c,s,h=>by
  simp only [c0]at h;rw [h.1];simp only [Sx.ment]
  cases hb:Nat.beq j k with
  |false=>rfl
  |true=>have:=r6 hb;subst this;exact absurd h.2 (hR _)
 | .tup l,s,h=>by
  simp only [c0]at h
  rcases h with⟨cs,rfl,h2⟩|⟨a,rfl,_⟩
  · simpa [Sx.ment]using b8.ment hR l _ h2
  · rfl
 | .fn f a b,s,h=>by
  simp only [c0]at h
  rcases h with⟨p,q,rfl,h2,h3⟩|⟨p,q,rfl,_⟩
  · simp only [Sx.ment,b8.ment hR a _ h2,b8.ment hR b _ h3]
  · rfl
 | .mp l,s,h=>by simp only [c0]at h;obtain⟨y,rfl,_⟩:=h;rfl
 | .und,s,h=>by simp only [c0]at h;rw [h];rfl
 | .bad,s,h=>by simp only [c0]at h;rw [h];rfl
theorem b8.ment {ok:Nat→Prop} {w:World} {R:Bool→Nat→Prop} {k:Nat} (hR:∀q,¬R q k):∀(l:List D) (r:List SV),b8 ok w R l r→H5 k r=false
 | [], [],_=>rfl
 |d::l,y::r,h=>by
  simp only [b8]at h;simp only [H5,c0.ment hR d y h.1]
  exact b8.ment hR l r h.2
 | [],_::_,h=>by simp [b8]at h
 |_::_, [],h=>by simp [b8]at h
end
end Go.Sx
namespace Go.Sx
open Go Go.RowKit
def okS (A:Nat→Prop) (st:St) (b:Nat):Prop:=((b<st.lo∨∃p,p∈st.iv∧p.1≤b∧b<p.2)∧A b)∧b<st.w.heap.size∧b6R st.H b
def u9 (st:St) (q:Bool) (k:Nat):Prop:=k<st.nk∧(q=true→∃v n xs sz ty,c6 st.H k=some (.row v n xs sz ty))
def a1R (ok:Nat→Prop) (w:World) (R:Bool→Nat→Prop):E→Ent→Prop
 | .blk cs ty, .blk _ cs' ty'=>ty=ty'∧b8 ok w R cs cs'
 | .row z n l ty, .row _ n' xs z' ty'=>n=n'∧z=z'∧ty=ty'∧c7 ok w l xs∧u2 l=true∧l.length=n*z
 |_,_=>False
structure Sim (A:Nat→Prop) (st:St) (sy:Sy):Prop where
 T:∀d x,n7 sy.T d=some x→x= .bad∨∃s,s7 st.T d=some s∧c0 (okS A st) st.w (u9 st) x s
 H:∀k e,i6 sy.H k=some e→∃e',c6 st.H k=some e'∧a1R (okS A st) st.w (u9 st) e e'
 nk:sy.nk=st.nk
 fT:∀j,st.nk≤j→o8 j st.T=true
 fH:∀j,st.nk≤j→B4 j st.H=true
def a6J (H:Hp) (ok:Nat→Prop) (w:World) (R:Bool→Nat→Prop):a4Z→Out→Prop
 | .val x, .val s=>c0 ok w R x s∧x≠ .bad
 | .new cs ty sl, .new cs' ty' sl'=>ty=ty'∧b8 ok w R cs cs'∧sl'=sl.map (·.2)
 | .newR l ty z n, .new cs' ty' sl'=>ty=ty'∧sl'=some n∧l.length=n*z∧n≤maxLen∧u2 l=true∧∃xs,cs'=vs xs∧c7 ok w l xs
 | .call f args, .call f' args'=>f=f'∧b8 ok w R args args'
 | .upd k cs, .upd k' cs'=>k=k'∧b8 ok w R cs cs'
 | .updR k l, .updR k' xs=>k=k'∧c7 ok w l xs∧u2 l=true∧∀v n ys z ty,c6 H k=some (.row v n ys z ty)→l.length=n*z
 | .app e z b s x, .app e' z' b' s' x'=>e=e'∧z=z'∧b=b'∧c0 ok w R s s'∧c0 ok w R x x'
 |_,_=>False
def cx (X:Cy) (w0:World) (bor:List Nat):Cx:=⟨X.P,X.tt,w0,bor,X.nt,X.pl,X.dfs,X.sv⟩
theorem b4C (n:Nat) (l:List D):dropD n l=l.drop n:=by
 induction n generalizing l with
 |zero=>rfl
 |succ n ih=>cases l with
  |nil=>rfl
  |cons x l=>simp [dropD,ih]
theorem b1c {n:Nat} {l r:List D} (h:takeD n l=some r):r.length=n∧r=l.take n∧ .bad∉r:=by
 induction n generalizing l r with
 |zero=>simp [takeD]at h;subst h;simp
 |succ n ih=>cases l with
  |nil=>simp [takeD]at h
  |cons d l=>
   have hd:d≠ .bad:=fun e=>by subst e;simp [takeD]at h
   have h':(match takeD n l with|some r=>some (d::r)|none=>none)=some r:=by
    cases d<;>first|exact h|exact absurd rfl hd
   split at h'
   · rename_i q hq
     cases h'
     obtain⟨h1,h2,h3⟩:=ih hq
     exact⟨by simp [h1],by rw [List.take_succ_cons,←h2],by simp only [List.mem_cons,not_or];exact⟨fun e=>hd e.symm,h3⟩⟩
   · cases h'
theorem c7.part {ok:Nat→Prop} {w:World} {l r:List D} {xs:List Value} (h:c7 ok w l xs) {n o:Nat} (hr:takeD n (dropD o l)=some r):c7 ok w r ((xs.drop o).take n)∧r.length=n∧(n=0∨o+n≤l.length):=by
 obtain⟨h1,h2,_⟩:=b1c hr
 rw [b4C]at h2
 refine⟨by rw [h2];exact(h.drop o).take n,h1, ?_⟩
 have:=congrArg List.length h2
 simp at this;omega
theorem b2K {ok:Nat→Prop} {w:World} {R:Bool→Nat→Prop} {agg:Bool} {r:List D} {xs:List Value} {x:D} (h:c7 ok w r xs) (hx:mkD agg r=some x):∃s,a4S agg xs=some s∧c0 ok w R x s:=by
 unfold mkD at hx
 split at hx
 · split at hx
   · rename_i hf
     cases hx
     refine⟨.agg (vs xs),rfl, ?_⟩
     simp only [c0]
     exact⟨vs xs,rfl,c7.rel _ _ h,hf⟩
   · cases hx
 · split at hx
   · cases hx
     cases xs with
     |nil=>simp [c7]at h
     |cons y xs=>cases xs with
      |nil=>simp only [c7]at h;exact⟨.v y,rfl,Rep.rel _ _ h.1⟩
      |cons=>simp [c7]at h
   · cases hx
 · cases hx
theorem b5K {agg:Bool} {r:List D} {x:D} (hx:mkD agg r=some x):x≠ .bad:=by
 unfold mkD at hx
 split at hx
 · split at hx<;>cases hx;simp
 · split at hx
   · rename_i ho;cases hx;intro e;subst e;simp [a3G]at ho
   · cases hx
 · cases hx
theorem a5X {l r:List D} (h:u2 l=true) (hs:∀d,d∈r→d∈l):u2 r=true:=L8 fun d hd=>s6 h (hs d hd)
theorem b5D {l:List D} {z n i:Nat} (hl:l.length=n*z) (hi:i<n):(el l z i).length=z:=by
 have:(i+1)*z≤n*z:=Nat.mul_le_mul_right z hi
 rw [Nat.add_mul]at this
 simp [el,hl];omega
theorem b5z {l:List D} {z i:Nat} {d:D} (h:d∈el l z i):d∈l:=List.mem_of_mem_drop (List.mem_of_mem_take h)
theorem c1s {α:Type} {o:Nat} {xs l:List α} (h:o+xs.length≤l.length):over o xs l=some (l.take o++xs++l.drop (o+xs.length)):=by
 induction l generalizing o xs with
 |nil=>
  simp at h
  obtain⟨rfl,rfl⟩:=h
  rfl
 |cons x l ih=>cases o with
  |zero=>cases xs with
   |nil=>simp [over]
   |cons y xs=>simp only [over];rw [ih (by simp at h⊢;omega)];simp
  |succ o=>simp only [over];rw [ih (by simp at h⊢;omega)];simp [Nat.add_right_comm]
theorem a8Y {α:Type} {o:Nat} {xs l r:List α} (h:over o xs l=some r):r.length=l.length:=by
 obtain⟨h1,h2⟩:=a6b h
 rw [h1];simp;omega
theorem b5v {op:BinOp} {k:IntKind} {a b:Int} {K K':Out→Prop} (hK:∀o,K o→K' o) (h:b0E op k a b K):b0E op k a b K':=by
 cases op<;>simp only [b0E]at h⊢<;>first|exact hK _ h|exact⟨h.1,hK _ h.2⟩|exact h
theorem b5g {op:BinOp} {a b:ByteArray} {K K':Out→Prop} (hK:∀o,K o→K' o) (h:a9Y op a b K):a9Y op a b K':=by
 cases op<;>simp only [a9Y]at h⊢<;>first|exact hK _ h|exact⟨h.1,hK _ h.2⟩|exact h
theorem b2p {op:BinOp} {k:IntKind} {a b:Int} {K K':Out→Prop} (hK:∀o,K o→K' o) (h:b5t op k a b K):b5t op k a b K':=by
 cases op<;>simp only [b5t]at h⊢<;>exact⟨h.1,hK _ h.2⟩
theorem a5o {op:BinOp} {e:Bool} {K K':Out→Prop} (hK:∀o,K o→K' o) (h:a2K op e K):a2K op e K':=by
 cases op<;>simp only [a2K]at h⊢<;>first|exact hK _ h|exact h
section
variable {A : Nat → Prop} {X : Cy} {w0 : World} {bor : List Nat} {st : St} {sy : Sy} {KY : a4Z → Prop} {K : Out → Prop}
theorem i5 (hs:Sim A st sy) {x:Operand} {d:D} (h:evY sy x=some d):∃s,ev st x=some s∧c0 (okS A st) st.w (u9 st) d s∧d≠ .bad:=by
 cases x with
 |tmp t=>
  simp only [evY]at h
  split at h
  · cases h
  · rename_i hb
    have hne:d≠ .bad:=fun e=>hb (by rw [h,e])
    obtain⟨hlt,h⟩:=a1D h
    rcases hs.T t d h with e|⟨s,h1,h2⟩
    · exact absurd e hne
    · refine⟨s, ?_,h2,hne⟩
      have hsb:=h2.ne hne
      simp only [ev,a5p hlt,h1]
      try (cases s<;>first|rfl|exact absurd rfl hsb)
 |const v=>
  simp only [evY]at h
  refine⟨.v v,rfl, ?_⟩
  unfold ofV at h
  split at h
  · rename_i a
    split at h
    · rename_i ha
      cases h
      refine⟨?_,by simp⟩
      simp only [c0]
      refine⟨vs a.toList,rfl, ?_,L8 fun d hd=>by simp at hd;obtain⟨x,_,rfl⟩:=hd;rfl⟩
      have:∀l:List Value,l.all a3Z=true→b8 (okS A st) st.w (u9 st) (l.map D.v) (vs l):=by
       intro l
       induction l with
       |nil=>intro _;trivial
       |cons x l ih=>intro hl;simp at hl;exact⟨by simp only [c0];exact⟨trivial,hl.1⟩,ih (by simpa using hl.2)⟩
      exact this _ ha
    · cases h
  · cases h
  · rename_i h1 h2
    cases h
    refine⟨?_,by simp⟩
    simp only [c0]
    refine⟨trivial, ?_⟩
    unfold a3Z
    split
    · exact absurd rfl (h1 _)
    · exact absurd rfl (h2 _)
    · rfl
 |func f=>simp only [evY]at h;cases h;exact⟨_,rfl,by simp only [c0];exact .inl ⟨[], [],rfl,trivial,trivial⟩,by simp⟩
 |global g=>simp [evY]at h
theorem R9 (hs:Sim A st sy) {l:List Operand} {r:List D} (h:a6P sy l=some r):∃s,evs st l=some s∧b8 (okS A st) st.w (u9 st) r s:=by
 induction l generalizing r with
 |nil=>simp only [a6P]at h;cases h;exact⟨[],rfl,trivial⟩
 |cons x l ih=>
  simp only [a6P]at h
  split at h
  · rename_i d r' hd hr
    cases h
    obtain⟨s,h1,h2,_⟩:=i5 hs hd
    obtain⟨s',h3,h4⟩:=ih hr
    exact⟨s::s',by simp only [evs,h1,h3],h2,h4⟩
  · cases h
theorem b2c (st:St):∀k,u9 st true k→∃v n xs sz ty,c6 st.H k=some (.row v n xs sz ty):=fun _ h=>h.2 rfl
variable (hK : ∀ oy o, a6J st.H (okS A st) st.w (u9 st) oy o → KY oy → K o)
include hK
theorem H4 {x:D} {s:SV} (h:KY (.val x)) (hr:c0 (okS A st) st.w (u9 st) x s) (hne:x≠ .bad):K (.val s):=hK (.val x) (.val s) ⟨hr,hne⟩ h
theorem a1v {o:Out} (h:a8N KY o):K o:=by
 unfold a8N at h
 split at h
 · rename_i x
   split at h
   · rename_i hx
     refine hK (.val (.v x)) _ ⟨?_,by simp⟩ h
     simp only [c0];exact⟨trivial,hx⟩
   · exact h.elim
 · exact h.elim
theorem b2W (hs:Sim A st sy) {x:Operand} (h:a2G KY (evY sy x)):a6i K (ev st x):=by
 obtain⟨d,h1,h2⟩:=a1q h
 obtain⟨s,h3,h4,h5⟩:=i5 hs h1
 rw [h3];exact H4 hK h2 h4 h5
theorem b3I {agg:Bool} {l:List D} {r:List SV} (h:a2G KY (mkD agg l)) (hr:b8 (okS A st) st.w (u9 st) l r):a6i K (mkv agg r):=by
 obtain⟨d,h1,h2⟩:=a1q h
 obtain⟨s,h3,h4⟩:=b6v hr h1
 rw [h3];exact H4 hK h2 h4 (b5K h1)
theorem b8r (hs:Sim A st sy) {i:TI} {p:D} {s:SV} (h:c0l sy i p KY) (hr:c0 (okS A st) st.w (u9 st) p s):a5v (cx X w0 bor) st i s K:=by
 unfold c0l at h
 split at h
 · rename_i k o
   simp only [c0]at hr
   obtain⟨rfl,_⟩:=hr
   split at h
   · rename_i cs ty hf
     obtain⟨e',hf',he⟩:=hs.H _ _ hf
     cases e' with
     |row=>exact he.elim
     |blk b cs' ty'=>
      split at h
      · rename_i l hl
        obtain⟨r,h1,h2⟩:=(he.2.dropD o).takeD hl
        simp only [a5v,hf',h1]
        exact b3I hK h h2
      · exact h.elim
   · exact h.elim
 · rename_i k o
   simp only [c0]at hr
   obtain⟨rfl,_⟩:=hr
   split at h
   · rename_i cs ty hf
     obtain⟨e',hf',he⟩:=hs.H _ _ hf
     cases e' with
     |row=>exact he.elim
     |blk b cs' ty'=>
      obtain⟨l,hl,h⟩:=h
      obtain⟨r,h1,h2⟩:=(he.2.dropD o).takeD hl
      simp only [a5v,hf']
      exact⟨r,h1,b3I hK h h2⟩
   · exact h.elim
 · rename_i k z j o
   simp only [c0]at hr
   obtain⟨rfl,_⟩:=hr
   split at h
   · rename_i z' n l ty hf
     obtain⟨e',hf',he⟩:=hs.H _ _ hf
     cases e' with
     |blk=>exact he.elim
     |row v n' xs sz ty'=>
      obtain⟨rfl,rfl,rfl,hrep,hfl,hlen⟩:=he
      split at h
      · rename_i hz
        obtain rfl:=r6 hz
        obtain⟨cs,⟨rfl,hj⟩,h⟩:=h
        split at h
        · rename_i r hr hbl
          have hbl:=Nat.le_of_ble_eq_true hbl
          have hel:c7 (okS A st) st.w (el l z' j) ((xs.drop (j*z')).take z'):=(hrep.drop _).take _
          obtain⟨h1,h2,h3⟩:=hel.part hr
          obtain⟨x,hx,hkx⟩:=a1q h
          obtain⟨s,h4,h5⟩:=b2K (R:=u9 st) h1 hx
          simp only [a5v,hf']
          have hle:=b5D hlen hj
          have hjz:(j+1)*z'≤n*z':=Nat.mul_le_mul_right z' hj
          rw [Nat.add_mul]at hjz
          refine⟨_,⟨by rw [←h1.length,h2],by omega,fun jj hjj=> ?_⟩,by rw [h4];exact H4 hK hkx h5 (b5K hx)⟩
          rw [List.getElem?_take,if_pos hjj,List.getElem?_drop,List.getElem?_take,if_pos (by omega),List.getElem?_drop]
          congr 1;omega
        · exact h.elim
      · exact h.elim
   · exact h.elim
 · rename_i l o
   simp only [c0,Rep]at hr
   obtain⟨y,rfl,b,p,xs,rfl,hok,hfl,hrep,hmem⟩:=hr
   split at h
   · rename_i r hr
     obtain⟨h1,h2,h3⟩:=hrep.part hr
     obtain⟨x,hx,hkx⟩:=a1q h
     obtain⟨s,h4,h5⟩:=b2K (R:=u9 st) h1 hx
     simp only [a5v]
     refine⟨_,⟨by rw [←h1.length,h2], .inr ⟨hok.2.2,fun jj hjj=> ?_⟩⟩,by rw [h4];exact H4 hK hkx h5 (b5K hx)⟩
     rw [show p+o+jj=p+(o+jj) from by omega,hmem (o+jj) (by omega),List.getElem?_take,if_pos hjj,List.getElem?_drop]
   · exact h.elim
 · exact h.elim
theorem b5m (hs:Sim A st sy) {i:TI} {p d:D} {s t:SV} (h:b5i sy i p d KY) (hr:c0 (okS A st) st.w (u9 st) p s) (hd:c0 (okS A st) st.w (u9 st) d t):a7T st i s t K:=by
 unfold b5i at h
 split at h
 · rename_i l hl
   obtain⟨r,hc,hrl⟩:=hd.cells hl
   split at h
   · rename_i hn hfl
     simp only [a7T,hc,←hrl.length,hn,hrl.one (b2c st) hfl]
     split at h
     · rename_i k o
       simp only [c0]at hr
       obtain⟨rfl,_⟩:=hr
       split at h
       · rename_i cs ty hf
         obtain⟨e',hf',he⟩:=hs.H _ _ hf
         cases e' with
         |row=>exact he.elim
         |blk b cs' ty'=>
          split at h
          · rename_i q hq
            obtain⟨q',h1,h2⟩:=he.2.over hrl hq
            simp only [hf',h1]
            exact hK (.upd k q) _ ⟨rfl,h2⟩ h
          · exact h.elim
       · exact h.elim
     · rename_i k o
       simp only [c0]at hr
       obtain⟨rfl,_⟩:=hr
       split at h
       · rename_i cs ty hf
         obtain⟨e',hf',he⟩:=hs.H _ _ hf
         cases e' with
         |row=>exact he.elim
         |blk b cs' ty'=>
          obtain⟨q,hq,h⟩:=h
          obtain⟨q',h1,h2⟩:=he.2.over hrl hq
          simp only [hf']
          exact⟨q',h1,hK (.upd k q) _ ⟨rfl,h2⟩ h⟩
       · exact h.elim
     · rename_i k z j o
       simp only [c0]at hr
       obtain⟨rfl,_⟩:=hr
       split at h
       · rename_i z' n q ty hf
         obtain⟨e',hf',he⟩:=hs.H _ _ hf
         cases e' with
         |blk=>exact he.elim
         |row v n' xs sz ty'=>
          obtain⟨rfl,rfl,rfl,hrep,hfq,hlen⟩:=he
          split at h
          · rename_i hz hno
            obtain rfl:=r6 hz
            obtain⟨cs,⟨rfl,hj⟩,h⟩:=h
            split at h
            · rename_i cs' ho
              obtain⟨r',rfl,h⟩:=h
              obtain⟨vals,rfl,hv⟩:=hrl.vals hno
              obtain⟨hcs,hle⟩:=a6b ho
              have hel:=b5D hlen hj
              have hjz:(j+1)*z'≤n*z':=Nat.mul_le_mul_right z' hj
              rw [Nat.add_mul]at hjz
              have hvl:=hv.length
              have hxl:=hrep.length
              have hov:over (j*z'+o) vals xs=some (xs.take (j*z'+o)++vals++xs.drop (j*z'+o+vals.length)):=c1s (by omega)
              simp only [hf']
              refine⟨_,by rw [G9];exact hov,hK (.updR k _) _ ⟨rfl, ?_, ?_,fun v n ys z ty hq=> ?_⟩ h⟩
              · have e1:a7s q z' j cs'=q.take (j*z'+o)++l++q.drop (j*z'+o+l.length):=by
                 rw [hcs]
                 simp only [a7s,el]
                 have a1:q.take (j*z'+o)=q.take (j*z')++((q.drop (j*z')).take z').take o:=by
                  rw [List.take_add,List.take_take,Nat.min_eq_left (by omega)]
                 have a2:q.drop (j*z'+o+l.length)=((q.drop (j*z')).take z').drop (o+l.length)++q.drop (j*z'+z'):=by
                  rw [List.drop_take,List.drop_drop]
                  have:q.drop (j*z'+z')=(q.drop (j*z'+(o+l.length))).drop (z'-(o+l.length)):=by rw [List.drop_drop];congr 1;omega
                  rw [this,List.take_append_drop];congr 1;omega
                 rw [a1,a2];simp [List.append_assoc]
                rw [e1,←hvl]
                exact(((hrep.take _).app hv).app (hrep.drop _))
              · refine L8 fun d hd=> ?_
                simp only [a7s,hcs,List.mem_append]at hd
                rcases hd with(hd|(hd|hd)|hd)|hd
                · exact s6 hfq (List.mem_of_mem_take hd)
                · exact s6 hfq (b5z (List.mem_of_mem_take hd))
                · exact s6 hfl hd
                · exact s6 hfq (b5z (List.mem_of_mem_drop hd))
                · exact s6 hfq (List.mem_of_mem_drop hd)
              · rw [hf']at hq;cases hq
                have hcl:=a8Y ho
                simp only [a7s,List.length_append,List.length_take,List.length_drop,hcl,hel,hlen]
                omega
            · exact h.elim
          · exact h.elim
       · exact h.elim
     · exact h.elim
   · exact h.elim
 · exact h.elim
end
end Go.Sx
namespace Go.Sx
open Go Go.RowKit
theorem b2e {i:Int} {f:Nat}:∀(l:List (Int×Nat)) (es:List MapEntry) (k:Nat),es.map (fun e=>(e.key,e.val))=l.map (fun p=>(Value.int .i64 p.1,Value.func (.func p.2) #[] #[]))→a5u l i=some f→
 ∃j,Instr.findNow (.int .i64) (.int .i64 i) es k=some (some (j, .func (.func f) #[] #[]))
 | [],_,_,_,h=>by simp [a5u]at h
 |(a,g)::l, [],_,he,_=>by simp at he
 |(a,g)::l,e::es,k,he,h=>by
  simp only [List.map_cons,List.cons.injEq,Prod.mk.injEq]at he
  obtain⟨⟨h1,h2⟩,h3⟩:=he
  have hs:Instr.sameNow (.int .i64) (.int .i64 i) e.key=some (i==a):=by rw [h1];simp [Instr.sameNow]
  simp only [a5u]at h
  simp only [Instr.findNow,hs]
  cases hb:(i==a)with
  |true=>rw [hb]at h;cases h;exact⟨k,by rw [h2]⟩
  |false=>rw [hb]at h;exact b2e l es (k+1) h3 h
section
variable {A : Nat → Prop} {ok : Nat → Prop} {w : World} {R : Bool → Nat → Prop}
theorem c0.int {k:IntKind} {a:Int} {s:SV} (h:c0 ok w R (.v (.int k a)) s):s= .v (.int k a):=by simp only [c0]at h;exact h.1
theorem c0.sc {x:Value} {s:SV} (h:c0 ok w R (.v x) s):s= .v x:=by simp only [c0]at h;exact h.1
theorem b6N {k:CK} {x y:D} {s t:SV} {e:Bool} (h:b7d k x y=some e) (h1:c0 ok w R x s) (h2:c0 ok w R y t):eqC k s t=some e:=by
 unfold b7d at h
 split at h
 · rw [h1.sc,h2.sc];exact h
 · rw [h1.sc,h2.sc];exact h
 · rw [h1.sc,h2.sc];exact h
 · cases h
theorem b8P {ks : List CK} {l m : List D} {s t : List SV} {e : Bool} (h : a4O ks l m = some e) (h1 : b8 ok w R l s) (h2 : b8 ok w R m t) : a4j ks s t = some e := by
  induction ks generalizing l m s t e with
  | nil => cases l <;> cases m <;> simp [a4O] at h
           cases s <;> cases t <;> simp [b8] at h1 h2
           simpa [a4j] using h
  | cons k ks ih =>
    cases l with
    | nil => cases m <;> simp [a4O] at h
    | cons x l => cases m with
      | nil => simp [a4O] at h
      | cons y m => cases s with
        | nil => simp [b8] at h1
        | cons s ss => cases t with
          | nil => simp [b8] at h2
          | cons t tt =>
            simp only [b8] at h1 h2
            have gen : ∀ {e}, (match b7d k x y, a4O ks l m with | some a, some b => some (a && b) | _, _ => none) = some e → (match eqC k s t, a4j ks ss tt with | some a, some b => some (a && b) | _, _ => none) = some e := by
              intro e h
              split at h
              · rename_i a b ha hb
                cases h
                rw [b6N ha h1.1 h2.1, ih hb h1.2 h2.2]
              · cases h
            cases ks with
            | nil => cases l with
              | nil => cases m with
                | nil => cases ss <;> cases tt <;> simp [b8] at h1 h2
                         simp only [a4O] at h
                         simp only [a4j]
                         exact b6N h h1 h2
                | cons => simp [a4O] at h
              | cons => cases m <;> simp [a4O] at h
            | cons k' ks' =>
              have e1 : a4O (k :: k' :: ks') (x :: l) (y :: m) = (match b7d k x y, a4O (k' :: ks') l m with | some a, some b => some (a && b) | _, _ => none) := by
                cases l <;> cases m <;> rfl
              have e2 : a4j (k :: k' :: ks') (s :: ss) (t :: tt) = (match eqC k s t, a4j (k' :: ks') ss tt with | some a, some b => some (a && b) | _, _ => none) := by
                cases ss <;> cases tt <;> rfl
              rw [e1] at h
              rw [e2]
              exact gen h
theorem b1r {b:Bool} {x:D} {s:SV} {l:List D} (h:a9G b x=some l) (h1:c0 ok w R x s):(∃r,a4t b s=some r∧b8 ok w R l r)∧((b=true∧∃cs,a2T s=some cs)∨(∃c,s= .v (.bool c))):=by
 unfold a9G at h
 split at h
 · cases h
   simp only [c0]at h1
   obtain⟨cs,h2,h3,_⟩:=h1
   refine⟨⟨cs, ?_,h3⟩, .inl ⟨rfl,cs,h2⟩⟩
   cases s<;>simp [a2T]at h2
   · rename_i y;cases y<;>simp at h2;subst h2;rfl
   · subst h2;rfl
 · cases h
   have:=h1.sc
   subst this
   exact⟨⟨_,rfl,h1,trivial⟩, .inr ⟨_,rfl⟩⟩
 · cases h
theorem b4k {x:D} {s:SV} {l:List D} (h:c0L x=some l) (h1:c0 ok w R x s):∃r,a2T s=some r∧b8 ok w R l r:=by
 unfold c0L at h
 split at h
 · cases h;simp only [c0]at h1;obtain⟨cs,h2,h3,_⟩:=h1;exact⟨cs,h2,h3⟩
 · cases h
theorem b0y {x y:D} {s:SV} {off:Nat} (h:a9O x off=some y) (h1:c0 ok w R x s):∃t,a8z s off=some t∧c0 ok w R y t∧y≠ .bad:=by
 unfold a9O at h
 split at h
 · cases h;simp only [c0]at h1;obtain⟨rfl,h1⟩:=h1;exact⟨_,rfl,by simp only [c0];exact⟨trivial,h1⟩,by simp⟩
 · cases h;simp only [c0]at h1;obtain⟨rfl,h1⟩:=h1;exact⟨_,rfl,by simp only [c0];exact⟨trivial,h1⟩,by simp⟩
 · cases h;simp only [c0]at h1;obtain⟨rfl,h1⟩:=h1;exact⟨_,rfl,by simp only [c0];exact⟨by rw [Nat.add_assoc],h1⟩,by simp⟩
 · cases h;simp only [c0,Rep]at h1
   obtain⟨y,rfl,b,p,xs,rfl,h2,h3,h4,h5⟩:=h1
   refine⟨_,rfl, ?_,by simp⟩
   simp only [c0,Rep]
   exact⟨_,rfl,b,p,xs,by rw [Nat.add_assoc],h2,h3,h4,h5⟩
 · cases h
theorem b4U {x y:D} {s:SV} {off:Nat} (h:b1o x off=some y) (h1:c0 ok w R x s):∃t,a9Q s off=some t∧c0 ok w R y t∧y≠ .bad:=by
 unfold b1o at h
 split at h
 · cases h;simp only [c0]at h1;obtain⟨rfl,h1⟩:=h1;exact⟨_,rfl,by simp only [c0];exact⟨trivial,h1⟩,by simp⟩
 · cases h;simp only [c0]at h1;obtain⟨rfl,h1⟩:=h1;exact⟨_,rfl,by simp only [c0];exact⟨trivial,h1⟩,by simp⟩
 · cases h
theorem b8.one1 {d:D} {s:List SV} (h:b8 ok w R [d] s):∃s1,s= [s1]∧c0 ok w R d s1:=by
 match s,h with
 | [s1],h=>exact⟨s1,rfl,h.1⟩
theorem b8.two {d e:D} {s:List SV} (h:b8 ok w R [d,e] s):∃s1 s2,s= [s1,s2]∧c0 ok w R d s1∧c0 ok w R e s2:=by
 match s,h with
 | [s1,s2],h=>exact⟨s1,s2,rfl,h.1,h.2.1⟩
theorem c2D {l:List D} {z n b o:Nat} {i:Int} {xs:List Value} (hlen:l.length=n*z) (hfl:u2 l=true) (hok:ok b) (hrep:c7 ok w l xs) (hcell:∀j,j<n*z→w.cell? ⟨b,o+j,none⟩=xs[j]?) (h0:0≤i) (hlt:i<n):
 Rep ok w (.ptr (el l z i.toNat) 0) (.pointer (some ⟨b,o+i.toNat*z,none⟩)):=by
 have hj:i.toNat<n:=by omega
 have hel:=b5D hlen hj
 have hjz:(i.toNat+1)*z≤n*z:=Nat.mul_le_mul_right z hj
 rw [Nat.add_mul]at hjz
 simp only [Rep]
 refine⟨b,o+i.toNat*z,(xs.drop (i.toNat*z)).take z,rfl,hok,a5X hfl fun d hd=>b5z hd,(hrep.drop _).take _,fun j hj=> ?_⟩
 rw [hel]at hj
 rw [show o+i.toNat*z+j=o+(i.toNat*z+j) from by omega,hcell _ (by omega),List.getElem?_take,if_pos hj,List.getElem?_drop]
theorem c1q {l:List D} {z n p q c':Nat} {a a':Option Addr} {m:Nat} {xs:List Value} (hlen:l.length=n*z) (hmx:(n:Int)≤9223372036854775807) (hfl:u2 l=true)
 (hmem:c'=0∨∃b o xs,a=some ⟨b,o,none⟩∧ok b∧c7 ok w l xs∧∀j,j<n*z→w.cell? ⟨b,o+j,none⟩=xs[j]?) (hpq:p≤q) (hqn:q≤n) (hnc:n≤c') (ha':a'=b9r a p c' z):
 Rep ok w (.lst z (q-p) ((l.drop (p*z)).take ((q-p)*z))) (.slice a' (q-p) (c'-p)):=by
 simp only [Rep]
 have hqz:q*z≤n*z:=Nat.mul_le_mul_right z hqn
 have hpz:p*z≤q*z:=Nat.mul_le_mul_right z hpq
 refine⟨a',c'-p,rfl,by omega,by omega,by simp [hlen,Nat.sub_mul];omega,a5X hfl fun d hd=>List.mem_of_mem_drop (List.mem_of_mem_take hd), ?_⟩
 rcases hmem with rfl|⟨b,o,xs,rfl,hok,hrep,hcell⟩
 · left
   omega
 · right
   have hq:(q-p)*z=q*z-p*z:=Nat.sub_mul ..
   by_cases hpc:c'=p
   · refine⟨b,o,(xs.drop (p*z)).take ((q-p)*z), ?_,hok,(hrep.drop _).take _,fun j hj=> ?_⟩
     · rw [ha'];unfold b9r;rw [if_pos hpc]
     · have:q=p:=by omega
       subst this;simp at hj
   · refine⟨b,o+p*z,(xs.drop (p*z)).take ((q-p)*z), ?_,hok,(hrep.drop _).take _,fun j hj=> ?_⟩
     · rw [ha'];unfold b9r;rw [if_neg hpc];simp [N4]
     · rw [show o+p*z+j=o+(p*z+j) from by omega,hcell _ (by omega),List.getElem?_take,if_pos hj,List.getElem?_drop]
theorem b8g {X:Cx} {st:St} {x y:Operand} {s t:SV} {op:BinOp} {ty yt:TypeId} {K:Out→Prop} {n:Nat} {agg:Bool} {z:List Value} {ks:List CK} {d:TD} {l m:List SV} {e:Bool} (hs:ev st x=some s) (ht:ev st y=some t)
 (n1:∀k a,s≠ .v (.int k a)) (n2:∀a,s≠ .v (.string a)) (hi:D8 X.tt ty=some ⟨n,agg,z,some ks,d⟩) (hl:a4t agg s=some l) (hm:a4t agg t=some m) (he:a4j ks l m=some e) (h:a2K op e K):ev1 X st (.binOp op ty x y yt) K:=by
 simp only [ev1,hs,ht]
 split
 · rename_i e1 _;cases e1;exact absurd rfl (n1 _ _)
 · rename_i e1 _;cases e1;exact absurd rfl (n2 _)
 · rename_i e1 e2;cases e1;cases e2;rw [hi];simp only [hl,hm,he];exact h
 · rename_i hno;exact hno _ _ rfl rfl
theorem b1P {z:Nat} {st:Sy}:∀ {ps:List (Nat×Operand)} {l l':List D},a3v z st ps l=some l'→l'.length=l.length
 | [],l,l',h=>by simp only [a3v]at h;cases h;rfl
 |(i,x)::ps,l,l',h=>by
  simp only [a3v]at h
  split at h
  · split at h
    · split at h
      · split at h
        · rename_i q hq
          rw [b1P h,a8Y hq]
        · cases h
      · cases h
    · cases h
  · cases h
theorem c0f (l:List Value):(vD l).length=l.length:=by
 induction l with
 |nil=>rfl
 |cons x l ih=>simp [vD,ih]
theorem b3S (n:Nat) (l:List D):(a9x n l).length=n*l.length:=by
 induction n with
 |zero=>simp [a9x]
 |succ n ih=>simp [a9x,ih,Nat.add_mul,Nat.add_comm]
theorem c4c (l:List Value):P5 (vD l)=true:=by
 induction l with
 |nil=>rfl
 |cons x l ih=>simp only [vD,P5,b1U];exact ih
theorem b7E {l r:List D} (h:P5 l=true) (h':P5 r=true):P5 (l++r)=true:=by
 induction l with
 |nil=>exact h'
 |cons x l ih=>
  simp only [P5]at h
  simp only [List.cons_append,P5]
  cases hx:b1U x with
  |true=>rw [hx]at h;exact ih h
  |false=>rw [hx]at h;cases h
theorem c1C (n:Nat) {l:List D} (h:P5 l=true):P5 (a9x n l)=true:=by
 induction n with
 |zero=>rfl
 |succ n ih=>exact b7E h ih
theorem a5O {l:List D} (h:P5 l=true):u2 l=true:=L8 fun d hd=>by
 have:=b5S h hd
 cases d<;>simp [b1U]at this<;>rfl
theorem b4Q {l:List D} {r:List SV} (h:b8 ok w R l r) (n:Nat):b8 ok w R (a9x n l) (a3r n r):=by
 induction n with
 |zero=>trivial
 |succ n ih=>exact h.app ih
end
section
variable {A : Nat → Prop} {X : Cy} {w0 : World} {bor : List Nat} {st : St} {sy : Sy} {KY : a4Z → Prop} {K : Out → Prop}
theorem b2a (hs:Sim A st sy) {fs:List (Nat×Nat×Nat)}:∀ {ps:List (Nat×Operand)} {l l':List D} {r:List SV},b0l fs sy ps l=some l'→b8 (okS A st) st.w (u9 st) l r→
 ∃r',b1w fs st ps r=some r'∧b8 (okS A st) st.w (u9 st) l' r'
 | [],l,l',r,h,hr=>by simp only [b0l]at h;cases h;exact⟨r,rfl,hr⟩
 |(i,x)::ps,l,l',r,h,hr=>by
  simp only [b0l]at h
  split at h
  · rename_i a off n d hn hd
    obtain⟨s,h1,h2,_⟩:=i5 hs hd
    split at h
    · rename_i cs hc
      obtain⟨cs',h3,h4⟩:=h2.cells hc
      split at h
      · rename_i hl hf
        split at h
        · rename_i q hq
          obtain⟨q',h5,h6⟩:=hr.over h4 hq
          obtain⟨r',h7,h8⟩:=b2a hs h h6
          refine⟨r', ?_,h8⟩
          simp only [b1w,hn,h1,h3,←h4.length,hl,h4.one (b2c st) hf,h5]
          exact h7
        · cases h
      · cases h
    · cases h
  · cases h
theorem a8f (hs:Sim A st sy) {z:Nat}:∀ {ps:List (Nat×Operand)} {l l':List D} {r:List SV},a3v z sy ps l=some l'→b8 (okS A st) st.w (u9 st) l r→
 ∃r',a7M z st ps r=some r'∧b8 (okS A st) st.w (u9 st) l' r'
 | [],l,l',r,h,hr=>by simp only [a3v]at h;cases h;exact⟨r,rfl,hr⟩
 |(i,x)::ps,l,l',r,h,hr=>by
  simp only [a3v]at h
  split at h
  · rename_i d hd
    obtain⟨s,h1,h2,_⟩:=i5 hs hd
    split at h
    · rename_i cs hc
      obtain⟨cs',h3,h4⟩:=h2.cells hc
      split at h
      · rename_i hl hf
        split at h
        · rename_i q hq
          obtain⟨q',h5,h6⟩:=hr.over h4 hq
          obtain⟨r',h7,h8⟩:=a8f hs h h6
          refine⟨r', ?_,h8⟩
          simp only [a7M,h1,h3,←h4.length,hl,h4.one (b2c st) hf,h5]
          exact h7
        · cases h
      · cases h
    · cases h
  · cases h
theorem b3K (hs:Sim A st sy) {len cap cap':Nat} {lo hi mx:Option Operand} {B:Nat→Nat→Nat→Prop} {B':Nat→Nat→Nat→Prop} (hc:cap≤cap') (hlc:len≤cap) (h:b5O sy len cap lo hi mx B)
 (hB:∀a b m,a≤b→b≤cap→B a b m→B' a b cap'):bnd st len cap' lo hi mx B':=by
 unfold b5O at h
 split at h
 · split at h
   · split at h
     · exact hB _ _ _ (Nat.zero_le _) hlc h
     · split at h
       · rename_i hl
         obtain⟨s,h1,h2,_⟩:=i5 hs hl
         have:=h2.sc;subst this
         simp only [bnd,h1]
         refine⟨h.1,hB _ _ _ (by omega) hlc h.2⟩
       · exact h.elim
   · split at h
     · rename_i hl
       obtain⟨s,h1,h2,_⟩:=i5 hs hl
       have:=h2.sc;subst this
       simp only [bnd,h1]
       refine⟨⟨h.1.1,by omega⟩, ?_⟩
       replace h:=h
       obtain⟨h0,h⟩:=h
       split at h
       · exact hB _ _ _ (Nat.zero_le _) (by omega) h
       · split at h
         · rename_i hl2
           obtain⟨s,h3,h4,_⟩:=i5 hs hl2
           have:=h4.sc;subst this
           simp only [h3]
           exact⟨h.1,hB _ _ _ (by omega) (by omega) h.2⟩
         · exact h.elim
     · exact h.elim
 · exact h.elim
variable (hK : ∀ oy o, a6J st.H (okS A st) st.w (u9 st) oy o → KY oy → K o)
include hK
theorem a1Q {x:Value} (h:KY (.val (.v x))) (ho:a3Z x=true):K (.val (.v x)):=H4 hK h (by simp only [c0];exact⟨trivial,ho⟩) (by simp)
theorem b4t (hs:Sim A st sy) {b:Builtin} {args:List Operand} {tys:List TypeId} (h:b0B X sy b args tys KY):N0 (cx X w0 bor) st b args tys K:=by
 unfold b0B at h
 split at h
 · split at h
   · rename_i ht he
     obtain⟨s,h1,h2⟩:=R9 hs he
     obtain⟨s1,rfl,h3⟩:=h2.one1
     have:=h3.sc;subst this
     simp only [N0,cx,ht,h1]
     exact a1Q hK h rfl
   · rename_i ht he
     obtain⟨s,h1,h2⟩:=R9 hs he
     obtain⟨s1,rfl,h3⟩:=h2.one1
     simp only [c0,Rep]at h3
     obtain⟨y,rfl,a,c,rfl,_⟩:=h3
     simp only [N0,cx,ht,h1]
     exact a1Q hK h rfl
   · rename_i ht he
     obtain⟨s,h1,h2⟩:=R9 hs he
     obtain⟨s1,rfl,h3⟩:=h2.one1
     simp only [c0]at h3
     obtain⟨rfl,_⟩:=h3
     simp only [N0,cx,ht,h1]
     exact a1Q hK h rfl
   · rename_i ht he
     obtain⟨s,h1,h2⟩:=R9 hs he
     obtain⟨s1,rfl,h3⟩:=h2.one1
     simp only [c0]at h3
     obtain⟨rfl,_⟩:=h3
     split at h
     · rename_i hf
       obtain⟨e',hf',he⟩:=hs.H _ _ hf
       cases e' with
       |blk=>exact he.elim
       |row v n' xs z' ty'=>
        obtain⟨rfl,_⟩:=he
        simp only [N0,cx,ht,h1,hf']
        exact a1Q hK h rfl
     · exact h.elim
   · rename_i ht he
     obtain⟨s,h1,h2⟩:=R9 hs he
     obtain⟨s1,rfl,h3⟩:=h2.one1
     have:=h3.sc;subst this
     simp only [N0,cx,ht,h1]
     exact a1Q hK h rfl
   · exact h.elim
 · split at h
   · rename_i he
     obtain⟨s,h1,h2⟩:=R9 hs he
     obtain⟨s1,s2,rfl,h3,h4⟩:=h2.two
     have:=h3.sc;subst this
     have:=h4.sc;subst this
     simp only [N0,h1]
     exact a1Q hK h rfl
   · exact h.elim
 · split at h
   · rename_i he
     obtain⟨s,h1,h2⟩:=R9 hs he
     obtain⟨s1,s2,rfl,h3,h4⟩:=h2.two
     have:=h3.sc;subst this
     have:=h4.sc;subst this
     simp only [N0,h1]
     exact a1Q hK h rfl
   · exact h.elim
 · split at h
   · rename_i hb ht he
     obtain⟨s,h1,h2⟩:=R9 hs he
     obtain⟨s1,s2,rfl,h3,h4⟩:=h2.two
     split at h
     · rename_i i hi
       split at h
       · rename_i hn
         simp only [N0,cx,hb,ht,h1,hi,hn]
         exact hK _ _ (by exact⟨rfl,rfl,rfl,h3,h4⟩) h
       · exact h.elim
     · exact h.elim
   · exact h.elim
 · exact h.elim
theorem b7x {fs:List (Nat×Nat×Nat)} {f:Nat} {x:D} {s:SV} (h:b5B X fs f x KY) (hr:c0 (okS A st) st.w (u9 st) x s):a7n (cx X w0 bor) fs f s K:=by
 unfold b5B at h
 split at h
 · rename_i hn ha
   obtain⟨r,h1,h2⟩:=b4k ha hr
   split at h
   · rename_i hi hq
     obtain⟨q,h3,h4⟩:=(h2.dropD _).takeD hq
     split at h
     · rename_i hb
       simp only [a7n,cx,hn,h1,hi,h3,hb]
       exact b3I hK h h4
     · exact h.elim
   · exact h.elim
 · exact h.elim
theorem b1A (hz:∀t i,D8 X.tt t=some i→(∀x,x∈i.z→a3Z x=true)∧i.z.length=i.n) (hs:Sim A st sy) {t:TypeId} {l c:Operand} (h:y1 X sy (.makeSlice t l c) KY):ev1 (cx X w0 bor) st (.makeSlice t l c) K:=by
 simp only [y1]at h
 split at h
 · rename_i n0 agg0 z0 eq0 e esz bytes k1 p k2 q hi hl hc
   obtain⟨s,h1,h2,_⟩:=i5 hs hl
   obtain⟨u,h3,h4,_⟩:=i5 hs hc
   have:=h2.sc;subst this
   have:=h4.sc;subst this
   split at h
   · rename_i i hie
     split at h
     · rename_i hn
       obtain⟨h0,l',n',⟨rfl,rfl⟩,h⟩:=h
       simp only [ev1,cx,hi,h1,h3,hie,hn]
       have hzi:=hz _ _ hie
       have hrel:b8 (okS A st) st.w (u9 st) (a9x p.toNat (vD i.z)) (a3r p.toNat (vs i.z)):=b4Q (b1k hzi.1) _
       have hno:P5 (a9x p.toNat (vD i.z))=true:=c1C _ (c4c i.z)
       obtain⟨xs,hx,h5⟩:=hrel.vals hno
       refine⟨h0,hK (.newR (a9x p.toNat (vD i.z)) e esz p.toNat) _ (by exact⟨rfl,rfl,by rw [b3S,c0f,hzi.2,r6 hn],by simp only [maxLen];omega,a5O hno,xs,hx,h5⟩) h⟩
     · exact h.elim
   · exact h.elim
 · exact h.elim
theorem b4G (hs:Sim A st sy) {x:Operand} {n:Nat} (h:y1 X sy (.extract x n) KY):ev1 (cx X w0 bor) st (.extract x n) K:=by
 simp only [y1]at h
 cases hx:evY sy x with
 |none=>rw [hx]at h;exact h.elim
 |some d=>
  rw [hx]at h
  obtain⟨s,h1,h2,_⟩:=i5 hs hx
  cases d with
  |tup l=>
   simp only at h
   simp only [c0]at h2
   cases hq:dropD n l with
   |nil=>rw [hq]at h;exact h.elim
   |cons d r=>
    rw [hq]at h
    have hne:d≠ .bad:=fun e=>by subst e;exact h.elim
    have hk:KY (.val d):=by cases d<;>first|exact h|exact absurd rfl hne
    rcases h2 with⟨cs,rfl,h2⟩|⟨a,rfl,h2⟩
    · have h3:=h2.dropD n
      rw [hq]at h3
      simp only [ev1,h1]
      cases hq2:a0r n cs with
      |nil=>rw [hq2]at h3;simp [b8]at h3
      |cons q qs=>
       rw [hq2]at h3
       have hqb:=h3.1.ne hne
       have:=H4 hK hk h3.1 hne
       cases q<;>first|exact this|exact absurd rfl hqb
    · have h3:=h2.dropD n
      rw [hq]at h3
      simp only [ev1,h1]
      cases hq2:a0r n (vs a.toList)with
      |nil=>rw [hq2]at h3;simp [b8]at h3
      |cons q qs=>rw [hq2]at h3;exact H4 hK hk h3.1 hne
  |_=>exact h.elim
theorem a9U (hz:∀t i,D8 X.tt t=some i→(∀x,x∈i.z→a3Z x=true)∧i.z.length=i.n) (hs:Sim A st sy) {t:TypeId} {n:Nat} {ps:Array (Nat×Operand)} (h:y1 X sy (.buildSlice t n ps) KY):ev1 (cx X w0 bor) st (.buildSlice t n ps) K:=by
 simp only [y1]at h
 cases hi:D8 X.tt t with
 |none=>rw [hi]at h;exact h.elim
 |some i=>
  rw [hi]at h
  obtain⟨in_,agg,iz,ieq,d⟩:=i
  cases d with
  |slice e esz bytes=>
   simp only at h
   cases hie:D8 X.tt e with
   |none=>rw [hie]at h;exact h.elim
   |some i=>
    rw [hie]at h
    simp only at h
    cases hb:Nat.ble (n*esz) 16777216 with
    |false=>rw [hb]at h;exact h.elim
    |true=>
     rw [hb]at h
     cases hn:Nat.beq i.n esz with
     |false=>rw [hn]at h;exact h.elim
     |true=>
      rw [hn]at h
      cases hl:a3v esz sy ps.toList (a9x n (vD i.z))with
      |none=>rw [hl]at h;exact h.elim
      |some l=>
       rw [hl]at h
       simp only at h
       obtain⟨r,h1,h2⟩:=a8f hs hl (b4Q (b1k (hz _ _ hie).1) _)
       simp only [ev1,cx,hi,hie,hb,hn,h1]
       have hlen:l.length=n*esz:=by rw [b1P hl,b3S,c0f,(hz _ _ hie).2,r6 hn]
       cases hno:P5 l with
       |false=>rw [hno]at h;exact hK (.new l e (some (esz,n))) _ (by exact⟨rfl,h2,rfl⟩) (by cases Nat.ble n 16777216<;>exact h)
       |true=>
        rw [hno]at h
        cases hbn:Nat.ble n 16777216 with
        |false=>rw [hbn]at h;exact hK (.new l e (some (esz,n))) _ (by exact⟨rfl,h2,rfl⟩) h
        |true=>
         rw [hbn]at h
         obtain⟨l',n',⟨rfl,rfl⟩,h⟩:=h
         obtain⟨xs,rfl,h3⟩:=h2.vals hno
         exact hK (.newR l e esz n) _ (by exact⟨rfl,rfl,hlen,(by have:=Nat.le_of_ble_eq_true hbn;simp only [maxLen];omega),a5O hno,xs,rfl,h3⟩) h
  |_=>exact h.elim
theorem b5M (hs:Sim A st sy) {t:TypeId} {x ix:Operand} {ok:Bool} (h:y1 X sy (.lookup t x ix ok) KY):ev1 (cx X w0 bor) st (.lookup t x ix ok) K:=by
 simp only [y1]at h
 split at h
 · rename_i l i hx hi
   obtain⟨hT,f,hf,hk⟩:=h
   obtain⟨s,h1,h2,_⟩:=i5 hs hx
   obtain⟨s',h3,h4,_⟩:=i5 hs hi
   have:=h4.sc;subst this
   simp only [c0,Rep]at h2
   obtain⟨y,rfl,r,es,c,rfl,hok,hb,he⟩:=h2
   obtain⟨j,hj⟩:=b2e l es.toList 0 he hf
   simp only [ev1,h1,h3]
   exact⟨hT,es,c,j,_, .inr ⟨hok.2.2,hb⟩,hj,H4 hK hk (by simp only [c0];exact .inr ⟨#[], #[],rfl,trivial,trivial⟩) (by simp)⟩
 · exact h.elim
theorem b9O (hs:Sim A st sy) {c:Call} (h:y1 X sy (.call c) KY):ev1 (cx X w0 bor) st (.call c) K:=by
 obtain⟨callee,args,tys⟩:=c
 cases callee with
 |value f=>
  simp only [y1]at h
  cases hf:evY sy f with
  |none=>rw [hf]at h;exact h.elim
  |some d=>
   rw [hf]at h
   cases d with
   |fn g l caps=>
    try simp only at h
    cases ha:a6P sy args.toList with
    |none=>rw [ha]at h;exact h.elim
    |some as=>
     rw [ha]at h
     try simp only at h
     obtain⟨s,h1,h2,_⟩:=i5 hs hf
     obtain⟨t,h3,h4⟩:=R9 hs ha
     simp only [c0]at h2
     rcases h2 with⟨p,q,rfl,h5,h6⟩|⟨p,q,rfl,h5,h6⟩
     · simp only [ev1,h1,h3]
       exact hK (.call g _) _ (by exact⟨rfl,h5.app (h4.app h6)⟩) h
     · simp only [ev1,h1,h3]
       exact hK (.call g _) _ (by exact⟨rfl,h5.app (h4.app h6)⟩) h
   |_=>exact h.elim
 |builtin b=>
  simp only [y1]at h
  simp only [ev1]
  exact b4t hK hs h
 |_=>exact h.elim
theorem b6m (hz:∀t i,D8 X.tt t=some i→(∀x,x∈i.z→a3Z x=true)∧i.z.length=i.n) (hs:Sim A st sy) {op:Op} (h:y1 X sy op KY):ev1 (cx X w0 bor) st op K:=by
 unfold y1 at h
 split at h
 · exact b2W hK hs h
 · exact b2W hK hs h
 · split at h
   · rename_i hc
     obtain⟨s,h1,h2,_⟩:=i5 hs hc
     have:=h2.sc;subst this
     simp only [ev1,h1]
     rename_i t _
     cases t
     · exact b2W hK hs h
     · exact b2W hK hs h
   · exact h.elim
 · split at h
   · rename_i i hi
     simp only [ev1,cx,hi]
     exact hK _ _ (by exact⟨rfl,b1k (hz _ _ hi).1,rfl⟩) h
   · exact h.elim
 · split at h
   · rename_i i d hi hd
     obtain⟨s,h1,h2,_⟩:=i5 hs hd
     split at h
     · rename_i l hl
       obtain⟨r,h3,h4⟩:=h2.cells hl
       split at h
       · rename_i hf
         simp only [ev1,cx,hi,h1,h3,h4.one (b2c st) hf]
         exact hK _ _ (by exact⟨rfl,h4,rfl⟩) h
       · exact h.elim
     · exact h.elim
   · exact h.elim
 · split at h
   · rename_i i d hi hd
     obtain⟨s,h1,h2,_⟩:=i5 hs hd
     simp only [ev1,h1]
     simp only [cx,hi]
     exact b8r (X:=X) (w0:=w0) (bor:=bor) hK hs h h2
   · exact h.elim
 · split at h
   · rename_i i d e hi hd he
     obtain⟨s,h1,h2,_⟩:=i5 hs hd
     obtain⟨t,h3,h4,_⟩:=i5 hs he
     simp only [ev1,cx,hi,h1,h3]
     exact b5m hK hs h h2 h4
   · exact h.elim
 · split at h
   · rename_i hd
     obtain⟨s,h1,h2,h3⟩:=i5 hs hd
     have h2':=h2
     simp only [c0]at h2;obtain⟨rfl,_⟩:=h2
     simp only [ev1,h1];exact H4 hK h h2' h3
   · rename_i hd
     obtain⟨s,h1,h2,h3⟩:=i5 hs hd
     have h2':=h2
     simp only [c0]at h2;obtain⟨rfl,_⟩:=h2
     simp only [ev1,h1];exact H4 hK h h2' h3
   · rename_i hd
     obtain⟨s,h1,h2,h3⟩:=i5 hs hd
     have h2':=h2
     simp only [c0]at h2;obtain⟨rfl,_⟩:=h2
     simp only [ev1,h1];exact H4 hK h h2' h3
   · rename_i hd
     obtain⟨s,h1,h2,h3⟩:=i5 hs hd
     have h2':=h2
     simp only [c0,Rep]at h2;obtain⟨y,rfl,b,p,xs,rfl,_⟩:=h2
     simp only [ev1,h1];exact H4 hK h h2' h3
   · exact h.elim
 · split at h
   · rename_i hi hd
     obtain⟨s,h1,h2,_⟩:=i5 hs hd
     split at h
     · rename_i hn
       obtain⟨y,h3,h4⟩:=a1q h
       obtain⟨t,h5,h6,h7⟩:=b0y h3 h2
       simp only [ev1,cx,hi,h1,hn,h5]
       exact H4 hK h4 h6 h7
     · exact h.elim
   · exact h.elim
 · split at h
   · rename_i hi hd
     obtain⟨s,h1,h2,_⟩:=i5 hs hd
     simp only [ev1,h1]
     simp only [cx,hi]
     exact b7x (X:=X) (w0:=w0) (bor:=bor) hK h h2
   · exact h.elim
 · --indexAddr
   split at h
   · rename_i hi hd hx
     obtain⟨s,h1,h2,_⟩:=i5 hs hd
     obtain⟨t,h3,h4,_⟩:=i5 hs hx
     have:=h4.sc;subst this
     split at h
     · rename_i hz
       obtain rfl:=r6 hz
       obtain⟨cs,⟨rfl,h0,hlt⟩,h⟩:=h
       simp only [c0,Rep]at h2
       obtain⟨y,rfl,a,c,rfl,hnc,hmx,hlen,hfl,hmem⟩:=h2
       simp only [ev1,cx,hi,h1,h3]
       rcases hmem with rfl|⟨b,o,xs,rfl,hok,hrep,hcell⟩
       · omega
       · refine⟨b,o,⟨rfl,h0,hlt⟩,H4 hK h ?_ (by simp)⟩
         simp only [c0]
         exact⟨_,rfl,c2D hlen hfl hok hrep hcell h0 hlt⟩
     · exact h.elim
   · rename_i hi hd hx
     obtain⟨s,h1,h2,_⟩:=i5 hs hd
     obtain⟨t,h3,h4,_⟩:=i5 hs hx
     have:=h4.sc;subst this
     simp only [c0]at h2
     obtain⟨rfl,h2⟩:=h2
     split at h
     · rename_i hz
       obtain rfl:=r6 hz
       simp only [ev1,cx,hi,h1,h3]
       exact⟨h.1,H4 hK h.2 (by simp only [c0];exact⟨trivial,h2⟩) (by simp)⟩
     · exact h.elim
   · rename_i hi hd hx
     obtain⟨s,h1,h2,_⟩:=i5 hs hd
     obtain⟨t,h3,h4,_⟩:=i5 hs hx
     have:=h4.sc;subst this
     simp only [c0]at h2
     obtain⟨rfl,h2⟩:=h2
     split at h
     · rename_i hz hf
       obtain rfl:=r6 hz
       obtain⟨e',hf',he⟩:=hs.H _ _ hf
       cases e' with
       |blk=>exact he.elim
       |row v n' xs z' ty'=>
        obtain⟨rfl,_⟩:=he
        split at h
        · rename_i hz2
          simp only [ev1,cx,hi,h1,h3,hf']
          exact⟨h.1,H4 hK h.2 (by simp only [c0];exact⟨rfl,h2⟩) (by simp)⟩
        · exact h.elim
     · exact h.elim
   · omega
   · rename_i hi hd hx
     obtain⟨s,h1,h2,_⟩:=i5 hs hd
     obtain⟨t,h3,h4,_⟩:=i5 hs hx
     have:=h4.sc;subst this
     obtain⟨h0,h⟩:=h
     obtain⟨y,h5,h6⟩:=a1q h
     simp only [ev1,cx,hi,h1,h3]
     refine⟨h0, ?_⟩
     split at h5
     · obtain⟨u,h7,h8,h9⟩:=b0y h5 h2
       rename_i hc
       simp only [hc,h7];exact H4 hK h6 h8 h9
     · obtain⟨u,h7,h8,h9⟩:=b4U h5 h2
       rename_i hc
       simp only [hc,h7];exact H4 hK h6 h8 h9
   · exact h.elim
 · --index
   split at h
   · rename_i hi hd hx
     obtain⟨s,h1,h2,_⟩:=i5 hs hd
     obtain⟨t,h3,h4,_⟩:=i5 hs hx
     have:=h4.sc;subst this
     have:=h2.sc;subst this
     obtain⟨c,h0,h⟩:=h
     simp only [ev1,cx,hi,h1,h3]
     exact⟨c,h0,a1Q hK h rfl⟩
   · rename_i hi hd hx
     obtain⟨s,h1,h2,_⟩:=i5 hs hd
     obtain⟨t,h3,h4,_⟩:=i5 hs hx
     have:=h4.sc;subst this
     split at h
     · rename_i ha hti
       obtain⟨r,h5,h6⟩:=b4k ha h2
       obtain⟨h0,h⟩:=h
       simp only [ev1,cx,hi,h1,h3,h5,hti]
       refine⟨h0, ?_⟩
       split at h
       · rename_i hb hq
         obtain⟨q,h7,h8⟩:=(h6.dropD _).takeD hq
         simp only [hb,h7]
         exact b3I hK h h8
       · exact h.elim
     · exact h.elim
   · exact h.elim
 · --binOp
   split at h
   · rename_i hx hy
     obtain⟨s,h1,h2,_⟩:=i5 hs hx
     obtain⟨t,h3,h4,_⟩:=i5 hs hy
     have:=h2.sc;subst this
     have:=h4.sc;subst this
     simp only [ev1,h1,h3]
     generalize hb1:c2y _=b1 at h⊢
     generalize hb2:kEq _ _=b2 at h⊢
     cases b1<;>cases b2<;>simp only at h⊢
     · exact b5v (fun o ho=>a1v hK ho) h
     · exact b2p (fun o ho=>a1v hK ho) h
     · exact b2p (fun o ho=>a1v hK ho) h
   · rename_i hx hy
     obtain⟨s,h1,h2,_⟩:=i5 hs hx
     obtain⟨t,h3,h4,_⟩:=i5 hs hy
     have:=h2.sc;subst this
     have:=h4.sc;subst this
     simp only [ev1,h1,h3]
     exact b5g (fun o ho=>a1v hK ho) h
   · rename_i hx hy
     obtain⟨s,h1,h2,_⟩:=i5 hs hx
     obtain⟨t,h3,h4,_⟩:=i5 hs hy
     split at h
     · rename_i hi
       split at h
       · rename_i hl hm
         obtain⟨⟨l',h5,h6⟩,h7⟩:=b1r hl h2
         obtain⟨⟨m',h8,h9⟩,h10⟩:=b1r hm h4
         split at h
         · rename_i e he
           have he':=b8P he h6 h9
           have nots:(∀k a,s≠ .v (.int k a))∧(∀a,s≠ .v (.string a)):=by
            rcases h7 with⟨_,cs,hcs⟩|⟨c,rfl⟩
            · exact⟨fun k a e=>by subst e;simp [a2T]at hcs,fun a e=>by subst e;simp [a2T]at hcs⟩
            · exact⟨fun k a e=>(by cases e),fun a e=>(by cases e)⟩
           exact b8g h1 h3 nots.1 nots.2 hi h5 h8 he' (a5o (fun o ho=>a1v hK ho) h)
         · exact h.elim
       · exact h.elim
     · rename_i hi
       split at h
       · simp only [c0,Rep]at h2
         obtain⟨y,rfl,a,c,rfl,hnc,hmx,hlen,hfl,hmem⟩:=h2
         have:=h4.sc;subst this
         simp only [ev1,cx,h1,h3,hi]
         refine a5o (fun o ho=>a1v hK ho) (h a.isNone fun hb=> ?_)
         rcases hmem with rfl|⟨b,o,xs,rfl,_⟩
         · omega
         · cases hb
       · have:=h2.sc;subst this
         have:=h4.sc;subst this
         simp only [ev1,cx,h1,h3,hi]
         exact a5o (fun o ho=>a1v hK ho) h
       · exact h.elim
     · exact h.elim
   · exact h.elim
 · split at h
   · rename_i hx
     obtain⟨s,h1,h2,_⟩:=i5 hs hx
     have:=h2.sc;subst this
     simp only [ev1,h1];exact a1Q hK h rfl
   · rename_i hx
     obtain⟨s,h1,h2,_⟩:=i5 hs hx
     have:=h2.sc;subst this
     simp only [ev1,h1];exact a1Q hK h rfl
   · exact h.elim
 · split at h
   · rename_i h1 h2 hx
     obtain⟨s,g1,g2,_⟩:=i5 hs hx
     have:=g2.sc;subst this
     simp only [ev1,cx,h1,h2,g1];exact a1Q hK h rfl
   · exact h.elim
 · exact b4G hK hs (by simpa only [y1]using h)
 · split at h
   · rename_i hl hc
     obtain⟨l',h1,h2⟩:=R9 hs hl
     obtain⟨c',h3,h4⟩:=R9 hs hc
     simp only [ev1,h1,h3]
     exact H4 hK h (by simp only [c0];exact .inl ⟨_,_,rfl,h2,h4⟩) (by simp)
   · exact h.elim
 · split at h
   · rename_i hi
     split at h
     · rename_i l hl
       have hzz:=(hz _ _ hi).1
       obtain⟨r,h1,h2⟩:=b2a hs hl (b1k hzz)
       split at h
       · rename_i hf
         simp only [ev1,cx,hi,h1]
         exact H4 hK h (by simp only [c0];exact⟨r,rfl,h2,hf⟩) (by simp)
       · exact h.elim
     · exact h.elim
   · rename_i hi
     split at h
     · rename_i l hl
       have hzz:=(hz _ _ hi).1
       obtain⟨r,h1,h2⟩:=a8f hs hl (b1k hzz)
       split at h
       · rename_i hf
         simp only [ev1,cx,hi,h1]
         exact H4 hK h (by simp only [c0];exact⟨r,rfl,h2,hf⟩) (by simp)
       · exact h.elim
     · exact h.elim
   · exact h.elim
 · exact a9U hK hz hs (by simpa only [y1]using h)
 · exact b1A hK hz hs (by simpa only [y1]using h)
 · split at h
   · rename_i hi hd
     obtain⟨s,h1,h2,_⟩:=i5 hs hd
     split at h
     · rename_i hzz
       obtain rfl:=r6 hzz
       simp only [c0,Rep]at h2
       obtain⟨y,rfl,a,c,rfl,hnc,hmx,hlen,hfl,hmem⟩:=h2
       simp only [ev1,cx,hi,h1]
       refine b3K hs hnc (Nat.le_refl _) h fun p q m hpq hqn hk a' ha'=> ?_
       obtain⟨r,rfl,hk⟩:=hk
       refine H4 hK hk ?_ (by simp)
       simp only [c0]
       exact⟨_,rfl,c1q (xs:= []) (m:=0) hlen hmx hfl hmem hpq hqn hnc ha'⟩
     · exact h.elim
   · rename_i mx _ _ _ _ _ _ _ esz _ k z hi hd
     obtain⟨s,h1,h2,_⟩:=i5 hs hd
     simp only [c0]at h2
     obtain⟨rfl,hkey⟩:=h2
     split at h
     · rename_i hzz hf
       obtain rfl:=r6 hzz
       obtain⟨h0,h⟩:=h
       have hmx:mx=none:=by
        cases mx with
        |none=>rfl
        |some m=>simp [b5O]at h
       subst hmx
       obtain⟨e',hf',he⟩:=hs.H _ _ hf
       cases e' with
       |blk=>exact he.elim
       |row v n' xs z' ty'=>
        obtain⟨rfl,rfl,rfl,_⟩:=he
        simp only [ev1,cx,hi,h1,hf']
        refine⟨h0,fun c hnc=>b3K hs hnc (Nat.le_refl _) h fun p q m hpq hqn hk=> ?_⟩
        refine H4 hK (hk (if c=p then 0 else p*z) ⟨?_,fun hp=>by subst hp;simp⟩) ?_ (by simp)
        · by_cases hc:c=p
          · left;omega
          · right;rw [if_neg hc]
        · simp only [c0];exact⟨trivial,hkey.1,by simp⟩
     · exact h.elim
   · rename_i hi hd
     obtain⟨s,h1,h2,_⟩:=i5 hs hd
     have:=h2.sc;subst this
     simp only [ev1,cx,hi,h1]
     rename_i mx _ _ _ _ _ _ _ _
     have hmx:mx=none:=by
      cases mx with
      |none=>rfl
      |some m=>simp [b5O]at h
     subst hmx
     exact b3K hs (Nat.le_refl _) (Nat.le_refl _) h fun p q m _ _ hk=>a1Q hK hk rfl
   · exact h.elim
 · exact b5M hK hs (by simpa only [y1]using h)
 · exact b9O hK hs (by simpa only [y1]using h)
 · exact h.elim
end
end Go.Sx
namespace Go.Sx
open Go Go.RowKit
mutual
def a1U (k:Nat):D→Bool
 | .own j _=>Nat.beq j k
 | .ownx j _=>Nat.beq j k
 | .row j _=>Nat.beq j k
 | .elr j _ _ _=>Nat.beq j k
 | .osl j _ _ _ _=>Nat.beq j k
 | .agg l=>a5y k l
 | .tup l=>a5y k l
 | .fn _ f c=>match a5y k f with|true=>true|false=>a5y k c
 |_=>false
def a5y (k:Nat):List D→Bool
 | []=>false
 |s::l=>match a1U k s with|true=>true|false=>a5y k l
end
def a7D (k:Nat) (s:D):D:=match a1U k s with|true=> .bad|false=>s
def b6p (k:Nat):List D→List D
 | []=> []
 |s::l=>a7D k s::b6p k l
def b2T (k:Nat):E→E
 | .blk cs ty=> .blk (b6p k cs) ty
 |e=>e
def a3B (k:Nat):Hy→Hy
 | []=> []
 |(j,e)::H=>(j,b2T k e)::a3B k H
def a6V (k:Nat) (T:List (Nat×D)) (K:List (Nat×D)→Prop):Prop:=match T with
 | []=>K []
 |(d,s)::T=>match a1U k s with
  |true=>a6V k T fun T'=>K ((d, .bad)::T')
  |false=>a6V k T fun T'=>K ((d,s)::T')
def b3s:Hy→Nat→E→(Hy→Prop)→Prop
 | [],_,_,_=>False
 |(k',e')::H,k,e,K=>match Nat.beq k' k with
  |true=>K ((k',e)::H)
  |false=>b3s H k e fun H'=>K ((k',e')::H')
mutual
def fzO (k:Nat) (e:E):D→Option D
 | .own j o=>match Nat.beq j k with
  |false=>some (.own j o)
  |true=>match e with| .blk cs _=>some (.ptr cs o)|_=>none
 | .ownx j o=>match Nat.beq j k with|false=>some (.ownx j o)|true=>none
 | .row j z=>match Nat.beq j k with
  |false=>some (.row j z)
  |true=>match e with| .row z' n l _=>some (.lst z' n l)|_=>none
 | .elr j z i o=>match Nat.beq j k with|false=>some (.elr j z i o)|true=>none
 | .osl j o z n c=>match Nat.beq j k with
  |false=>some (.osl j o z n c)
  |true=>match e with
   | .blk cs _=>match takeD (n*z) (dropD o cs),Nat.ble n c,Nat.ble n 9223372036854775807 with|some l,true,true=>some (.lst z n l)|_,_,_=>none
   |_=>none
 | .agg l=>match fzL k e l with|some l'=>some (.agg l')|none=>none
 | .tup l=>match fzL k e l with|some l'=>some (.tup l')|none=>none
 | .fn f a b=>match fzL k e a,fzL k e b with|some a',some b'=>some (.fn f a' b')|_,_=>none
 | .v x=>some (.v x)
 | .lst z n l=>some (.lst z n l)
 | .ptr l o=>some (.ptr l o)
 | .mp l=>some (.mp l)
 | .und=>some .und
 | .bad=>none
def fzL (k:Nat) (e:E):List D→Option (List D)
 | []=>some []
 |x::l=>match fzO k e x,fzL k e l with|some y,some r=>some (y::r)|_,_=>none
end
def fzG (k:Nat) (e:E) (x:D):D:=match fzO k e x with|some y=>y|none=> .bad
def fzT (k:Nat) (e:E):List (Nat×D)→List (Nat×D)
 | []=> []
 |(d,x)::T=>(d,fzG k e x)::fzT k e T
def fzC (k:Nat) (e:E):List D→List D
 | []=> []
 |x::l=>fzG k e x::fzC k e l
def fzE (k:Nat) (e:E):E→E
 | .blk cs ty=> .blk (fzC k e cs) ty
 |x=>x
def fzH (k:Nat) (e:E):Hy→Hy
 | []=> []
 |(j,x)::H=>match Nat.beq j k with
  |true=>fzH k e H
  |false=>(j,fzE k e x)::fzH k e H
mutual
def U3:D→Bool
 | .v _=>true
 | .lst _ _ _=>true
 | .ptr _ _=>true
 | .mp _=>true
 | .agg l=>match M7 l with|true=>u2 l|false=>false
 | .tup l=>M7 l
 | .fn _ a b=>match M7 a with|true=>M7 b|false=>false
 |_=>false
def M7:List D→Bool
 | []=>true
 |x::l=>match U3 x with|true=>M7 l|false=>false
end
def okE:E→Bool
 | .blk cs _=>match M7 cs with|true=>u2 cs|false=>false
 | .row _ _ _ _=>true
def b9H (k:Nat) (e:E):List (Nat×D)→Option (List (Nat×D))
 | []=>some []
 |(d,x)::T=>match fzO k e x with
  |some y=>match b9H k e T with
   |some T'=>some ((d,y)::T')
   |none=>none
  |none=>match b9H k e T with
   |some T'=>some ((d, .bad)::T')
   |none=>none
def b9h (k:Nat) (e:E):List D→Option (List D)
 | []=>some []
 |x::l=>match fzO k e x with
  |some y=>match b9h k e l with
   |some l'=>some (y::l')
   |none=>none
  |none=>match b9h k e l with
   |some l'=>some (.bad::l')
   |none=>none
def b8h (k:Nat) (e:E):Hy→Option Hy
 | []=>some []
 |(j,x)::H=>match Nat.beq j k with
  |true=>b8h k e H
  |false=>match x with
   | .blk cs ty=>match b9h k e cs with
    |some cs'=>match b8h k e H with
     |some H'=>some ((j, .blk cs' ty)::H')
     |none=>none
    |none=>none
   | .row t c n m=>match b8h k e H with
    |some H'=>some ((j, .row t c n m)::H')
    |none=>none
theorem b6s (k:Nat) (e:E):∀T,b9H k e T=some (fzT k e T)
 | []=>rfl
 |(d,x)::T=>by
  simp only [b9H,b6s k e T,fzT,fzG]
  cases fzO k e x<;>rfl
theorem b6r (k:Nat) (e:E):∀l,b9h k e l=some (fzC k e l)
 | []=>rfl
 |x::l=>by
  simp only [b9h,b6r k e l,fzC,fzG]
  cases fzO k e x<;>rfl
theorem b6J (k:Nat) (e:E):∀H,b8h k e H=some (fzH k e H)
 | []=>rfl
 |(j,x)::H=>by
  simp only [b8h,b6J k e H,fzH]
  cases Nat.beq j k with
  |true=>rfl
  |false=>cases x<;>simp only [b6r,fzE]
def a3U:List Nat→Sy→List D→Option (Sy×List D)
 | [],st,l=>some (st,l)
 |k::ks,⟨T,H,nk⟩,l=>match i6 H k with
  |some e=>match okE e,fzL k e l with
   |true,some l'=>match b9H k e T with
    |some T'=>match b8h k e H with
     |some H'=>a3U ks ⟨T',H',nk⟩ l'
     |none=>none
    |none=>none
   |_,_=>none
  |none=>none
mutual
def c3f:Nat→Hy→List Nat→D→List Nat
 |0,_,acc,_=>acc
 |n+1,H,acc, .own j _=>b0U n H acc j
 |n+1,H,acc, .ownx j _=>b0U n H acc j
 |n+1,H,acc, .row j _=>b0U n H acc j
 |n+1,H,acc, .elr j _ _ _=>b0U n H acc j
 |n+1,H,acc, .osl j _ _ _ _=>b0U n H acc j
 |n+1,H,acc, .agg l=>a4H n H acc l
 |n+1,H,acc, .tup l=>a4H n H acc l
 |n+1,H,acc, .fn _ a b=>match a4H n H acc a with
  | []=>a4H n H [] b
  |y::r=>a4H n H (y::r) b
 |_,_,acc,_=>acc
def b0U:Nat→Hy→List Nat→Nat→List Nat
 |0,_,acc,_=>acc
 |n+1,H,acc,j=>match J8 j acc with
  |true=>acc
  |false=>match i6 H j with
   |some (.blk cs _)=>match a4H n H acc cs with
    | []=> [j]
    |y::r=>j::y::r
   |_=>j::acc
def a4H:Nat→Hy→List Nat→List D→List Nat
 |0,_,acc,_=>acc
 |_+1,_,acc, []=>acc
 |n+1,H,acc,x::l=>match c3f n H acc x with
  | []=>a4H n H [] l
  |y::r=>a4H n H (y::r) l
end
def c3T:List Nat→List Nat→List Nat
 | [],acc=>acc
 |x::l,acc=>c3T l (x::acc)
def b6u (H:Hy) (l:List D):List Nat:=c3T (a4H 40 H [] l) []
mutual
def a3w:D→Bool
 | .v _=>true
 | .agg l=>b4c l
 | .tup l=>b4c l
 |_=>false
def b4c:List D→Bool
 | []=>true
 |x::l=>match a3w x with|true=>b4c l|false=>false
end
def d0 (P:Program) (f:FuncId) (args:List D) (Q:D→Prop):Prop:=
 ∀(ok:Nat→Prop) (w:World) (vs:List Value),c7 ok w args vs→(∀b,ok b→b<w.heap.size)→
  Calls P f vs.toArray w fun e w'=>∃v r,e= .returned v∧Q r∧Rep (fun b=>ok b∨(w.heap.size≤b∧b<w'.heap.size)) w' r v∧Below w.heap.size w w'
def O2 (X:Cy) (st:Sy) (dst:Option Nat) (s:D) (K:Sy→Prop):Prop:=
 match dst with
 |none=>K st
 |some d=>match Nat.blt d X.nt,st with
  |true,⟨T,H,nk⟩=>K ⟨(d,s)::T,H,nk⟩
  |false,_=>False
mutual
def leD:D→D→Prop
 | .v x,y=>y= .v x∨(x= .slice none 0 0∧∃z,y= .lst z 0 [])
 | .agg l,y=>∃r,y= .agg r∧a2b l r
 | .tup l,y=>∃r,y= .tup r∧a2b l r
 |x,y=>x=y
def a2b:List D→List D→Prop
 | [], []=>True
 |x::l,y::r=>leD x y∧a2b l r
 |_,_=>False
end
mutual
def a0F (n:Nat):D→D
 | .row k z=>match Nat.blt k n with|true=> .row k z|false=> .v (.slice none 0 0)
 | .agg l=> .agg (a1f n l)
 | .tup l=> .tup (a1f n l)
 | .fn f a b=> .fn f (a1f n a) (a1f n b)
 |x=>x
def a1f (n:Nat):List D→List D
 | []=> []
 |x::l=>a0F n x::a1f n l
end
mutual
def inK (n:Nat) (ks:List Nat):D→Bool
 | .own j _=>match Nat.blt j n with|true=>J8 j ks|false=>false
 | .ownx j _=>match Nat.blt j n with|true=>J8 j ks|false=>false
 | .row j _=>J8 j ks
 | .elr j _ _ _=>match Nat.blt j n with|true=>J8 j ks|false=>false
 | .osl j _ _ _ _=>match Nat.blt j n with|true=>J8 j ks|false=>false
 | .agg l=>b5l n ks l
 | .tup l=>b5l n ks l
 | .fn _ a b=>match b5l n ks a with|true=>b5l n ks b|false=>false
 | .bad=>false
 |_=>true
def b5l (n:Nat) (ks:List Nat):List D→Bool
 | []=>true
 |x::l=>match inK n ks x with|true=>b5l n ks l|false=>false
end
def c1n (n:Nat) (ks:List Nat):List (Nat×D)→Bool
 | []=>true
 |(_,x)::T=>match inK n ks x with|true=>c1n n ks T|false=>false
def b3i (n:Nat) (ks:List Nat):List D→Bool
 | []=>true
 | .bad::l=>b3i n ks l
 |x::l=>match inK n ks x,a3G x with|true,true=>b3i n ks l|_,_=>false
def b7S (n:Nat) (ks:List Nat):Hy→Bool
 | []=>true
 |(k, .blk cs _)::H=>match Nat.blt k n,b3i n ks cs with|true,true=>b7S n ks H|_,_=>false
 |(_, .row _ _ _ _)::H=>b7S n ks H
def U9:Hy→List Nat
 | []=> []
 |(k,_)::H=>k::U9 H
def ltY (n:Nat):Hy→Bool
 | []=>true
 |(k,_)::H=>match Nat.blt k n with|true=>ltY n H|false=>false
def a9R (n:Nat) (st:Sy):Bool:=match ndB (U9 st.H),ltY st.nk st.H,c1n n (U9 st.H) st.T,b7S n (U9 st.H) st.H with|true,true,true,true=>true|_,_,_,_=>false
def a8t:List D→List D→Prop
 | [], []=>True
 |_::l, .bad::r=>a8t l r
 |x::l,y::r=>leD x y∧a8t l r
 |_,_=>False
def b1q (n:Nat) (T:List (Nat×D)):List (Nat×D)→Prop
 | []=>True
 |(d,s)::r=>(∃y,n7 T d=some y∧leD y (a0F n s))∧b1q n T r
def b6A (n:Nat) (H:Hy) (k:Nat):E→Prop
 | .blk cs ty=>∃cs0,i6 H k=some (.blk cs0 ty)∧a8t cs0 (a1f n cs)
 | .row z m l ty=>match Nat.blt k n with
  |true=>∃m0 l0,i6 H k=some (.row z m0 l0 ty)∧m0=m∧l0=l
  |false=>m=0∧l= []
def b2s (n:Nat) (H:Hy):Hy→Prop
 | []=>True
 |(k,e)::r=>b6A n H k e∧b2s n H r
structure c2q (st st':Sy):Prop where
 ex:∃n,a9R n st'=true∧b1q n st.T st'.T∧b2s n st.H st'.H
structure c5 (st st':Sy):Prop where
 ex:∃ks st1,a3U ks st []=some (st1, [])∧c2q st1 st'
def Y2 (X:Cy) (st:Sy):List ResultVar→Option (List D)
 | []=>some []
 | .tmp t::r=>match a8H st.T t,Y2 X st r with
  |some .bad,_=>none
  |some s,some l=>some (s::l)
  |_,_=>none
 | .cell a t::r=>match D8 X.tt t,a8H st.T a,Y2 X st r with
  |some i,some (.own k o),some l=>match i6 st.H k with
   |some (.blk cs _)=>match takeD i.n (dropD o cs)with
    |some c=>match mkD i.agg c with
     |some s=>some (s::l)
     |none=>none
    |none=>none
   |_=>none
  |_,_,_=>none
def a0Y:Nat→List D→List (Nat×D)
 |_, []=> []
 |n,s::l=>(n,s)::a0Y (n+1) l
def Q8 {α:Type} (nt:Nat):List (Nat×α)→List (Nat×α)
 | []=> []
 |(d,x)::T=>match Nat.blt d nt with
  |true=>(Nat.add 1000000 d,x)::Q8 nt T
  |false=>match Nat.blt d 1000000 with
   |true=>Q8 nt T
   |false=>(Nat.add d nt,x)::Q8 nt T
def J1 {α:Type} (nt:Nat):List (Nat×α)→List (Nat×α)
 | []=> []
 |(d,x)::T=>match Nat.blt d 1000000 with
  |true=>J1 nt T
  |false=>match Nat.blt d (Nat.add 1000000 nt)with
   |true=>(Nat.mod d 1000000,x)::J1 nt T
   |false=>(Nat.sub d nt,x)::J1 nt T
def b7Q:List D→D
 | [x]=>x
 |l=> .tup l
def b8K (X X':Cy) (rs:List ResultVar) (dst:Option Nat) (K:Sy→Prop) (e:Exit) (st:Sy):Prop:=
 match e,st with
 | .normal,⟨T,H,nk⟩=>match Y2 X' ⟨T,H,nk⟩ rs with
  |some l=>O2 X ⟨J1 X.nt T,H,nk⟩ dst (b7Q l) K
  |none=>False
 | .ret,⟨T,H,nk⟩=>match Y2 X' ⟨T,H,nk⟩ rs with
  |some l=>O2 X ⟨J1 X.nt T,H,nk⟩ dst (b7Q l) K
  |none=>False
 |_,_=>False
def b9q (X:Cy) (c:Code) (st0:Sy) (K:Exit→Sy→Prop):Prop:=
 ∀(A:Nat→Prop) (w0:World) (bor:List Nat) (sv:List Value) (st:St) (a:Act) (w:World) (Q:Exit→Act→World→Prop),(∀b,(w0.heap.size≤b∨b∈bor)→A b)→Sim A st st0→Rel (cx { X with sv:=sv} w0 bor) st a w→
  (∀e st' sy' a' w',plain e→K e sy'→Sim A st' sy'→Lv (cx { X with sv:=sv} w0 bor) st.H w st' a' w'→Q e a' w')→c.wp X.P Q a w
structure K4 (X:Cy) (f:FuncId) (args:List D) (dst:Option Nat) (st:Sy) (K:Sy→Prop):Prop where
 ex:∃(nt:Nat) (pl:List (Nat×PT)) (ln un inl:List Nat) (fn:Func) (c:Code) (st0 st1:Sy),
  (X.P.funcs[f]?=some fn∧fn.body=some c∧nt=fn.ntmps∧Nat.ble nt 1000000=true∧Nat.ble args.length nt=true)∧
  c5 ⟨a0Y 0 args++Q8 X.nt st.T,st.H,st.nk⟩ st0∧b9q ⟨X.P,X.tt,nt,pl,ln,un, [],inl, []⟩ c st0 (b8K X ⟨X.P,X.tt,nt,pl,ln,un, [],inl, []⟩ fn.results.toList dst fun sy=>c5 sy st1)∧K st1
structure a7F (P:Program) (seq:Bool) (f:FuncId) (fa:List D) (st st':Sy) (K:Sy→D→Prop):Prop where
 ex:∃Q,d0 P f fa Q∧∀r,Q r→match a3w r,seq with
  |true,_=>K st r
  |false,true=>K st' r
  |false,false=>False
structure a3J (P:Program) (f:FuncId) (args:List D) (st:Sy) (K:Sy→D→Prop):Prop where
 ex:∃Q,d0 P f args Q∧∀r,Q r→K st r
def a7P (ok:Nat→Prop) (w:World) (z n:Nat) (l:List D) (ty:TypeId) (v:Value):Prop:=
 ∃xs,w.ownsRow 0 ty z v n xs∧c7 ok w l xs∧u2 l=true∧l.length=n*z
def a8R (P:Program) (f:FuncId) (args:List D) (z n:Nat) (l:List D) (ty:TypeId):Prop:=
 ∀(ok:Nat→Prop) (w:World) (vs:List Value),c7 ok w args vs→(∀b,ok b→b<w.heap.size)→
  Calls P f vs.toArray w fun e w'=>∃v,e= .returned v∧(∀b,b∈j5 v→w.heap.size≤b)∧a7P (fun b=>(ok b∨(w.heap.size≤b∧b<w'.heap.size))∧b∉j5 v) w' z n l ty v∧Below w.heap.size w w'
def a7N (P:Program) (f:FuncId) (z n:Nat) (l:List D) (ty:TypeId) (args:List D) (z' n':Nat) (l':List D):Prop:=
 ∀(ok:Nat→Prop) (w:World) (v:Value) (vs:List Value),a7P ok w z n l ty v→(∀b,b∈j5 v→¬ok b)→c7 ok w args vs→(∀b,ok b→b<w.heap.size)→
  Calls P f (v::vs).toArray w fun e w'=>∃v',e= .returned v'∧(∀b,b∈j5 v'→b∈j5 v∨w.heap.size≤b)∧
   a7P (fun b=>(ok b∨b∈j5 v∨(w.heap.size≤b∧b<w'.heap.size))∧b∉j5 v') w' z' n' l' ty v'∧Fx (j5 v) w w'
structure b0j (P:Program) (f:FuncId) (args:List D) (st:Sy) (K:Sy→D→Prop):Prop where
 ex:∃z n l ty,a8R P f args z n l ty∧K ⟨st.T,(st.nk, .row z n l ty)::st.H,st.nk+1⟩ (.row st.nk z)
def O3 (ok:Nat→Prop) (w:World) (rv:List Value):List D→List Value→Prop
 | [], []=>True
 | .row i _::l,y::r=>rv[i]?=some y∧O3 ok w rv l r
 |d::l,y::r=>Rep ok w d y∧O3 ok w rv l r
 |_,_=>False
def a1E (ok:Nat→Prop) (w:World):List (Nat×Nat×List D×TypeId)→List Value→Prop
 | [], []=>True
 |(z,n,l,ty)::rs,v::vs=>a7P ok w z n l ty v∧a1E ok w rs vs
 |_,_=>False
def b6Y (P:Program) (f:FuncId) (args:List D) (rows:List (Nat×Nat×List D×TypeId)) (cells:List D):Prop:=
 u2 cells=true∧∀(ok:Nat→Prop) (w:World) (vs:List Value),c7 ok w args vs→(∀b,ok b→b<w.heap.size)→
  Calls P f vs.toArray w fun e w'=>∃(a rv:List Value),e= .returned (.agg a.toArray)∧(∀b,b∈rv.flatMap j5→w.heap.size≤b∧b<w'.heap.size)∧(rv.flatMap j5).Nodup∧
   a1E (fun b=>(ok b∨(w.heap.size≤b∧b<w'.heap.size))∧b∉rv.flatMap j5) w' rows rv∧O3 (fun b=>(ok b∨(w.heap.size≤b∧b<w'.heap.size))∧b∉rv.flatMap j5) w' rv cells a∧Below w.heap.size w w'
def b4Y:Nat→List (Nat×Nat×List D×TypeId)→Hy→Hy
 |_, [],H=>H
 |k,(z,n,l,ty)::rs,H=>b4Y (k+1) rs ((k, .row z n l ty)::H)
def shC (nk:Nat):List D→List D
 | []=> []
 | .row i z::l=> .row (nk+i) z::shC nk l
 |d::l=>d::shC nk l
structure a8W (P:Program) (f:FuncId) (args:List D) (st:Sy) (K:Sy→D→Prop):Prop where
 ex:∃rows cells,b6Y P f args rows cells∧K ⟨st.T,b4Y st.nk rows st.H,st.nk+rows.length⟩ (.agg (shC st.nk cells))
structure a8Q (P:Program) (f:FuncId) (k:Nat) (e:E) (fa:List D) (st:Sy) (K:Sy→D→Prop):Prop where
 ex:∃z n l ty z' n' l',e= .row z n l ty∧a7N P f z n l ty fa z' n' l'∧b3s (a3B k st.H) k (.row z' n' l' ty) fun H'=>a6V k st.T fun T'=>K ⟨T',H',st.nk⟩ (.row k z')
def b9i (P:Program) (f:FuncId) (z n:Nat) (l:List D) (ty:TypeId) (args:List D) (n':Nat) (l':List D):Prop:=
 n'=n∧∀(ok:Nat→Prop) (w:World) (v:Value) (vs:List Value),a7P ok w z n l ty v→(∀b,b∈j5 v→¬ok b)→c7 ok w args vs→(∀b,ok b→b<w.heap.size)→
  Calls P f (v::vs).toArray w fun e w'=>e= .returned (.tuple #[])∧a7P (fun b=>ok b∧b∉j5 v) w' z n l' ty v∧Fx (j5 v) w w'
structure b6K (P:Program) (f:FuncId) (k:Nat) (e:E) (fa:List D) (st:Sy) (K:Sy→D→Prop):Prop where
 ex:∃z n l ty n' l',e= .row z n l ty∧b9i P f z n l ty fa n' l'∧b3s st.H k (.row z n' l' ty) fun H'=>K ⟨st.T,H',st.nk⟩ (.tup [])
def a9j (X:Cy) (seq:Bool) (f:FuncId) (args:List D) (st:Sy) (K:Sy→D→Prop):Prop:=
 match J8 f X.ln,J8 f X.un with
 |true,_=>match seq,args with
  |true,x::rest=>match a3U (b6u st.H rest) st (x::rest)with
   |some (st', .row k _::fa)=>match M7 fa,i6 st'.H k with
    |true,some e=>a8Q X.P f k e fa st' K∨b6K X.P f k e fa st' K
    |_,_=>False
   |_=>False
  |_,_=>False
 |false,true=>match seq,M7 args with
  |true,true=>b0j X.P f args st K∨a8W X.P f args st K
  |_,_=>False
 |false,false=>match M7 args with
  |true=>a3J X.P f args st K
  |false=>match a3U (b6u st.H args) st args with
   |some (st',fa)=>match M7 fa with
    |true=>a7F X.P seq f fa st st' K
    |false=>False
   |none=>False
def c0z (st:Sy) (esz:Nat) (x:D) (K:Nat→List D→Prop):Prop:=
 match x with
 | .osl k o z n _=>match Nat.beq z esz,i6 st.H k with
  |true,some (.blk cs _)=>match takeD (n*z) (dropD o cs)with
   |some l=>match P5 l with|true=>K n l|false=>False
   |none=>False
  |true,some (.row z' N r _)=>match Nat.beq z' z with
   |true=>(n=0∨o+n*z≤N*z)∧K n ((r.drop o).take (n*z))
   |false=>False
  |_,_=>False
 | .row k _=>match i6 st.H k with
  |some (.row z n l _)=>match Nat.beq z esz with|true=>K n l|false=>False
  |_=>False
 | .v (.slice none 0 0)=>K 0 []
 | .lst z n l=>match Nat.beq z esz with|true=>K n l|false=>False
 |_=>False
def c2j (e esz bytes:Nat) (s x:D) (st:Sy) (K:Sy→D→Prop):Prop:=
 match Nat.ble 1 esz with
 |false=>False
 |true=>c0z st esz x fun m l=>match s,st with
  | .v (.slice none 0 0),⟨T,H,nk⟩=>(m*bytes≤140737488355328∧m≤9223372036854775807)∧∃r' n',(l=r'∧m=n')∧K ⟨T,(nk, .row esz n' r' e)::H,nk+1⟩ (.row nk esz)
  | .row k _,⟨T,H,nk⟩=>match i6 H k with
   |some (.row z n r ty)=>match Nat.beq z esz,Nat.beq ty e with
    |true,true=>((n+m)*bytes≤140737488355328∧n+m≤9223372036854775807)∧∃r' n',(r++l=r'∧n+m=n')∧b3s (a3B k H) k (.row esz n' r' e) fun H'=>a6V k T fun T'=>K ⟨T',H',nk⟩ (.row k esz)
    |_,_=>False
   |_=>False
  | .osl k o z0 n c,⟨T,H,nk⟩=>match Nat.beq o 0,Nat.beq c 0,Nat.beq z0 esz,i6 H k with
   |true,true,true,some (.row z N r ty)=>match Nat.beq z esz,Nat.beq ty e with
    |true,true=>(0<N∧n≤N∧(n+m)*bytes≤140737488355328∧n+m≤9223372036854775807)∧∃r' n',(r.take (n*z)++l=r'∧n+m=n')∧b3s (a3B k H) k (.row esz n' r' e) fun H'=>a6V k T fun T'=>K ⟨T',H',nk⟩ (.row k esz)
    |_,_=>False
   |_,_,_,_=>False
  |_,_=>False
def a4X (X:Cy) (seq:Bool) (st:Sy) (dst:Option Nat) (K:Sy→Prop) (o:a4Z):Prop:=
 match o with
 | .val s=>O2 X st dst s K
 | .new cs ty sl=>match st with
  |⟨T,H,nk⟩=>O2 X ⟨T,(nk, .blk cs ty)::H,nk+1⟩ dst (match sl with|none=> .own nk 0|some (z,n)=> .osl nk 0 z n n) K
 | .newR l ty z n=>match st with
  |⟨T,H,nk⟩=>O2 X ⟨T,(nk, .row z n l ty)::H,nk+1⟩ dst (.row nk z) K
 | .call f args=>match J8 f X.inl with
  |true=>match seq with
   |true=>K4 X f args dst st K
   |false=>False
  |false=>a9j X seq f args st fun st' s=>O2 X st' dst s K
 | .upd k cs=>match st,i6 st.H k with
  |⟨T,H,nk⟩,some (.blk _ ty)=>b3s H k (.blk cs ty) fun H'=>O2 X ⟨T,H',nk⟩ dst .und K
  |_,_=>False
 | .updR k l=>match st,i6 st.H k with
  |⟨T,H,nk⟩,some (.row z n _ ty)=>b3s H k (.row z n l ty) fun H'=>O2 X ⟨T,H',nk⟩ dst .und K
  |_,_=>False
 | .app e esz bytes s x=>c2j e esz bytes s x st fun st' s=>O2 X st' dst s K
def a1p (ops:List Oper) (g:Option (Nat×Bool)) (st:Sy) (yes no:Sy→Prop):Prop:=
 match g with
 |none=>yes st
 |some (j,want)=>match b1x ops j with
  |some d=>match a8H st.T d with
   |some (.v (.bool b))=>match st with
    |⟨T,H,nk⟩=>VIf b
     (match want with|true=>yes ⟨(d, .v (.bool true))::T,H,nk⟩|false=>no ⟨(d, .v (.bool true))::T,H,nk⟩)
     (match want with|true=>no ⟨(d, .v (.bool false))::T,H,nk⟩|false=>yes ⟨(d, .v (.bool false))::T,H,nk⟩)
   |some .und=>no st
   |_=>False
  |none=>False
def b2X (X:Cy) (ops:List Oper):List Oper→Sy→(Sy→Prop)→Prop
 | [],st,K=>K st
 |o::rest,st,K=>a1p ops o.guard st
  (fun st=>y1 X st o.op (a4X X true st o.dst fun st=>b2X X ops rest st K))
  (fun st=>O2 X st o.dst .und fun st=>b2X X ops rest st K)
def c3L:D→Option Nat
 | .own k _=>some k
 | .ownx k _=>some k
 | .elr k _ _ _=>some k
 |_=>none
def b0x:a4Z→Option Nat
 | .upd k _=>some k
 | .updR k _=>some k
 | .app _ _ _ (.row k _) _=>some k
 | .app _ _ _ (.osl k _ _ _ _) _=>some k
 |_=>none
def rdY (fl:Bool) (i:Nat) (op:Op) (st:Sy) (pr:List (Nat×Option Nat)) (K:List (Nat×Option Nat)→Prop):Prop:=
 match op with
 | .load _ p=>match evY st p with
  |some s=>match c3L s with
   |some k=>K ((i,some k)::pr)
   |none=>match s with
    | .ptr _ _=>K ((i,none)::pr)
    |_=>False
  |none=>False
 | .lookup _ _ _ _=>False
 |_=>K pr
def b4v (X:Cy) (i:Nat) (S:List Nat) (fl:Bool) (pr:List (Nat×Option Nat)) (o:Oper) (st:Sy) (K:Sy→List (Nat×Option Nat)→Prop) (out:a4Z):Prop:=
 match a5s o with
 |true=>(match out with| .val s=>rdY fl i o.op st pr fun pr=>O2 X st o.dst s fun st=>K st pr|_=>False)
 |false=>match A5 o with
  |true=>(match out with| .new _ _ none=>a4X X false st o.dst (fun st=>K st pr) out| .newR _ _ _ _=>a4X X false st o.dst (fun st=>K st pr) out|_=>False)
  |false=>match a0d o with
   |true=>(match out with| .call _ _=>a4X X false st o.dst (fun st=>K st pr) out|_=>False)
   |false=>(match out with
    | .call _ _=>False
    |out=>match b0x out with
     |some k=>match b4F pr S k with|true=>a4X X false st o.dst (fun st=>K st pr) out|false=>False
     |none=>a4X X false st o.dst (fun st=>K st pr) out)
def b4y (X:Cy) (S:List Nat) (st:Sy) (dst:Option Nat) (K:Sy→Prop) (o:a4Z):Prop:=
 match S with
 | []=>a4X X true st dst K o
 |_::_=>match o with
  | .call f args=>match J8 f X.inl,J8 f X.ln with
   |false,false=>a9j X true f args st fun st' s=>O2 X st' dst s K
   |_,_=>False
  |_=>False
def b1O (X:Cy) (ops:List Oper) (rest:PT) (i:Nat) (S:List Nat) (fl:Bool) (pr:List (Nat×Option Nat)) (o:Oper) (st:Sy) (K:Sy→List (Nat×Option Nat)→Prop):Prop:=
 match a0d o,fl with
 |true,true=>y1 X st o.op (b4y X S st o.dst fun st=>match st with|⟨T,H,nk⟩=>K ⟨a1a .bad ops (b3o rest) T,H,nk⟩ pr)
 |_,_=>y1 X st o.op (b4v X i S fl pr o st K)
def a4U (X:Cy) (ops:List Oper):PT→Sy→List (Nat×Option Nat)→(Sy→Prop)→Prop
 | .nil,st,_,K=>K st
 | .op i S fl rest,st,pr,K=>match b1F ops i with
  |some o=>a1p ops o.guard st
   (fun st=>b1O X ops rest i S fl pr o st fun st pr=>a4U X ops rest st pr K)
   (fun st=>O2 X st o.dst .und fun st=>a4U X ops rest st pr K)
  |none=>False
 | .fork a b,st,pr,K=>a4U X ops a st pr K∧a4U X ops b st pr K
def a5k:List Oper→List (Nat×D)→List (Nat×D)
 | [],T=>T
 |o::l,T=>match A5 o,o.dst with
  |true,some d=>(d, .bad)::a5k l T
  |_,_=>a5k l T
structure q9 (body:Sy→(Exit→Sy→Prop)→Prop) (st:Sy) (K:Exit→Sy→Prop):Prop where
 ex:∃(α:Type) (f:α→Sy) (inv:α→Prop) (μ:α→Nat),
  (∃x,c5 st (f x)∧inv x)∧
  ∀x,inv x→body (f x) fun e st2=>match e with
   | .normal=>∃y,c5 st2 (f y)∧inv y∧μ y<μ x
   |e=>K e st2
def L5 (X:Cy):Code→Sy→(Exit→Sy→Prop)→Prop
 | .skip,st,K=>K .normal st
 | .region id ops draw,st,K=>match draw with
  |false=>b2X X ops.toList ops.toList st (K .normal)
  |true=>match b5T X.pl id with
   |some p=>a5x X.tt X.nt ops p=true∧(match st with|⟨T,H,nk⟩=>a4U X ops.toList p ⟨a5k ops.toList T,H,nk⟩ [] (K .normal))
   |none=>False
 | .seq a b,st,K=>L5 X a st fun e st'=>match e with
  | .normal=>L5 X b st' K
  |e=>K e st'
 | .cond c t e,st,K=>match evY st c with
  |some (.v (.bool b))=>VIf b (L5 X t st K) (L5 X e st K)
  |_=>False
 | .block id c,st,K=>L5 X c st fun e st'=>match e with
  | .exit j=>match Nat.beq j id with
   |true=>K .normal st'
   |false=>K (.exit j) st'
  |e=>K e st'
 | .loop c,st,K=>q9 (L5 X c) st K
 | .exit id,st,K=>K (.exit id) st
 | .ret,st,K=>K .ret st
 | .scope c,st,K=>L5 X c st K
 | .label _,st,K=>K .normal st
 |_,_,_=>False
structure d8 (r:D) (Q:D→Prop):Prop where
 ex:∃r',leD r r'∧Q r'
def a1L (st:Sy) (r:D) (Q:D→Prop):Prop:=
 match U3 r with
 |true=>d8 r Q
 |false=>match a3U (b6u st.H [r]) st [r]with
  |some (_, [r'])=>match U3 r' with
   |true=>d8 r' Q
   |false=>False
  |_=>False
def b8i (X:Cy) (rs:List ResultVar) (Q:D→Prop) (e:Exit) (st:Sy):Prop:=
 match e with
 | .normal=>match Y2 X st rs with
  |some [s]=>a1L st s Q
  |some l=>a1L st (.tup l) Q
  |none=>False
 | .ret=>match Y2 X st rs with
  |some [s]=>a1L st s Q
  |some l=>a1L st (.tup l) Q
  |none=>False
 |_=>False
end Go.Sx
namespace Go.Sx
open Go Go.RowKit
mutual
theorem c0.mentE {ok:Nat→Prop} {w:World} {R:Bool→Nat→Prop} (k:Nat):∀(d:D) (s:SV),c0 ok w R d s→ment k s=a1U k d
 | .v x,s,h=>by simp only [c0]at h;rw [h.1];rfl
 | .agg l,s,h=>by
  simp only [c0]at h
  obtain⟨cs,h1,h2,_⟩:=h
  have:=b8.mentE k l _ h2
  cases s<;>simp [a2T]at h1
  · rename_i x;cases x<;>simp at h1
    subst h1;rw [a9C]at this;simp only [a1U,←this];rfl
  · subst h1;simpa [ment,a1U]using this
 | .lst z n l,s,h=>by simp only [c0]at h;obtain⟨y,rfl,_⟩:=h;rfl
 | .ptr l o,s,h=>by simp only [c0]at h;obtain⟨y,rfl,_⟩:=h;rfl
 | .own j o,s,h=>by simp only [c0]at h;rw [h.1];rfl
 | .ownx j o,s,h=>by simp only [c0]at h;rw [h.1];rfl
 | .row j z,s,h=>by simp only [c0]at h;rw [h.1];rfl
 | .elr j z i o,s,h=>by simp only [c0]at h;rw [h.1];rfl
 | .osl j o z n c,s,h=>by simp only [c0]at h;rw [h.1];rfl
 | .tup l,s,h=>by
  simp only [c0]at h
  rcases h with⟨cs,rfl,h2⟩|⟨a,rfl,h2⟩
  · have:=b8.mentE k l _ h2;simpa [ment,a1U]using this
  · have:=b8.mentE k l _ h2;rw [a9C]at this;simp only [a1U,←this];rfl
 | .fn f a b,s,h=>by
  simp only [c0]at h
  rcases h with⟨p,q,rfl,h2,h3⟩|⟨p,q,rfl,h2,h3⟩
  · have e1:=b8.mentE k a _ h2;have e2:=b8.mentE k b _ h3
    simp only [ment,a1U,e1,e2];cases a5y k a<;>rfl
  · have e1:=b8.mentE k a _ h2;have e2:=b8.mentE k b _ h3
    rw [a9C]at e1 e2
    simp only [a1U,←e1,←e2];rfl
 | .mp l,s,h=>by simp only [c0]at h;obtain⟨y,rfl,_⟩:=h;rfl
 | .und,s,h=>by simp only [c0]at h;rw [h];rfl
 | .bad,s,h=>by simp only [c0]at h;rw [h];rfl
theorem b8.mentE {ok:Nat→Prop} {w:World} {R:Bool→Nat→Prop} (k:Nat):∀(l:List D) (r:List SV),b8 ok w R l r→H5 k r=a5y k l
 | [], [],_=>rfl
 |d::l,y::r,h=>by
  simp only [b8]at h;simp only [H5,a5y,c0.mentE k d y h.1,b8.mentE k l r h.2];cases a1U k d<;>rfl
 | [],_::_,h=>by simp [b8]at h
 |_::_, [],h=>by simp [b8]at h
end
theorem b0d {ok:Nat→Prop} {w:World} {R:Bool→Nat→Prop} {k:Nat} {l:List D} {r:List SV} (h:b8 ok w R l r):b8 ok w R (b6p k l) (a8X k r):=by
 induction l generalizing r with
 |nil=>cases r with
  |nil=>trivial
  |cons=>simp [b8]at h
 |cons d l ih=>cases r with
  |nil=>simp [b8]at h
  |cons s r=>
   simp only [b8]at h
   refine⟨?_,ih h.2⟩
   simp only [a7D,a8q,h.1.mentE k]
   cases a1U k d
   · exact h.1
   · simp only [c0]
theorem b0A {k:Nat} {T:List (Nat×SV)} {d:Nat} {s:SV} (h:s7 T d=some s):s7 (Y8 k T) d=some (a8q k s):=by
 induction T with
 |nil=>simp [s7]at h
 |cons x T ih=>
  obtain⟨d',s'⟩:=x
  simp only [s7,Y8]at h⊢
  split at h
  · cases h;rfl
  · exact ih h
def a4r (k:Nat):List (Nat×D)→List (Nat×D)
 | []=> []
 |(d,s)::T=>(d,a7D k s)::a4r k T
theorem a8A {k:Nat} {T:List (Nat×D)} {K:List (Nat×D)→Prop}:a6V k T K=K (a4r k T):=by
 induction T generalizing K with
 |nil=>rfl
 |cons x T ih=>
  obtain⟨d,s⟩:=x
  simp only [a6V,a4r,a7D]
  split<;>rw [ih]
theorem b0Z {k:Nat} {T:List (Nat×D)} {d:Nat} {x:D} (h:n7 (a4r k T) d=some x):∃y,n7 T d=some y∧x=a7D k y:=by
 induction T with
 |nil=>simp [n7,a4r]at h
 |cons q T ih=>
  obtain⟨d',s'⟩:=q
  simp only [n7,a4r]at h⊢
  split at h
  · cases h;exact⟨_,rfl,rfl⟩
  · exact ih h
theorem a9l {j k:Nat} {T:List (Nat×SV)} (h:o8 j T=true):o8 j (Y8 k T)=true:=by
 induction T with
 |nil=>rfl
 |cons x T ih=>
  obtain⟨d,s⟩:=x
  simp only [o8,Y8]at h⊢
  split at h
  · cases h
  · rename_i hm
    have:ment j (a8q k s)=false:=by unfold a8q;split;rfl;exact hm
    rw [this];exact ih h
theorem b6d {j k:Nat} {l:List SV} (h:H5 j l=false):H5 j (a8X k l)=false:=by
 induction l with
 |nil=>rfl
 |cons s l ih=>
  simp only [H5,a8X]at h⊢
  split at h
  · cases h
  · rename_i hm
    have:ment j (a8q k s)=false:=by unfold a8q;split;rfl;exact hm
    rw [this];exact ih h
theorem a8Z {j k:Nat} {H:Hp} (h:B4 j H=true):B4 j (w5 k H)=true:=by
 induction H with
 |nil=>rfl
 |cons x H ih=>
  obtain⟨i,e⟩:=x
  cases e with
  |blk b cs ty=>
   simp only [B4,w5,Y1]at h⊢
   split at h
   · cases h
   · rename_i hm
     rw [b6d hm];exact ih h
  |row v n xs sz ty=>simp only [B4,w5,Y1]at h⊢;exact ih h
def Y0:Hp→Nat→Ent→Hp
 | [],_,_=> []
 |(k',e')::H,k,e=>match Nat.beq k' k with|true=>(k',e)::H|false=>(k',e')::Y0 H k e
def a9p:Hy→Nat→E→Hy
 | [],_,_=> []
 |(k',e')::H,k,e=>match Nat.beq k' k with|true=>(k',e)::H|false=>(k',e')::a9p H k e
theorem a4q {H:Hp} {k:Nat} {e e0:Ent} {K:Hp→Prop} (h:c6 H k=some e0) (hK:K (Y0 H k e)):a7A H k e K:=by
 induction H generalizing K with
 |nil=>simp [c6]at h
 |cons x H ih=>
  obtain⟨k',e'⟩:=x
  simp only [c6,a7A,Y0]at h hK⊢
  split
  · rename_i hb;rw [hb]at hK;exact hK
  · rename_i hb;rw [hb]at hK h;exact ih h hK
theorem a2l {H:Hy} {k:Nat} {e:E} {K:Hy→Prop} (h:b3s H k e K):K (a9p H k e):=by
 induction H generalizing K with
 |nil=>exact h.elim
 |cons x H ih=>
  obtain⟨k',e'⟩:=x
  simp only [b3s,a9p]at h⊢
  split at h
  · rename_i hb
    try rw [hb]
    exact h
  · rename_i hb
    try rw [hb]
    exact ih h
theorem X3 {H:Hp} {k j:Nat} {e e0:Ent} (h:c6 H k=some e0):c6 (Y0 H k e) j=if j=k then some e else c6 H j:=by
 induction H with
 |nil=>simp [c6]at h
 |cons x H ih=>
  obtain⟨k',e'⟩:=x
  simp only [c6,Y0]at h⊢
  cases hb:Nat.beq k' k with
  |true=>
   have:=r6 hb;subst this
   simp only [c6]
   by_cases hj:j=k'
   · subst hj;simp
   · rw [if_neg hj,Q1 (Ne.symm hj)]
  |false=>
   rw [hb]at h
   simp only [c6]
   by_cases hj:j=k
   · subst hj;rw [hb];simp only;rw [ih h];simp
   · cases hb2:Nat.beq k' j with
     |true=>simp [hj]
     |false=>simp only;rw [ih h]
theorem a8y {H:Hy} {k j:Nat} {e x:E} (h:i6 (a9p H k e) j=some x):(j=k∧x=e)∨(j≠k∧i6 H j=some x):=by
 induction H with
 |nil=>simp [i6,a9p]at h
 |cons q H ih=>
  obtain⟨k',e'⟩:=q
  simp only [a9p]at h
  cases hb:Nat.beq k' k with
  |true=>
   have:=r6 hb;subst this
   rw [hb]at h
   simp only [i6]at h⊢
   cases hb2:Nat.beq k' j with
   |true=>rw [hb2]at h;cases h;exact .inl ⟨(r6 hb2).symm,rfl⟩
   |false=>rw [hb2]at h;exact .inr ⟨fun e=>a1i hb2 e.symm,h⟩
  |false=>
   rw [hb]at h
   simp only [i6]at h⊢
   cases hb2:Nat.beq k' j with
   |true=>rw [hb2]at h;cases h;exact .inr ⟨fun e=>by subst e;exact a1i hb (r6 hb2),rfl⟩
   |false=>rw [hb2]at h;exact ih h
theorem a8r {H:Hp} {k c:Nat} {e:Ent} (h:c∈bs (Y0 H k e)):c∈bs H∨c∈bsE e:=by
 induction H with
 |nil=>simp [Y0,bs]at h
 |cons x H ih=>
  obtain⟨k',e'⟩:=x
  simp only [Y0]at h
  split at h
  · simp only [bs,List.mem_append]at h⊢
    rcases h with h|h
    · exact .inr h
    · exact .inl (.inr h)
  · simp only [bs,List.mem_append]at h⊢
    rcases h with h|h
    · exact .inl (.inl h)
    · rcases ih h with h|h
      · exact .inl (.inr h)
      · exact .inr h
def a4p (j:Nat):Ent→Bool
 | .blk _ cs _=> !H5 j cs
 | .row _ _ _ _ _=>true
theorem Q7 {j k:Nat} {e:Ent} {H:Hp} (he:a4p j e=true) (h:B4 j H=true):B4 j ((k,e)::H)=true:=by
 cases e with
 |blk b cs ty=>simp only [a4p,Bool.not_eq_true']at he;simp only [B4,he];exact h
 |row v n xs sz ty=>exact h
theorem b6k {j k:Nat} {e:Ent} {H:Hp} (h:B4 j ((k,e)::H)=true):a4p j e=true∧B4 j H=true:=by
 cases e with
 |blk b cs ty=>
  simp only [B4]at h
  split at h
  · cases h
  · rename_i hm;exact⟨by simp [a4p,hm],h⟩
 |row v n xs sz ty=>exact⟨rfl,h⟩
theorem a6E {j k:Nat} {e:Ent} {H:Hp} (he:a4p j e=true) (h:B4 j H=true):B4 j (Y0 H k e)=true:=by
 induction H with
 |nil=>rfl
 |cons x H ih=>
  obtain⟨k',e'⟩:=x
  obtain⟨h1,h2⟩:=b6k h
  simp only [Y0]
  split
  · exact Q7 he h2
  · exact Q7 h1 (ih h2)
theorem b0C {H:Hy} {k j:Nat} {x:E} (h:i6 (a3B k H) j=some x):∃y,i6 H j=some y∧x=b2T k y:=by
 induction H with
 |nil=>simp [i6,a3B]at h
 |cons q H ih=>
  obtain⟨k',e'⟩:=q
  simp only [i6,a3B]at h⊢
  split at h
  · cases h;exact⟨_,rfl,rfl⟩
  · exact ih h
section
variable {A : Nat → Prop} {X : Cy} {w0 : World} {bor : List Nat} {st : St} {sy : Sy} {KY : Sy → Prop}
theorem a7V {st:St} {j:Nat} (h:st.nk≤j) (q:Bool):¬u9 st q j:=fun hk=>by have:=hk.1;omega
theorem Sim.mono {st st':St} {T:List (Nat×D)} {H:Hy} {nk:Nat} (hs:Sim A st ⟨T,H,nk⟩) (hok:∀b,okS A st b→okS A st' b∧st'.w.heap[b]?=st.w.heap[b]?) (hk:∀q k,u9 st q k→u9 st' q k)
 (hT:∀d s,s7 st.T d=some s→s7 st'.T d=some s) (hH:∀k e,c6 st.H k=some e→c6 st'.H k=some e) (hn:st'.nk=st.nk) (fT:∀j,st'.nk≤j→o8 j st'.T=true) (fH:∀j,st'.nk≤j→B4 j st'.H=true):Sim A st' ⟨T,H,nk⟩:=by
 refine⟨fun d x hx=> ?_,fun k e he=> ?_,by rw [hn];exact hs.nk,fT,fH⟩
 · rcases hs.T d x hx with h|⟨s,h1,h2⟩
   · exact .inl h
   · exact .inr ⟨s,hT d s h1,c0.mono hok hk _ _ h2⟩
 · obtain⟨e',h1,h2⟩:=hs.H k e he
   refine⟨e',hH k e' h1, ?_⟩
   cases e<;>cases e'<;>simp only [a1R]at h2⊢
   · exact⟨h2.1,b8.mono hok hk _ _ h2.2⟩
   · exact⟨h2.1,h2.2.1,h2.2.2.1,c7.mono hok _ _ h2.2.2.2.1,h2.2.2.2.2⟩
theorem a1R.mono {ok ok':Nat→Prop} {w w':World} {R R':Bool→Nat→Prop} (hok:∀b,ok b→ok' b∧w'.heap[b]?=w.heap[b]?) (hk:∀q k,R q k→R' q k) {e:E} {e':Ent} (h:a1R ok w R e e'):a1R ok' w' R' e e':=by
 cases e<;>cases e'<;>simp only [a1R]at h⊢
 · exact⟨h.1,b8.mono hok hk _ _ h.2⟩
 · exact⟨h.1,h.2.1,h.2.2.1,c7.mono hok _ _ h.2.2.2.1,h.2.2.2.2⟩
theorem D9 {dst:Option Nat} {x:D} {s:SV} (h:O2 X sy dst x KY) (hs:Sim A st sy) (hr:c0 (okS A st) st.w (u9 st) x s):put (cx X w0 bor) st dst s fun st'=>∃sy',KY sy'∧Sim A st' sy':=by
 unfold O2 at h
 cases dst with
 |none=>exact⟨sy,h,hs⟩
 |some d=>
  obtain⟨T,H,nk⟩:=sy
  obtain⟨T',H',nk',w,lo,iv⟩:=st
  simp only at h
  simp only [put,cx]
  split at h
  · rename_i hd heq
    cases heq
    rw [hd]
    refine⟨_,h,fun d' x' hx'=> ?_,hs.H,hs.nk,fun j hj=> ?_,hs.fH⟩
    · simp only [n7]at hx'
      simp only [s7]
      cases hb:Nat.beq d d' with
      |true=>rw [hb]at hx';cases hx';exact .inr ⟨s,rfl,hr⟩
      |false=>rw [hb]at hx';exact hs.T d' x' hx'
    · simp only [o8,hr.ment (fun q=>a7V hj q)]
      exact hs.fT j hj
  · exact h.elim
theorem c0C {T:List (Nat×D)} {H:Hy} {nk:Nat} {T':List (Nat×SV)} {H':Hp} {nk':Nat} {w:World} {lo:Nat} {iv:List (Nat×Nat)} {b:Nat} {cs:List D} {cs':List SV} {ty:TypeId}
 (hs:Sim A ⟨T',H',nk',w,lo,iv⟩ ⟨T,H,nk⟩) (hr:b8 (okS A ⟨T',H',nk',w,lo,iv⟩) w (u9 ⟨T',H',nk',w,lo,iv⟩) cs cs') (hb:lo≤b) (hiv:a3M iv b):
 Sim A ⟨T',(nk', .blk b cs' ty)::H',nk'+1,w,lo,iv⟩ ⟨T,(nk, .blk cs ty)::H,nk+1⟩:=by
 have hnk:nk=nk':=hs.nk
 subst hnk
 have hok:∀c,okS A ⟨T',H',nk,w,lo,iv⟩ c→okS A ⟨T',(nk, .blk b cs' ty)::H',nk+1,w,lo,iv⟩ c∧w.heap[c]?=w.heap[c]?:=by
  intro c ⟨h1,h2,h3⟩
  refine⟨⟨h1,h2,fun x hx=> ?_⟩,rfl⟩
  simp only [bs,bsE,List.mem_append,List.mem_singleton]at hx
  rcases hx with rfl|hx
  · intro e;subst e
    rcases h1 with h1|⟨p,hp,h4,h5⟩
    · simp only at h1;omega
    · simp only at hp
      clear hr hs h2 h3
      induction iv with
      |nil=>cases hp
      |cons y l ih=>
       simp only [a3M]at hiv
       rcases List.mem_cons.1 hp with rfl|hp
       · omega
       · exact ih hiv.2 hp
  · exact h3 x hx
 have hk:∀q k,u9 ⟨T',H',nk,w,lo,iv⟩ q k→u9 ⟨T',(nk, .blk b cs' ty)::H',nk+1,w,lo,iv⟩ q k:=by
  intro q k ⟨h1,h2⟩
  simp only at h1
  refine⟨by simp only;omega,fun hq=> ?_⟩
  simp only
  rw [O4 (by omega)]
  exact h2 hq
 refine⟨fun d x hx=> ?_,fun k e he=> ?_,rfl,fun j hj=>hs.fT j (by simp only at hj⊢;omega),fun j hj=> ?_⟩
 · rcases hs.T d x hx with h|⟨s,h1,h2⟩
   · exact .inl h
   · exact .inr ⟨s,h1,c0.mono hok hk _ _ h2⟩
 · simp only [i6]at he
   simp only [c6]
   cases hb:Nat.beq nk k with
   |true=>
    rw [hb]at he;cases he
    exact⟨_,rfl,by exact⟨rfl,b8.mono hok hk _ _ hr⟩⟩
   |false=>
    rw [hb]at he
    obtain⟨e',h1,h2⟩:=hs.H k e he
    exact⟨e',h1,a1R.mono hok hk h2⟩
 · simp only at hj
   refine Q7 ?_ (hs.fH j (by simp only;omega))
   simp only [a4p,Bool.not_eq_true']
   exact b8.ment (fun q=>a7V (st:=⟨T',H',nk,w,lo,iv⟩) (by simp only;omega) q) _ _ hr
theorem b9d {T:List (Nat×D)} {H:Hy} {nk:Nat} {T':List (Nat×SV)} {H':Hp} {nk':Nat} {w:World} {lo:Nat} {iv:List (Nat×Nat)} {b:Nat} {l:List D} {xs:List Value} {z n:Nat} {ty:TypeId}
 (hs:Sim A ⟨T',H',nk',w,lo,iv⟩ ⟨T,H,nk⟩) (hr:c7 (okS A ⟨T',H',nk',w,lo,iv⟩) w l xs) (hfl:u2 l=true) (hlen:l.length=n*z) (hb:lo≤b) (hiv:a3M iv b):
 Sim A ⟨T',(nk', .row (.slice (some ⟨b,0,none⟩) n n) n xs z ty)::H',nk'+1,w,lo,iv⟩ ⟨T,(nk, .row z n l ty)::H,nk+1⟩:=by
 have hnk:nk=nk':=hs.nk
 subst hnk
 have hok:∀c,okS A ⟨T',H',nk,w,lo,iv⟩ c→okS A ⟨T',(nk, .row (.slice (some ⟨b,0,none⟩) n n) n xs z ty)::H',nk+1,w,lo,iv⟩ c∧w.heap[c]?=w.heap[c]?:=by
  intro c ⟨h1,h2,h3⟩
  refine⟨⟨h1,h2,fun x hx=> ?_⟩,rfl⟩
  simp only [bs,bsE,j5,List.mem_append,List.mem_singleton]at hx
  rcases hx with rfl|hx
  · intro e;subst e
    rcases h1 with h1|⟨p,hp,h4,h5⟩
    · simp only at h1;omega
    · simp only at hp
      clear hr hs h2 h3
      induction iv with
      |nil=>cases hp
      |cons y l ih=>
       simp only [a3M]at hiv
       rcases List.mem_cons.1 hp with rfl|hp
       · omega
       · exact ih hiv.2 hp
  · exact h3 x hx
 have hk:∀q k,u9 ⟨T',H',nk,w,lo,iv⟩ q k→u9 ⟨T',(nk, .row (.slice (some ⟨b,0,none⟩) n n) n xs z ty)::H',nk+1,w,lo,iv⟩ q k:=by
  intro q k ⟨h1,h2⟩
  simp only at h1
  refine⟨by simp only;omega,fun hq=> ?_⟩
  simp only
  rw [O4 (by omega)]
  exact h2 hq
 refine⟨fun d x hx=> ?_,fun k e he=> ?_,rfl,fun j hj=>hs.fT j (by simp only at hj⊢;omega),fun j hj=> ?_⟩
 · rcases hs.T d x hx with h|⟨s,h1,h2⟩
   · exact .inl h
   · exact .inr ⟨s,h1,c0.mono hok hk _ _ h2⟩
 · simp only [i6]at he
   simp only [c6]
   cases hb:Nat.beq nk k with
   |true=>
    rw [hb]at he;cases he
    exact⟨_,rfl,by exact⟨rfl,rfl,rfl,c7.mono hok _ _ hr,hfl,hlen⟩⟩
   |false=>
    rw [hb]at he
    obtain⟨e',h1,h2⟩:=hs.H k e he
    exact⟨e',h1,a1R.mono hok hk h2⟩
 · simp only at hj
   exact Q7 rfl (hs.fH j (by simp only;omega))
theorem b3z {T:List (Nat×D)} {H:Hy} {nk:Nat} {T':List (Nat×SV)} {H':Hp} {nk':Nat} {w:World} {lo:Nat} {iv:List (Nat×Nat)} {k:Nat} {e:E} {e0 e':Ent}
 (hs:Sim A ⟨T',H',nk',w,lo,iv⟩ ⟨T,H,nk⟩) (hf:c6 H' k=some e0) (hr:a1R (okS A ⟨T',H',nk',w,lo,iv⟩) w (u9 ⟨T',H',nk',w,lo,iv⟩) e e') (hb:bsE e'=bsE e0)
 (hrow:(∃v n xs sz ty,e0= .row v n xs sz ty)→∃v n xs sz ty,e'= .row v n xs sz ty) (hfe:∀j,nk'≤j→a4p j e'=true):
 Sim A ⟨T',Y0 H' k e',nk',w,lo,iv⟩ ⟨T,a9p H k e,nk⟩:=by
 have hok:∀c,okS A ⟨T',H',nk',w,lo,iv⟩ c→okS A ⟨T',Y0 H' k e',nk',w,lo,iv⟩ c∧w.heap[c]?=w.heap[c]?:=by
  intro c ⟨h1,h2,h3⟩
  refine⟨⟨h1,h2,fun x hx=> ?_⟩,rfl⟩
  rcases a8r hx with hx|hx
  · exact h3 x hx
  · rw [hb]at hx;exact h3 x (u1.2 ⟨k,e0,j3 hf,hx⟩)
 have hk:∀q j,u9 ⟨T',H',nk',w,lo,iv⟩ q j→u9 ⟨T',Y0 H' k e',nk',w,lo,iv⟩ q j:=by
  intro q j ⟨h1,h2⟩
  refine⟨h1,fun hq=> ?_⟩
  simp only
  rw [X3 hf]
  obtain⟨v,n,xs,sz,ty,h3⟩:=h2 hq
  split
  · rename_i hjk
    subst hjk
    simp only at h3
    rw [hf]at h3;cases h3
    obtain⟨v,n,xs,sz,ty,rfl⟩:=hrow ⟨_,_,_,_,_,rfl⟩
    exact⟨_,_,_,_,_,rfl⟩
  · exact⟨_,_,_,_,_,h3⟩
 refine⟨fun d x hx=> ?_,fun j x hx=> ?_,hs.nk,hs.fT,fun j hj=>a6E (hfe j hj) (hs.fH j hj)⟩
 · rcases hs.T d x hx with h|⟨s,h1,h2⟩
   · exact .inl h
   · exact .inr ⟨s,h1,c0.mono hok hk _ _ h2⟩
 · simp only
   rw [X3 hf]
   rcases a8y hx with⟨rfl,rfl⟩|⟨hne,hx⟩
   · exact⟨e',by simp,a1R.mono hok hk hr⟩
   · obtain⟨e1,h1,h2⟩:=hs.H j x hx
     exact⟨e1,by rw [if_neg hne];exact h1,a1R.mono hok hk h2⟩
end
end Go.Sx
namespace Go.Sx
open Go Go.RowKit
section
variable {A : Nat → Prop} {X : Cy} {w0 : World} {bor : List Nat} {st : St} {sy : Sy} {KY : Sy → Prop}
theorem b9A {esz:Nat} {x:D} {s:SV} {Kn:Nat→List D→Prop} (h:c0z sy esz x Kn) (hs:Sim A st sy) (hr:c0 (okS A st) st.w (u9 st) x s):
 ∃m l news,Kn m l∧a2A (cx X w0 bor) st esz s m news∧c7 (okS A st) st.w l news∧u2 l=true∧l.length=m*esz:=by
 unfold c0z at h
 split at h
 · rename_i k o z n c
   simp only [c0]at hr
   obtain⟨rfl,_⟩:=hr
   split at h
   · rename_i cs ty hz hf
     obtain rfl:=r6 hz
     obtain⟨e',hf',he⟩:=hs.H _ _ hf
     cases e' with
     |row=>exact he.elim
     |blk b cs' ty'=>
      split at h
      · rename_i l hl
        split at h
        · rename_i hno
          obtain⟨r,h1,h2⟩:=(he.2.dropD o).takeD hl
          obtain⟨xs,rfl,h3⟩:=h2.vals hno
          refine⟨n,l,xs,h, ?_,h3,a5O hno,(b1c hl).1⟩
          simp only [a2A,hf']
          exact⟨trivial,vs xs,h1,h2.one (b2c st) (a5O hno),(G9 _ _).symm⟩
        · exact h.elim
      · exact h.elim
   · rename_i z' N r ty hz hf
     obtain rfl:=r6 hz
     obtain⟨e',hf',he⟩:=hs.H _ _ hf
     cases e' with
     |blk=>exact he.elim
     |row v n' xs z2 ty'=>
      obtain⟨rfl,rfl,rfl,hrep,hfl,hlen⟩:=he
      split at h
      · rename_i hzz
        obtain rfl:=r6 hzz
        obtain⟨hb,h⟩:=h
        refine⟨n,_,(xs.drop o).take (n*z'),h, ?_,(hrep.drop _).take _,a5X hfl fun d hd=>List.mem_of_mem_drop (List.mem_of_mem_take hd), ?_⟩
        · simp only [a2A,hf']
          exact⟨trivial,trivial,hb,trivial,hrep.one hfl⟩
        · rcases hb with rfl|hb
          · simp
          · simp only [List.length_take,List.length_drop];omega
      · exact h.elim
   · exact h.elim
 · rename_i k z0
   simp only [c0]at hr
   obtain⟨rfl,_⟩:=hr
   split at h
   · rename_i z n l ty hf
     obtain⟨e',hf',he⟩:=hs.H _ _ hf
     cases e' with
     |blk=>exact he.elim
     |row v n' xs z' ty'=>
      obtain⟨rfl,rfl,rfl,hrep,hfl,hlen⟩:=he
      split at h
      · rename_i hz
        obtain rfl:=r6 hz
        refine⟨n,l,xs,h, ?_,hrep,hfl,hlen⟩
        simp only [a2A,hf']
        exact⟨trivial,trivial,trivial,hrep.one hfl⟩
      · exact h.elim
   · exact h.elim
 · have:=hr.sc;subst this
   exact⟨0, [], [],h,by simp [a2A],trivial,rfl,by simp⟩
 · rename_i z n l
   simp only [c0,Rep]at hr
   obtain⟨y,rfl,a,c,rfl,hnc,hmx,hlen,hfl,hmem⟩:=hr
   split at h
   · rename_i hz
     obtain rfl:=r6 hz
     rcases hmem with rfl|⟨b,o,xs,rfl,hok,hrep,hcell⟩
     · have hn:n=0:=by omega
       subst hn
       have hl:l= []:=List.eq_nil_of_length_eq_zero (by simpa using hlen)
       subst hl
       refine⟨0, [], [],h, ?_,trivial,rfl,by simp⟩
       cases a with
       |none=>simp [a2A]
       |some ad=>obtain⟨b,o,sp⟩:=ad;simp [a2A]
     · refine⟨n,l,xs,h, ?_,hrep,hfl,hlen⟩
       simp only [a2A]
       have hxl:=hrep.length
       exact .inr ⟨trivial,trivial,hrep.one hfl,by omega, .inr ⟨hok.2.2,fun j hj=>hcell j hj⟩⟩
   · exact h.elim
 · exact h.elim
theorem b5a {T:List (Nat×D)} {H:Hy} {nk:Nat} {T':List (Nat×SV)} {H':Hp} {nk':Nat} {w w1:World} {lo lo1:Nat} {iv iv1:List (Nat×Nat)} {k:Nat} {e0:Ent} {v':Value} {n z:Nat} {l:List D} {xs:List Value} {ty:TypeId}
 (hs:Sim A ⟨T',H',nk',w,lo,iv⟩ ⟨T,H,nk⟩) (hf:c6 H' k=some e0) (hv:∀b,b∈j5 v'→b∈bs H'∨w.heap.size≤b) (hfx:Fx (bs H') w w1) (hlo:(lo1=w1.heap.size)∨(lo1=lo∧iv1=iv))
 (hrep:c7 (okS A ⟨T',H',nk',w,lo,iv⟩) w l xs) (hfl:u2 l=true) (hlen:l.length=n*z):
 Sim A ⟨Y8 k T',Y0 (w5 k H') k (.row v' n xs z ty),nk',w1,lo1,iv1⟩ ⟨a4r k T,a9p (a3B k H) k (.row z n l ty),nk⟩:=by
 have hf2:c6 (w5 k H') k=some (Y1 k e0):=by rw [I3,hf];rfl
 have hok:∀c,okS A ⟨T',H',nk',w,lo,iv⟩ c→okS A ⟨Y8 k T',Y0 (w5 k H') k (.row v' n xs z ty),nk',w1,lo1,iv1⟩ c∧w1.heap[c]?=w.heap[c]?:=by
  intro c ⟨h1,h2,h3⟩
  refine⟨⟨⟨?_,h1.2⟩,Nat.lt_of_lt_of_le h2 hfx.size,fun x hx=> ?_⟩,hfx.block c h2 h3⟩
  · rcases hlo with rfl|⟨rfl,rfl⟩
    · exact .inl (Nat.lt_of_lt_of_le h2 hfx.size)
    · exact h1.1
  · rcases a8r hx with hx|hx
    · rw [a2V]at hx;exact h3 x hx
    · rcases hv x hx with hx|hx
      · exact h3 x hx
      · intro e;simp only at h2;omega
 have hk:∀q j,u9 ⟨T',H',nk',w,lo,iv⟩ q j→u9 ⟨Y8 k T',Y0 (w5 k H') k (.row v' n xs z ty),nk',w1,lo1,iv1⟩ q j:=by
  intro q j ⟨h1,h2⟩
  refine⟨h1,fun hq=> ?_⟩
  simp only
  rw [X3 hf2,I3]
  obtain⟨v,n,xs,sz,ty,h3⟩:=h2 hq
  split
  · exact⟨_,_,_,_,_,rfl⟩
  · simp only at h3;rw [h3];exact⟨_,_,_,_,_,rfl⟩
 refine⟨fun d x hx=> ?_,fun j x hx=> ?_,hs.nk,fun j hj=>a9l (hs.fT j hj),fun j hj=>a6E rfl (a8Z (hs.fH j hj))⟩
 · obtain⟨y,hy,rfl⟩:=b0Z hx
   rcases hs.T d y hy with h|⟨s,h1,h2⟩
   · subst h;exact .inl (by simp [a7D,a1U])
   · unfold a7D
     cases hm:a1U k y with
     |true=>exact .inl rfl
     |false=>
      refine .inr ⟨s, ?_,c0.mono hok hk _ _ h2⟩
      have:=b0A (k:=k) h1
      simp only [a8q,h2.mentE k,hm]at this
      exact this
 · simp only
   rw [X3 hf2,I3]
   rcases a8y hx with⟨rfl,rfl⟩|⟨hne,hx⟩
   · exact⟨.row v' n xs z ty,by simp,by exact⟨rfl,rfl,rfl,c7.mono hok _ _ hrep,hfl,hlen⟩⟩
   · obtain⟨y,hy,rfl⟩:=b0C hx
     obtain⟨e1,h1,h2⟩:=hs.H j y hy
     refine⟨Y1 k e1,by rw [if_neg hne];simp only at h1;rw [h1];rfl, ?_⟩
     have h3:=a1R.mono hok hk h2
     cases y<;>cases e1<;>simp only [b2T,Y1,a1R]at h3⊢
     · exact⟨h3.1,b0d h3.2⟩
     · exact h3
theorem b6n {T:List (Nat×D)} {H:Hy} {nk:Nat} {T':List (Nat×SV)} {H':Hp} {nk':Nat} {w w1:World} {lo lo1:Nat} {iv iv1:List (Nat×Nat)} {v':Value} {n z:Nat} {l:List D} {xs:List Value} {ty:TypeId}
 (hs:Sim A ⟨T',H',nk',w,lo,iv⟩ ⟨T,H,nk⟩) (hv:∀b,b∈j5 v'→b∈bs H'∨w.heap.size≤b) (hfx:Fx (bs H') w w1) (hlo:(lo1=w1.heap.size)∨(lo1=lo∧iv1=iv))
 (hrep:c7 (okS A ⟨T',H',nk',w,lo,iv⟩) w l xs) (hfl:u2 l=true) (hlen:l.length=n*z):
 Sim A ⟨T',(nk', .row v' n xs z ty)::H',nk'+1,w1,lo1,iv1⟩ ⟨T,(nk, .row z n l ty)::H,nk+1⟩:=by
 have hnk:nk=nk':=hs.nk
 subst hnk
 have hok:∀c,okS A ⟨T',H',nk,w,lo,iv⟩ c→okS A ⟨T',(nk, .row v' n xs z ty)::H',nk+1,w1,lo1,iv1⟩ c∧w1.heap[c]?=w.heap[c]?:=by
  intro c ⟨h1,h2,h3⟩
  refine⟨⟨⟨?_,h1.2⟩,Nat.lt_of_lt_of_le h2 hfx.size,fun x hx=> ?_⟩,hfx.block c h2 h3⟩
  · rcases hlo with rfl|⟨rfl,rfl⟩
    · exact .inl (Nat.lt_of_lt_of_le h2 hfx.size)
    · exact h1.1
  · simp only [bs,bsE,List.mem_append]at hx
    rcases hx with hx|hx
    · rcases hv x hx with hx|hx
      · exact h3 x hx
      · intro e;simp only at h2;omega
    · exact h3 x hx
 have hk:∀q k,u9 ⟨T',H',nk,w,lo,iv⟩ q k→u9 ⟨T',(nk, .row v' n xs z ty)::H',nk+1,w1,lo1,iv1⟩ q k:=by
  intro q k ⟨h1,h2⟩
  simp only at h1
  refine⟨by simp only;omega,fun hq=> ?_⟩
  simp only
  rw [O4 (by omega)]
  exact h2 hq
 refine⟨fun d x hx=> ?_,fun k e he=> ?_,rfl,fun j hj=>hs.fT j (by simp only at hj⊢;omega),fun j hj=>Q7 rfl (hs.fH j (by simp only at hj⊢;omega))⟩
 · rcases hs.T d x hx with h|⟨s,h1,h2⟩
   · exact .inl h
   · exact .inr ⟨s,h1,c0.mono hok hk _ _ h2⟩
 · simp only [i6]at he
   simp only [c6]
   cases hb:Nat.beq nk k with
   |true=>
    rw [hb]at he;cases he
    exact⟨_,rfl,by exact⟨rfl,rfl,rfl,c7.mono hok _ _ hrep,hfl,hlen⟩⟩
   |false=>
    rw [hb]at he
    obtain⟨e',h1,h2⟩:=hs.H k e he
    exact⟨e',h1,a1R.mono hok hk h2⟩
theorem b7z {T:List (Nat×D)} {H:Hy} {nk:Nat} {T':List (Nat×SV)} {H':Hp} {nk':Nat} {w w1:World} {lo lo1:Nat} {iv iv1:List (Nat×Nat)} {k:Nat} {e0:Ent} {v':Value} {n z:Nat} {l:List D} {xs:List Value} {ty:TypeId}
 (hs:Sim A ⟨T',H',nk',w,lo,iv⟩ ⟨T,H,nk⟩) (hf:c6 H' k=some e0) (hv:∀b,b∈j5 v'→b∈bs H'∨w.heap.size≤b) (hfx:Fx (bs H') w w1) (hlo:(lo1=w1.heap.size)∨(lo1=lo∧iv1=iv))
 (hrep:c7 (okS A ⟨Y8 k T',Y0 (w5 k H') k (.row v' n xs z ty),nk',w1,lo1,iv1⟩) w1 l xs) (hfl:u2 l=true) (hlen:l.length=n*z):
 Sim A ⟨Y8 k T',Y0 (w5 k H') k (.row v' n xs z ty),nk',w1,lo1,iv1⟩ ⟨a4r k T,a9p (a3B k H) k (.row z n l ty),nk⟩:=by
 have hf2:c6 (w5 k H') k=some (Y1 k e0):=by rw [I3,hf];rfl
 have hok:∀c,okS A ⟨T',H',nk',w,lo,iv⟩ c→okS A ⟨Y8 k T',Y0 (w5 k H') k (.row v' n xs z ty),nk',w1,lo1,iv1⟩ c∧w1.heap[c]?=w.heap[c]?:=by
  intro c ⟨h1,h2,h3⟩
  refine⟨⟨⟨?_,h1.2⟩,Nat.lt_of_lt_of_le h2 hfx.size,fun x hx=> ?_⟩,hfx.block c h2 h3⟩
  · rcases hlo with rfl|⟨rfl,rfl⟩
    · exact .inl (Nat.lt_of_lt_of_le h2 hfx.size)
    · exact h1.1
  · rcases a8r hx with hx|hx
    · rw [a2V]at hx;exact h3 x hx
    · rcases hv x hx with hx|hx
      · exact h3 x hx
      · intro e;simp only at h2;omega
 have hk:∀q j,u9 ⟨T',H',nk',w,lo,iv⟩ q j→u9 ⟨Y8 k T',Y0 (w5 k H') k (.row v' n xs z ty),nk',w1,lo1,iv1⟩ q j:=by
  intro q j ⟨h1,h2⟩
  refine⟨h1,fun hq=> ?_⟩
  simp only
  rw [X3 hf2,I3]
  obtain⟨v,n,xs,sz,ty,h3⟩:=h2 hq
  split
  · exact⟨_,_,_,_,_,rfl⟩
  · simp only at h3;rw [h3];exact⟨_,_,_,_,_,rfl⟩
 refine⟨fun d x hx=> ?_,fun j x hx=> ?_,hs.nk,fun j hj=>a9l (hs.fT j hj),fun j hj=>a6E rfl (a8Z (hs.fH j hj))⟩
 · obtain⟨y,hy,rfl⟩:=b0Z hx
   rcases hs.T d y hy with h|⟨s,h1,h2⟩
   · subst h;exact .inl (by simp [a7D,a1U])
   · unfold a7D
     cases hm:a1U k y with
     |true=>exact .inl rfl
     |false=>
      refine .inr ⟨s, ?_,c0.mono hok hk _ _ h2⟩
      have:=b0A (k:=k) h1
      simp only [a8q,h2.mentE k,hm]at this
      exact this
 · simp only
   rw [X3 hf2,I3]
   rcases a8y hx with⟨rfl,rfl⟩|⟨hne,hx⟩
   · exact⟨.row v' n xs z ty,by simp,by exact⟨rfl,rfl,rfl,hrep,hfl,hlen⟩⟩
   · obtain⟨y,hy,rfl⟩:=b0C hx
     obtain⟨e1,h1,h2⟩:=hs.H j y hy
     refine⟨Y1 k e1,by rw [if_neg hne];simp only at h1;rw [h1];rfl, ?_⟩
     have h3:=a1R.mono hok hk h2
     cases y<;>cases e1<;>simp only [b2T,Y1,a1R]at h3⊢
     · exact⟨h3.1,b0d h3.2⟩
     · exact h3
theorem b4S {T:List (Nat×D)} {H:Hy} {nk:Nat} {T':List (Nat×SV)} {H':Hp} {nk':Nat} {w w1:World} {lo lo1:Nat} {iv iv1:List (Nat×Nat)} {v':Value} {n z:Nat} {l:List D} {xs:List Value} {ty:TypeId}
 (hs:Sim A ⟨T',H',nk',w,lo,iv⟩ ⟨T,H,nk⟩) (hv:∀b,b∈j5 v'→b∈bs H'∨w.heap.size≤b) (hfx:Fx (bs H') w w1) (hlo:(lo1=w1.heap.size)∨(lo1=lo∧iv1=iv))
 (hrep:c7 (okS A ⟨T',(nk', .row v' n xs z ty)::H',nk'+1,w1,lo1,iv1⟩) w1 l xs) (hfl:u2 l=true) (hlen:l.length=n*z):
 Sim A ⟨T',(nk', .row v' n xs z ty)::H',nk'+1,w1,lo1,iv1⟩ ⟨T,(nk, .row z n l ty)::H,nk+1⟩:=by
 have hnk:nk=nk':=hs.nk
 subst hnk
 have hok:∀c,okS A ⟨T',H',nk,w,lo,iv⟩ c→okS A ⟨T',(nk, .row v' n xs z ty)::H',nk+1,w1,lo1,iv1⟩ c∧w1.heap[c]?=w.heap[c]?:=by
  intro c ⟨h1,h2,h3⟩
  refine⟨⟨⟨?_,h1.2⟩,Nat.lt_of_lt_of_le h2 hfx.size,fun x hx=> ?_⟩,hfx.block c h2 h3⟩
  · rcases hlo with rfl|⟨rfl,rfl⟩
    · exact .inl (Nat.lt_of_lt_of_le h2 hfx.size)
    · exact h1.1
  · simp only [bs,bsE,List.mem_append]at hx
    rcases hx with hx|hx
    · rcases hv x hx with hx|hx
      · exact h3 x hx
      · intro e;simp only at h2;omega
    · exact h3 x hx
 have hk:∀q k,u9 ⟨T',H',nk,w,lo,iv⟩ q k→u9 ⟨T',(nk, .row v' n xs z ty)::H',nk+1,w1,lo1,iv1⟩ q k:=by
  intro q k ⟨h1,h2⟩
  simp only at h1
  refine⟨by simp only;omega,fun hq=> ?_⟩
  simp only
  rw [O4 (by omega)]
  exact h2 hq
 refine⟨fun d x hx=> ?_,fun k e he=> ?_,rfl,fun j hj=>hs.fT j (by simp only at hj⊢;omega),fun j hj=>Q7 rfl (hs.fH j (by simp only at hj⊢;omega))⟩
 · rcases hs.T d x hx with h|⟨s,h1,h2⟩
   · exact .inl h
   · exact .inr ⟨s,h1,c0.mono hok hk _ _ h2⟩
 · simp only [i6]at he
   simp only [c6]
   cases hb:Nat.beq nk k with
   |true=>
    rw [hb]at he;cases he
    exact⟨_,rfl,by exact⟨rfl,rfl,rfl,hrep,hfl,hlen⟩⟩
   |false=>
    rw [hb]at he
    obtain⟨e',h1,h2⟩:=hs.H k e he
    exact⟨e',h1,a1R.mono hok hk h2⟩
theorem c1I {seq:Bool} {e esz bytes:Nat} {s x:D} {s' x':SV} {dst:Option Nat} (h:c2j e esz bytes s x sy fun st' d=>O2 X st' dst d KY) (hs:Sim A st sy) (h1:c0 (okS A st) st.w (u9 st) s s') (h2:c0 (okS A st) st.w (u9 st) x x'):
 b1T (cx X w0 bor) seq e esz bytes s' x' st fun st' d=>put (cx X w0 bor) st' dst d fun st'=>∃sy',KY sy'∧Sim A st' sy':=by
 unfold c2j at h
 split at h
 · exact h.elim
 rename_i hez
 have hez:=Nat.le_of_ble_eq_true hez
 have hnews:=h
 clear h
 obtain⟨m,l,news,h,hn,hrep,hfl,hlen⟩:=b9A (X:=X) (w0:=w0) (bor:=bor) hnews hs h2
 clear hnews
 obtain⟨T',H',nk',w,lo,iv⟩:=st
 have reW_of:∀ {w1:World} {K:List (Nat×SV)→Hp→Nat→World→Nat→List (Nat×Nat)→Prop},(∀lo1 iv1,(lo1=w1.heap.size∨(lo1=lo∧iv1=iv))→K T' H' nk' w1 lo1 iv1)→reW seq ⟨T',H',nk',w,lo,iv⟩ w1 K:=by
  intro w1 K hh
  cases seq with
  |true=>exact hh _ _ (.inl rfl)
  |false=>exact hh _ _ (.inr ⟨rfl,rfl⟩)
 split at h
 · rename_i T H nk
   have:=h1.sc;subst this
   obtain⟨hb,r',n',⟨rfl,rfl⟩,h⟩:=h
   have hnk:nk=nk':=hs.nk
   subst hnk
   refine⟨0,0,m, .slice none 0 0, [],news,⟨hez,hn,by simpa using hb.1,by simpa [maxLen]using hb.2⟩, .inl ⟨rfl,rfl,fun v' w1 hv hz hf=>reW_of fun lo1 iv1 hlo=> ?_⟩⟩
   have hsim:=b6n (ty:=e) hs hz hf hlo hrep hfl hlen
   refine⟨hs.fT nk (Nat.le_refl _),hs.fH nk (Nat.le_refl _),D9 h hsim ?_⟩
   simp only [c0]
   exact⟨trivial,by simp only;omega,fun _=>⟨_,_,_,_,_,by simp [c6];exact⟨rfl,rfl,rfl,rfl,rfl⟩⟩⟩
 · rename_i k z0 T H nk
   have h1':=h1
   simp only [c0]at h1
   obtain⟨rfl,hkey⟩:=h1
   split at h
   · rename_i z n r ty hfy
     split at h
     · rename_i hzz hty
       obtain rfl:=r6 hzz
       obtain rfl:=r6 hty
       obtain⟨hb,r',n',⟨rfl,rfl⟩,h⟩:=h
       obtain⟨e',hf',he⟩:=hs.H _ _ hfy
       cases e' with
       |blk=>exact he.elim
       |row v n' xs z' ty'=>
        obtain⟨rfl,rfl,rfl,hrep0,hfl0,hlen0⟩:=he
        refine⟨k,n,m,v,xs,news,⟨hez,hn,hb.1,by simpa [maxLen]using hb.2⟩, .inr (.inl ⟨rfl,hf',fun v' w1 hv hz hf=>reW_of fun lo1 iv1 hlo=> ?_⟩)⟩
        have h:=a2l h
        rw [a8A]at h
        have hsim:=b5a (k:=k) (v':=v') (n:=n+m) (z:=z) (ty:=ty) (l:=r++l) (xs:=xs++news) hs hf' hz hf hlo (hrep0.app hrep) (L8 fun d hd=>by
         rcases List.mem_append.1 hd with hd|hd
         · exact s6 hfl0 hd
         · exact s6 hfl hd) (by simp [hlen0,hlen,Nat.add_mul])
        refine a4q (e0:=Y1 k _) (by rw [I3];simp only at hf';rw [hf'];rfl) ?_
        rw [a2u]
        refine D9 h hsim ?_
        simp only [c0]
        exact⟨trivial,hkey.1,fun _=>⟨_,_,_,_,_,by simp only;rw [X3 (e0:=Y1 k _) (by rw [I3];simp only at hf';rw [hf'];rfl)];simp;exact⟨rfl,rfl,rfl,rfl,rfl⟩⟩⟩
     · exact h.elim
   · exact h.elim
 · rename_i k o z0 n c T H nk
   simp only [c0]at h1
   obtain⟨rfl,hkey⟩:=h1
   split at h
   · rename_i z N r ty ho hc hz0 hfy
     obtain rfl:=r6 ho
     obtain rfl:=r6 hc
     split at h
     · rename_i hzz hty
       obtain rfl:=r6 hzz
       obtain rfl:=r6 hty
       obtain⟨⟨hN0,hnN,hb⟩,r',n',⟨rfl,rfl⟩,h⟩:=h
       obtain⟨e',hf',he⟩:=hs.H _ _ hfy
       cases e' with
       |blk=>exact he.elim
       |row v N' xs z' ty'=>
        obtain⟨rfl,rfl,rfl,hrep0,hfl0,hlen0⟩:=he
        have hle:n*z≤N*z:=Nat.mul_le_mul_right _ hnN
        refine⟨k,n,m,v,xs.take (n*z),news,⟨hez,hn,hb.1,by simpa [maxLen]using hb.2⟩, .inr (.inr (.inl ⟨rfl,⟨v,N,xs,hf',hN0,hnN,rfl⟩,fun v' w1 hv hz hf=>reW_of fun lo1 iv1 hlo=> ?_⟩))⟩
        have h:=a2l h
        rw [a8A]at h
        have hsim:=b5a (k:=k) (v':=v') (n:=n+m) (z:=z) (ty:=ty) (l:=r.take (n*z)++l) (xs:=xs.take (n*z)++news) hs hf' hz hf hlo ((hrep0.take _).app hrep) (L8 fun d hd=>by
         rcases List.mem_append.1 hd with hd|hd
         · exact s6 hfl0 (List.mem_of_mem_take hd)
         · exact s6 hfl hd) (by simp only [List.length_append,List.length_take,hlen0,hlen,Nat.min_eq_left hle,Nat.add_mul])
        refine a4q (e0:=Y1 k _) (by rw [I3];simp only at hf';rw [hf'];rfl) ?_
        rw [a2u]
        refine D9 h hsim ?_
        simp only [c0]
        exact⟨trivial,hkey.1,fun _=>⟨_,_,_,_,_,by simp only;rw [X3 (e0:=Y1 k _) (by rw [I3];simp only at hf';rw [hf'];rfl)];simp;exact⟨rfl,rfl,rfl,rfl,rfl⟩⟩⟩
     · exact h.elim
   · exact h.elim
 · exact h.elim
end
end Go.Sx
namespace Go.Sx
open Go Go.RowKit
def L0 (k:Nat):Hp→Hp
 | []=> []
 |(j,e)::H=>match Nat.beq j k with|true=>L0 k H|false=>(j,e)::L0 k H
theorem a4I {H:Hp} {k j:Nat} (h:j≠k):c6 (L0 k H) j=c6 H j:=by
 induction H with
 |nil=>rfl
 |cons x H ih=>
  obtain⟨i,e⟩:=x
  simp only [L0,c6]
  cases hb:Nat.beq i k with
  |true=>
   have:=r6 hb;subst this
   rw [Q1 (Ne.symm h)];exact ih
  |false=>simp only [c6];rw [ih]
theorem a2n {H:Hp} {k j:Nat} {e:Ent} (h:(j,e)∈L0 k H):(j,e)∈H∧j≠k:=by
 induction H with
 |nil=>cases h
 |cons x H ih=>
  obtain⟨i,e'⟩:=x
  simp only [L0]at h
  cases hb:Nat.beq i k with
  |true=>rw [hb]at h;obtain⟨h1,h2⟩:=ih h;exact⟨List.mem_cons_of_mem _ h1,h2⟩
  |false=>
   rw [hb]at h
   rcases List.mem_cons.1 h with h|h
   · cases h;exact⟨List.mem_cons_self,a1i hb⟩
   · obtain⟨h1,h2⟩:=ih h;exact⟨List.mem_cons_of_mem _ h1,h2⟩
theorem b4r {k:Nat} (H:Hp):(L0 k H).Sublist H:=by
 induction H with
 |nil=>exact List.Sublist.slnil
 |cons x H ih=>
  obtain⟨i,e⟩:=x
  simp only [L0]
  cases hb:Nat.beq i k with
  |true=>exact List.Sublist.cons _ ih
  |false=>exact List.Sublist.cons_cons _ ih
theorem c2s {H H':Hp} (h:H.Sublist H'):(bs H).Sublist (bs H'):=by
 induction h with
 |slnil=>exact List.Sublist.slnil
 |cons x _ ih=>obtain⟨i,e⟩:=x;exact ih.trans (List.sublist_append_right _ _)
 |cons_cons x _ ih=>obtain⟨i,e⟩:=x;exact List.Sublist.append (List.Sublist.refl _) ih
def a1k (g:Nat→List SV→List SV):Hp→Hp
 | []=> []
 |(j, .blk b cs ty)::H=>(j, .blk b (g j cs) ty)::a1k g H
 |(j,e)::H=>(j,e)::a1k g H
theorem a8E {g:Nat→List SV→List SV} {H:Hp} {j:Nat}:c6 (a1k g H) j=(c6 H j).map (fun| .blk b cs ty=> .blk b (g j cs) ty|e=>e):=by
 induction H with
 |nil=>rfl
 |cons x H ih=>
  obtain⟨i,e⟩:=x
  cases e<;>simp only [a1k,c6]<;>cases hb:Nat.beq i j
  · exact ih
  · have:=r6 hb;subst this;rfl
  · exact ih
  · rfl
theorem mem_map {g:Nat→List SV→List SV} {H:Hp} {j:Nat} {e:Ent} (h:(j,e)∈a1k g H):(∃b cs ty,(j, .blk b cs ty)∈H∧e= .blk b (g j cs) ty)∨((j,e)∈H∧∃v n xs sz ty,e= .row v n xs sz ty):=by
 induction H with
 |nil=>cases h
 |cons x H ih=>
  obtain⟨i,e'⟩:=x
  cases e' with
  |blk b cs ty=>
   simp only [a1k]at h
   rcases List.mem_cons.1 h with h|h
   · cases h;exact .inl ⟨b,cs,ty,List.mem_cons_self,rfl⟩
   · rcases ih h with⟨b,cs,ty,h1,h2⟩|⟨h1,h2⟩
     · exact .inl ⟨b,cs,ty,List.mem_cons_of_mem _ h1,h2⟩
     · exact .inr ⟨List.mem_cons_of_mem _ h1,h2⟩
  |row v n xs sz ty=>
   simp only [a1k]at h
   rcases List.mem_cons.1 h with h|h
   · cases h;exact .inr ⟨List.mem_cons_self,_,_,_,_,_,rfl⟩
   · rcases ih h with⟨b,cs,ty,h1,h2⟩|⟨h1,h2⟩
     · exact .inl ⟨b,cs,ty,List.mem_cons_of_mem _ h1,h2⟩
     · exact .inr ⟨List.mem_cons_of_mem _ h1,h2⟩
theorem b5P {g:Nat→List SV→List SV} {H:Hp}:bs (a1k g H)=bs H:=by
 induction H with
 |nil=>rfl
 |cons x H ih=>obtain⟨i,e⟩:=x;cases e<;>simp [a1k,bs,bsE,ih]
theorem b8N {g:Nat→List SV→List SV} {H:Hp}:(a1k g H).map (·.1)=H.map (·.1):=by
 induction H with
 |nil=>rfl
 |cons x H ih=>obtain⟨i,e⟩:=x;cases e<;>simp [a1k,ih]
theorem c0P {g:Nat→List SV→List SV} {H:Hp} (j:Nat):bOf (a1k g H) j=bOf H j∧j2 (a1k g H) j=j2 H j:=by
 simp only [bOf,j2,a8E]
 cases c6 H j with
 |none=>exact⟨rfl,rfl⟩
 |some e=>cases e<;>exact⟨rfl,rfl⟩
section
variable {A : Nat → Prop} {Xx : Cx} {w : World}
structure c0H (ok ok':Nat→Prop) (R R':Bool→Nat→Prop) (H:Hp) (w:World) (k:Nat) (e:E):Prop where
 ok:∀b,ok b→ok' b
 R:∀q j,j≠k→R q j→R' q j
 blk:∀cs ty,e= .blk cs ty→u2 cs=true∧j2 H k=undef∧∃b xs,bOf H k=b∧ok' b∧c7 ok' w cs xs∧∀j,j<cs.length→w.cell? ⟨b,j,none⟩=xs[j]?
 row:∀z n l ty,e= .row z n l ty→Rep ok' w (.lst z n l) (j2 H k)
variable {ok ok' : Nat → Prop} {R R' : Bool → Nat → Prop} {H : Hp} {k : Nat} {e : E}
theorem a5G {s:SV} (h:ment k s=false):den (L0 k H) s=den H s:=a5Z k (fun j hj=>⟨by simp [bOf,a4I hj],by simp [j2,a4I hj]⟩) s h
theorem c1H {x x':D} (h:fzO k e x=some x') (ho:a3G x=true):a3G x'=true:=by
 cases x<;>simp [a3G]at ho<;>simp only [fzO]at h
 · cases h;rfl
 · cases h;rfl
 · cases h;rfl
 · split at h
   · cases h;rfl
   · split at h<;>cases h;rfl
 · split at h<;>cases h;rfl
 · split at h
   · cases h;rfl
   · split at h<;>cases h;rfl
 · split at h<;>cases h;rfl
 · split at h
   · cases h;rfl
   · split at h
     · split at h<;>cases h;rfl
     · cases h
 · split at h<;>cases h;rfl
 · cases h;rfl
theorem b9T {l l':List D} (h:fzL k e l=some l') (ho:u2 l=true):u2 l'=true:=by
 induction l generalizing l' with
 |nil=>simp [fzL]at h;subst h;rfl
 |cons x l ih=>
  simp only [fzL]at h
  split at h
  · rename_i y r hy hr
    cases h
    simp only [u2]
    rw [c1H hy (s6 ho List.mem_cons_self)]
    exact ih hr (L8 fun d hd=>s6 ho (List.mem_cons_of_mem _ hd))
  · cases h
mutual
theorem b5Q (hz:c0H ok ok' R R' H w k e):∀(x:D) (s:SV) (x':D),c0 ok w R x s→fzO k e x=some x'→∃s',c0 ok' w R' x' s'∧den (L0 k H) s'=den H s∧ment k s'=false
 | .v x,s,x',h,hx=>by
  simp only [c0]at h
  simp only [fzO]at hx;cases hx
  obtain⟨rfl,h⟩:=h
  exact⟨.v x,by simp only [c0];exact⟨trivial,h⟩,rfl,rfl⟩
 | .lst z n l,s,x',h,hx=>by
  simp only [fzO]at hx;cases hx
  simp only [c0]at h
  obtain⟨y,rfl,h⟩:=h
  exact⟨.v y,by simp only [c0];exact⟨y,rfl,Rep.mono (fun b hb=>⟨hz.ok b hb,rfl⟩) _ _ h⟩,rfl,rfl⟩
 | .ptr l o,s,x',h,hx=>by
  simp only [fzO]at hx;cases hx
  simp only [c0]at h
  obtain⟨y,rfl,h⟩:=h
  exact⟨.v y,by simp only [c0];exact⟨y,rfl,Rep.mono (fun b hb=>⟨hz.ok b hb,rfl⟩) _ _ h⟩,rfl,rfl⟩
 | .own j o,s,x',h,hx=>by
  simp only [c0]at h
  obtain⟨rfl,h⟩:=h
  simp only [fzO]at hx
  cases hb:Nat.beq j k with
  |false=>
   rw [hb]at hx;cases hx
   exact⟨_,by simp only [c0];exact⟨trivial,hz.R _ _ (a1i hb) h⟩,a5G (by simpa [ment]using hb),by simpa [ment]using hb⟩
  |true=>
   have:=r6 hb;subst this
   rw [hb]at hx
   simp only at hx
   split at hx
   · cases hx
     obtain⟨hfl,hrv,b,xs,h1,h2,h3,h4⟩:=hz.blk _ _ rfl
     refine⟨.v (.pointer (some ⟨b,o,none⟩)), ?_,by simp [den,h1],rfl⟩
     simp only [c0,Rep]
     exact⟨_,rfl,b,0,xs,by rw [Nat.zero_add],h2,hfl,h3,fun i hi=>by rw [Nat.zero_add];exact h4 i hi⟩
   · cases hx
 | .ownx j o,s,x',h,hx=>by
  simp only [c0]at h
  obtain⟨rfl,h⟩:=h
  simp only [fzO]at hx
  cases hb:Nat.beq j k with
  |false=>rw [hb]at hx;cases hx;exact⟨_,by simp only [c0];exact⟨trivial,hz.R _ _ (a1i hb) h⟩,a5G (by simpa [ment]using hb),by simpa [ment]using hb⟩
  |true=>rw [hb]at hx;cases hx
 | .elr j z i o,s,x',h,hx=>by
  simp only [c0]at h
  obtain⟨rfl,h⟩:=h
  simp only [fzO]at hx
  cases hb:Nat.beq j k with
  |false=>rw [hb]at hx;cases hx;exact⟨_,by simp only [c0];exact⟨trivial,hz.R _ _ (a1i hb) h⟩,a5G (by simpa [ment]using hb),by simpa [ment]using hb⟩
  |true=>rw [hb]at hx;cases hx
 | .row j z,s,x',h,hx=>by
  simp only [c0]at h
  obtain⟨rfl,h⟩:=h
  simp only [fzO]at hx
  cases hb:Nat.beq j k with
  |false=>rw [hb]at hx;cases hx;exact⟨_,by simp only [c0];exact⟨trivial,hz.R _ _ (a1i hb) h⟩,a5G (by simpa [ment]using hb),by simpa [ment]using hb⟩
  |true=>
   have:=r6 hb;subst this
   rw [hb]at hx
   simp only at hx
   split at hx
   · cases hx
     exact⟨.v (j2 H j),by simp only [c0];exact⟨_,rfl,hz.row _ _ _ _ rfl⟩,rfl,rfl⟩
   · cases hx
 | .osl j o z n c,s,x',h,hx=>by
  simp only [c0]at h
  obtain⟨rfl,h⟩:=h
  simp only [fzO]at hx
  cases hb:Nat.beq j k with
  |false=>rw [hb]at hx;cases hx;exact⟨_,by simp only [c0];exact⟨trivial,hz.R _ _ (a1i hb) h⟩,a5G (by simpa [ment]using hb),by simpa [ment]using hb⟩
  |true=>
   have:=r6 hb;subst this
   rw [hb]at hx
   simp only at hx
   split at hx
   · split at hx
     · rename_i l hl hnc hnm
       cases hx
       obtain⟨hfl,hrv,b,xs,h1,h2,h3,h4⟩:=hz.blk _ _ rfl
       obtain⟨g1,g2,g3⟩:=h3.part hl
       refine⟨.v (.slice (some ⟨b,o,none⟩) n c), ?_,by simp [den,h1,hrv,b0o,undef],rfl⟩
       simp only [c0,Rep]
       have hll:=(b1c hl).2.1
       rw [b4C]at hll
       refine⟨_,rfl,_,c,rfl,Nat.le_of_ble_eq_true hnc,by have:=Nat.le_of_ble_eq_true hnm;omega,g2,a5X hfl fun d hd=>List.mem_of_mem_drop (List.mem_of_mem_take (hll▸hd)), .inr ⟨b,o,_,rfl,h2,g1,fun i hi=> ?_⟩⟩
       rw [h4 (o+i) (by omega),List.getElem?_take,if_pos hi,List.getElem?_drop]
     · cases hx
   · cases hx
 | .agg l,s,x',h,hx=>by
  simp only [c0]at h
  obtain⟨cs,h1,h2,h3⟩:=h
  simp only [fzO]at hx
  split at hx
  · rename_i l' hl
    cases hx
    obtain⟨cs',g1,g2,g3⟩:=a2h hz l cs l' h2 hl
    refine⟨.agg cs',by simp only [c0];exact⟨cs',rfl,g1,b9T hl h3⟩, ?_,by simpa [ment]using g3⟩
    cases s<;>simp [a2T]at h1
    · rename_i y;cases y<;>simp at h1
      subst h1
      rw [G9]at g2
      simp [den,g2]
    · subst h1;simp [den,g2]
  · cases hx
 | .tup l,s,x',h,hx=>by
  simp only [c0]at h
  simp only [fzO]at hx
  split at hx
  · rename_i l' hl
    cases hx
    rcases h with⟨cs,rfl,h2⟩|⟨a,rfl,h2⟩
    · obtain⟨cs',g1,g2,g3⟩:=a2h hz l cs l' h2 hl
      exact⟨.tup cs',by simp only [c0];exact .inl ⟨cs',rfl,g1⟩,by simp [den,g2],by simpa [ment]using g3⟩
    · obtain⟨cs',g1,g2,g3⟩:=a2h hz l _ l' h2 hl
      rw [G9]at g2
      exact⟨.tup cs',by simp only [c0];exact .inl ⟨cs',rfl,g1⟩,by simp [den,g2],by simpa [ment]using g3⟩
  · cases hx
 | .fn f a b,s,x',h,hx=>by
  simp only [c0]at h
  simp only [fzO]at hx
  split at hx
  · rename_i a' b' ha hb
    cases hx
    rcases h with⟨p,q,rfl,h2,h3⟩|⟨p,q,rfl,h2,h3⟩
    · obtain⟨p',g1,g2,g3⟩:=a2h hz a p a' h2 ha
      obtain⟨q',g4,g5,g6⟩:=a2h hz b q b' h3 hb
      exact⟨.fn f p' q',by simp only [c0];exact .inl ⟨p',q',rfl,g1,g4⟩,by simp [den,g2,g5],by simp only [ment,g3,g6]⟩
    · obtain⟨p',g1,g2,g3⟩:=a2h hz a _ a' h2 ha
      obtain⟨q',g4,g5,g6⟩:=a2h hz b _ b' h3 hb
      rw [G9]at g2 g5
      exact⟨.fn f p' q',by simp only [c0];exact .inl ⟨p',q',rfl,g1,g4⟩,by simp [den,g2,g5],by simp only [ment,g3,g6]⟩
  · cases hx
 | .mp l,s,x',h,hx=>by
  simp only [fzO]at hx;cases hx
  simp only [c0]at h⊢
  obtain⟨y,rfl,h⟩:=h
  exact⟨.v y,⟨y,rfl,Rep.mono (fun b hb=>⟨hz.ok b hb,rfl⟩) _ _ h⟩,rfl,rfl⟩
 | .und,s,x',h,hx=>by
  simp only [fzO]at hx;cases hx
  simp only [c0]at h
  subst h
  exact⟨.v undef,by simp only [c0],rfl,rfl⟩
 | .bad,_,_,_,hx=>by simp [fzO]at hx
theorem a2h (hz:c0H ok ok' R R' H w k e):∀(l:List D) (r:List SV) (l':List D),b8 ok w R l r→fzL k e l=some l'→∃r',b8 ok' w R' l' r'∧d7 (L0 k H) r'=d7 H r∧H5 k r'=false
 | [], [],l',_,hx=>by simp only [fzL]at hx;cases hx;exact⟨[],trivial,rfl,rfl⟩
 |d::l,y::r,l',h,hx=>by
  simp only [b8]at h
  simp only [fzL]at hx
  split at hx
  · rename_i d' l'' hd hl
    cases hx
    obtain⟨s',g1,g2,g3⟩:=b5Q hz d y d' h.1 hd
    obtain⟨r',g4,g5,g6⟩:=a2h hz l r l'' h.2 hl
    exact⟨s'::r',⟨g1,g4⟩,by simp [d7,g2,g5],by simp only [H5,g3,g6]⟩
  · cases hx
 | [],_::_,_,h,_=>by simp [b8]at h
 |_::_, [],_,h,_=>by simp [b8]at h
end
theorem b6W (hz:c0H ok ok' R R' H w k e):∀(l:List D) (r:List SV),b8 ok w R l r→∃r',b8 ok' w R' (fzC k e l) r'∧H5 k r'=false∧∀xs,j0 H r xs→j0 (L0 k H) r' xs
 | [], [],_=>⟨[],trivial,rfl,fun xs h=>by cases xs with
  |nil=>trivial
  |cons=>simp [j0]at h⟩
 |d::l,y::r,h=>by
  simp only [b8]at h
  obtain⟨r',g4,g5,g6⟩:=b6W hz l r h.2
  simp only [fzC,fzG]
  cases hd:fzO k e d with
  |none=>exact⟨.bad::r',⟨by simp only [c0],g4⟩,by simp only [H5,ment,g5],fun xs hc=>by
   cases xs with
   |nil=>simp [j0]at hc
   |cons x xs=>simp only [j0]at hc;exact⟨.inl rfl,g6 xs hc.2⟩⟩
  |some d'=>
   obtain⟨s',g1,g2,g3⟩:=b5Q hz d y d' h.1 hd
   have hne:d≠ .bad:=fun e=>by subst e;simp [fzO]at hd
   have hy:=h.1.ne hne
   refine⟨s'::r',⟨g1,g4⟩,by simp only [H5,g3,g5],fun xs hc=> ?_⟩
   cases xs with
   |nil=>simp [j0]at hc
   |cons x xs=>
    simp only [j0]at hc
    refine⟨?_,g6 xs hc.2⟩
    rcases hc.1 with h|h
    · exact absurd h hy
    · exact .inr (by rw [g2];exact h)
 | [],_::_,h=>by simp [b8]at h
 |_::_, [],h=>by simp [b8]at h
theorem b9N {T:List (Nat×D)} {d:Nat} {x:D} (h:n7 (fzT k e T) d=some x):∃y,n7 T d=some y∧x=fzG k e y:=by
 induction T with
 |nil=>simp [n7,fzT]at h
 |cons q T ih=>
  obtain⟨d',s'⟩:=q
  simp only [n7,fzT]at h⊢
  cases hb:Nat.beq d' d with
  |true=>rw [hb]at h;cases h;exact⟨_,rfl,rfl⟩
  |false=>rw [hb]at h;exact ih h
theorem c0v {Hd:Hy} {j:Nat} {x:E} (h:i6 (fzH k e Hd) j=some x):j≠k∧∃y,i6 Hd j=some y∧x=fzE k e y:=by
 induction Hd with
 |nil=>simp [i6,fzH]at h
 |cons q Hd ih=>
  obtain⟨i,s'⟩:=q
  simp only [fzH]at h
  simp only [i6]
  cases hb:Nat.beq i k with
  |true=>
   rw [hb]at h
   obtain⟨h1,y,h2,h3⟩:=ih h
   have:=r6 hb;subst this
   rw [Q1 (Ne.symm h1)]
   exact⟨h1,y,h2,h3⟩
  |false=>
   rw [hb]at h
   simp only [i6]at h
   cases hb2:Nat.beq i j with
   |true=>rw [hb2]at h;cases h;exact⟨by have:=r6 hb2;subst this;exact a1i hb,_,rfl,rfl⟩
   |false=>rw [hb2]at h;exact ih h
end
end Go.Sx
namespace Go.Sx
open Go Go.RowKit
mutual
theorem a2j {ok:Nat→Prop} {w:World} {R:Bool→Nat→Prop} {H:Hp}:∀(x:D) (s:SV),c0 ok w R x s→U3 x=true→Rep ok w x (den H s)
 | .v x,s,h,_=>by simp only [c0]at h;rw [h.1];simp only [Rep,den];exact⟨trivial,h.2⟩
 | .lst z n l,s,h,_=>by simp only [c0]at h;obtain⟨y,rfl,h⟩:=h;exact h
 | .ptr l o,s,h,_=>by simp only [c0]at h;obtain⟨y,rfl,h⟩:=h;exact h
 | .agg l,s,h,hc=>by
  simp only [c0]at h
  obtain⟨cs,h1,h2,h3⟩:=h
  simp only [U3]at hc
  split at hc
  · rename_i hcl
    have:=E5 (H:=H) l cs h2 hcl
    simp only [Rep]
    cases s<;>simp [a2T]at h1
    · rename_i y;cases y<;>simp at h1
      subst h1
      rw [G9]at this
      exact⟨_,rfl,this,h3⟩
    · subst h1;exact⟨_,rfl,by simpa using this,h3⟩
  · cases hc
 | .tup l,s,h,hc=>by
  simp only [c0]at h
  simp only [U3]at hc
  simp only [Rep]
  rcases h with⟨cs,rfl,h⟩|⟨a,rfl,h⟩
  · exact⟨_,rfl,by simpa using E5 (H:=H) l cs h hc⟩
  · have:=E5 (H:=H) l _ h hc
    rw [G9]at this
    exact⟨_,rfl,this⟩
 | .mp l,s,h,hc=>by
  simp only [c0]at h
  obtain⟨y,rfl,h⟩:=h
  exact h
 | .fn f a b,s,h,hc=>by
  simp only [c0]at h
  simp only [U3]at hc
  split at hc
  · rename_i ha
    simp only [Rep]
    rcases h with⟨p,q,rfl,h2,h3⟩|⟨p,q,rfl,h2,h3⟩
    · exact⟨_,_,rfl,by simpa using E5 (H:=H) a p h2 ha,by simpa using E5 (H:=H) b q h3 hc⟩
    · have g1:=E5 (H:=H) a _ h2 ha
      have g2:=E5 (H:=H) b _ h3 hc
      rw [G9]at g1 g2
      exact⟨_,_,rfl,g1,g2⟩
  · cases hc
 | .own _ _,_,_,h=>by simp [U3]at h
 | .ownx _ _,_,_,h=>by simp [U3]at h
 | .row _ _,_,_,h=>by simp [U3]at h
 | .elr _ _ _ _,_,_,h=>by simp [U3]at h
 | .osl _ _ _ _ _,_,_,h=>by simp [U3]at h
 | .und,_,_,h=>by simp [U3]at h
 | .bad,_,_,h=>by simp [U3]at h
theorem E5 {ok:Nat→Prop} {w:World} {R:Bool→Nat→Prop} {H:Hp}:∀(l:List D) (r:List SV),b8 ok w R l r→M7 l=true→c7 ok w l (d7 H r)
 | [], [],_,_=>trivial
 |d::l,y::r,h,hc=>by
  simp only [b8]at h
  simp only [M7]at hc
  split at hc
  · rename_i hd
    exact⟨a2j d y h.1 hd,E5 l r h.2 hc⟩
  · cases hc
 | [],_::_,h,_=>by simp [b8]at h
 |_::_, [],h,_=>by simp [b8]at h
end
theorem a8U {ok:Nat→Prop} {w:World} {R:Bool→Nat→Prop}:∀(l:List D) (r:List SV),b8 ok w R l r→M7 l=true→ .bad∉r
 | [], [],_,_=>by simp
 |d::l,y::r,h,hc=>by
  simp only [b8]at h
  simp only [M7]at hc
  split at hc
  · rename_i hd
    have h2:=a8U l r h.2 hc
    intro hm
    rcases List.mem_cons.1 hm with e|hm
    · subst e
      cases d<;>simp_all [c0,U3,a2T]
    · exact h2 hm
  · cases hc
 | [],_::_,h,_=>by simp [b8]at h
 |_::_, [],h,_=>by simp [b8]at h
section
variable {A : Nat → Prop} {Xx : Cx} {w : World} {st : St} {sy : Sy}
def b9t (st st':St):Prop:=∀d s,s7 st'.T d=some s→s= .bad∨∃s0,s7 st.T d=some s0∧s0≠ .bad∧den st'.H s=den st.H s0
theorem b2v {α:Type} {p:α→Prop} (d:α):∃x,(p x∨¬(∃y,p y)∧x=d):=by
 by_cases h:∃y,p y
 · obtain⟨y,hy⟩:=h;exact⟨y, .inl hy⟩
 · exact⟨d, .inr ⟨h,rfl⟩⟩
theorem b2y {g:Nat→SV→SV} {T:List (Nat×SV)} {d:Nat}:s7 (T.map fun p=>(p.1,g p.1 p.2)) d=(s7 T d).map (g d):=by
 induction T with
 |nil=>rfl
 |cons x T ih=>
  obtain⟨i,s⟩:=x
  simp only [List.map_cons,s7]
  cases hb:Nat.beq i d with
  |true=>have:=r6 hb;subst this;rfl
  |false=>exact ih
theorem b4l {g:Nat→SV→SV} {T:List (Nat×SV)} {j:Nat} (h:∀d s,ment j (g d s)=false):o8 j (T.map fun p=>(p.1,g p.1 p.2))=true:=by
 induction T with
 |nil=>rfl
 |cons x T ih=>simp only [List.map_cons,o8,h];exact ih
theorem b4x {g:Nat→List SV→List SV} {H:Hp} {j:Nat} (h:∀i cs,H5 j (g i cs)=false):B4 j (a1k g H)=true:=by
 induction H with
 |nil=>rfl
 |cons x H ih=>
  obtain⟨i,e⟩:=x
  cases e with
  |blk b cs ty=>simp only [a1k,B4,h];exact ih
  |row v n xs sz ty=>simp only [a1k,B4];exact ih
theorem b0O {H:Hp}:∀(xs:List Value),j0 H (xs.map fun _=>SV.bad) xs
 | []=>trivial
 |x::xs=>⟨.inl rfl,b0O xs⟩
theorem b8p {α:Type} (k:Nat) (l:List α):H5 k (l.map fun _=>SV.bad)=false:=by
 induction l with
 |nil=>rfl
 |cons x l ih=>simp only [List.map_cons,H5,ment];exact ih
def a6j (H' H:Hp):Prop:=∀j e,(j,e)∈H'→∃e0,(j,e0)∈H∧∀b,b∈bsE e→b∈bsE e0
theorem a6j.bs {H' H:Hp} (h:a6j H' H) (b:Nat) (hb:b∈bs H'):b∈Sx.bs H:=by
 obtain⟨j,e,h1,h2⟩:=u1.1 hb
 obtain⟨e0,h3,h4⟩:=h j e h1
 exact u1.2 ⟨j,e0,h3,h4 b h2⟩
theorem a6j.refl (H:Hp):a6j H H:=fun _ e h=>⟨e,h,fun _ h=>h⟩
theorem a6j.trans {A B C:Hp} (h:a6j A B) (k:a6j B C):a6j A C:=fun j e hm=>by
 obtain⟨e1,h1,h2⟩:=h j e hm
 obtain⟨e2,h3,h4⟩:=k j e1 h1
 exact⟨e2,h3,fun b hb=>h4 b (h2 b hb)⟩
theorem c0U (hA:∀b,(Xx.w0.heap.size≤b∨b∈Xx.bor)→A b) (hc:Cls Xx st.H st.nk w w) (hat:At st w) (hs:Sim A st sy) {k:Nat} {e:E} (hf:i6 sy.H k=some e) (hok:okE e=true):
 ∃st',Cls Xx st'.H st'.nk w w∧At st' w∧Sim A st' ⟨fzT k e sy.T,fzH k e sy.H,sy.nk⟩∧a6j st'.H st.H∧st'.nk=st.nk∧b9t st st'∧
  ∀l r l',b8 (okS A st) w (u9 st) l r→fzL k e l=some l'→∃r',b8 (okS A st') w (u9 st') l' r'∧d7 st'.H r'=d7 st.H r:=by
 obtain⟨T,H,nk,ws,lo,iv⟩:=st
 obtain⟨h1,h2,h3⟩:=hat
 simp only at h1 h2 h3 hc
 subst h1 h2 h3
 obtain⟨e',hf',hr⟩:=hs.H k e hf
 simp only at hf'
 have hmem:=j3 hf'
 have hkb:∀b,b∈bsE e'→b∉bs (L0 k H):=by
  intro b hb hb2
  obtain⟨j,x,hj,hbx⟩:=u1.1 hb2
  obtain⟨hj1,hj2⟩:=a2n hj
  exact a2z hc.nd hc.keys hmem hj1 (Ne.symm hj2) hb hbx
 have hsubl:=c2s (b4r (k:=k) H)
 --what is allowed now
 let ok':Nat→Prop:=fun b=>(b<ws.heap.size∧b6R (L0 k H) b)∧A b
 let R':Bool→Nat→Prop:=fun q j=>j<nk∧(q=true→∃v n xs sz ty,c6 (L0 k H) j=some (.row v n xs sz ty))
 have hz:c0H (okS A ⟨T,H,nk,ws,ws.heap.size, []⟩) ok' (u9 ⟨T,H,nk,ws,ws.heap.size, []⟩) R' H ws k e:=by
  have hok1:∀b,okS A ⟨T,H,nk,ws,ws.heap.size, []⟩ b→ok' b:=fun b h=>⟨⟨h.2.1,fun c hcb=>h.2.2 c (hsubl.subset hcb)⟩,h.1.2⟩
  have hkok:∀b,b∈bsE e'→ok' b:=fun b hb=>⟨⟨b4H (hc.own k e' hmem) hb,fun c hcb e=>hkb b hb (e▸hcb)⟩,hA b (by
   rcases hc.lb b (u1.2 ⟨k,e',hmem,hb⟩)with h|h
   · exact .inr h
   · exact .inl h)⟩
  refine⟨hok1,fun q j hj hq=>⟨hq.1,fun h=> ?_⟩,fun cs ty he=> ?_,fun z n l ty he=> ?_⟩
  · rw [a4I hj];exact hq.2 h
  · subst he
    cases e' with
    |row=>exact hr.elim
    |blk b cs' ty'=>
     simp only [okE]at hok
     split at hok
     · rename_i hno
       have hrep:=E5 (H:=H) _ _ hr.2 hno
       obtain⟨ys,hy,hh⟩:=hc.blk hf'
       have hys:=b7u hy (a8U _ _ hr.2 hno)
       rw [←hys]at hrep
       refine⟨hok,by simp [j2,hf'],b,ys,a4u hf',hkok b (by simp [bsE]),c7.mono (fun b hb=>⟨hok1 b hb,rfl⟩) _ _ hrep,fun j hj=> ?_⟩
       rw [a4b hh];simp
     · cases hok
  · subst he
    cases e' with
    |blk=>exact hr.elim
    |row v n' xs z' ty'=>
     obtain⟨rfl,rfl,rfl,hrep,hfl,hlen⟩:=hr
     have hown:=hc.row hf'
     have hrv:j2 H k=v:=by simp [j2,hf']
     rw [hrv]
     simp only [Rep]
     rcases hown.2 with⟨rfl,rfl⟩|⟨g,cap,cur,rfl,hb,hg,hnc,hcm,_⟩
     · exact⟨none,0,rfl,Nat.le_refl _,by simp,hlen,hfl, .inl rfl⟩
     · refine⟨_,cap,rfl,hnc,by simp only [maxLen]at hcm;omega,hlen,hfl, .inr ⟨g,0,xs,rfl,hkok g (by simp [bsE,j5]),c7.mono (fun b hb=>⟨hok1 b hb,rfl⟩) _ _ hrep,fun j hj=> ?_⟩⟩
       have hxl:=hrep.length
       have hlt:j<xs.length:=by omega
       have:=hown.cells (g:=g) rfl j (xs[j]) (by simp [hlt])
       rw [N4]at this
       rw [this];simp [hlt]
 --the slots
 have hg:∀d s,∃s',((∃x x',n7 sy.T d=some x∧fzO k e x=some x'∧c0 ok' ws R' x' s'∧den (L0 k H) s'=den H s∧s≠ .bad∧ment k s'=false)∨
  ¬(∃s',∃x x',n7 sy.T d=some x∧fzO k e x=some x'∧c0 ok' ws R' x' s'∧den (L0 k H) s'=den H s∧s≠ .bad∧ment k s'=false)∧s'=SV.bad):=fun d s=>b2v (SV.bad)
 let g:Nat→SV→SV:=fun d s=>(hg d s).choose
 have hgs:∀d s,_:=fun d s=>(hg d s).choose_spec
 --the cells
 have hq:∀j cs,∃cs',((∃dcs ty,i6 sy.H j=some (.blk dcs ty)∧b8 ok' ws R' (fzC k e dcs) cs'∧H5 k cs'=false∧∀xs,j0 H cs xs→j0 (L0 k H) cs' xs)∨
  ¬(∃cs',∃dcs ty,i6 sy.H j=some (.blk dcs ty)∧b8 ok' ws R' (fzC k e dcs) cs'∧H5 k cs'=false∧∀xs,j0 H cs xs→j0 (L0 k H) cs' xs)∧cs'=cs.map fun _=>SV.bad):=fun j cs=>b2v _
 let q:Nat→List SV→List SV:=fun j cs=>(hq j cs).choose
 have hqs:∀j cs,_:=fun j cs=>(hq j cs).choose_spec
 have hR'lt:∀ {p j},R' p j→j<nk:=fun h=>h.1
 have hgm:∀j,nk≤j→∀d s,ment j (g d s)=false:=by
  intro j hj d s
  rcases hgs d s with⟨x,x',_,_,h3,_⟩|⟨_,h⟩
  · exact h3.ment (fun p hp=>by have:=hR'lt hp;omega)
  · show ment j (hg d s).choose=false
    rw [h];rfl
 have hqm:∀j,nk≤j→∀i cs,H5 j (q i cs)=false:=by
  intro j hj i cs
  rcases hqs i cs with⟨dcs,ty,_,h3,_⟩|⟨_,h⟩
  · exact h3.ment (fun p hp=>by have:=hR'lt hp;omega)
  · show H5 j (hq i cs).choose=false
    rw [h];exact b8p _ _
 have hden:∀s,den (a1k q (L0 k H)) s=den (L0 k H) s:=fun s=>a5E (fun j=>c0P j) s
 have hcell:∀l xs,j0 (L0 k H) l xs→j0 (a1k q (L0 k H)) l xs:=fun l xs h=>a0y h fun s _ _=>hden s
 have hksub:a6j (a1k q (L0 k H)) H:=fun j x hm=>by
  rcases mem_map hm with⟨b,cs,ty,h1,rfl⟩|⟨h1,v,n,xs,sz,ty,rfl⟩
  · exact⟨_,(a2n h1).1,fun _ h=>h⟩
  · exact⟨_,(a2n h1).1,fun _ h=>h⟩
 have hbs:∀b,b∈bs (a1k q (L0 k H))→b∈bs H:=hksub.bs
 have hks:∀b,okS A ⟨T.map fun p=>(p.1,g p.1 p.2),a1k q (L0 k H),nk,ws,ws.heap.size, []⟩ b↔ok' b:=by
  intro b
  constructor
  · intro h;exact⟨⟨h.2.1,fun c hcb=>h.2.2 c (by rw [b5P];exact hcb)⟩,h.1.2⟩
  · intro h;exact⟨⟨.inl h.1.1,h.2⟩,h.1.1,fun c hcb=>h.1.2 c (by simp only [b5P]at hcb;exact hcb)⟩
 have hkk:∀p j,R' p j→u9 ⟨T.map fun p=>(p.1,g p.1 p.2),a1k q (L0 k H),nk,ws,ws.heap.size, []⟩ p j:=by
  intro p j h
  refine⟨h.1,fun hp=> ?_⟩
  obtain⟨v,n,xs,sz,ty,h2⟩:=h.2 hp
  simp only
  rw [a8E,h2]
  exact⟨_,_,_,_,_,rfl⟩
 have up:∀x s,c0 ok' ws R' x s→c0 (okS A ⟨T.map fun p=>(p.1,g p.1 p.2),a1k q (L0 k H),nk,ws,ws.heap.size, []⟩) ws (u9 ⟨T.map fun p=>(p.1,g p.1 p.2),a1k q (L0 k H),nk,ws,ws.heap.size, []⟩) x s:=
  fun x s h=>c0.mono (fun b hb=>⟨(hks b).2 hb,rfl⟩) hkk _ _ h
 have upL:∀x s,b8 ok' ws R' x s→b8 (okS A ⟨T.map fun p=>(p.1,g p.1 p.2),a1k q (L0 k H),nk,ws,ws.heap.size, []⟩) ws (u9 ⟨T.map fun p=>(p.1,g p.1 p.2),a1k q (L0 k H),nk,ws,ws.heap.size, []⟩) x s:=
  fun x s h=>b8.mono (fun b hb=>⟨(hks b).2 hb,rfl⟩) hkk _ _ h
 refine⟨⟨T.map fun p=>(p.1,g p.1 p.2),a1k q (L0 k H),nk,ws,ws.heap.size, []⟩, ?_,⟨rfl,rfl,rfl⟩, ?_,hksub,rfl, ?_, ?_⟩
 · refine⟨Fx.refl _ _,hc.fx0,fun j x hm=> ?_,by simp only [b5P];exact hsubl.nodup hc.nd,fun b hb=>hc.lb b (hbs b hb),by simp only [b8N];exact((b4r H).map _).nodup hc.keys,fun j x hm=> ?_⟩
   · rcases mem_map hm with⟨b,cs,ty,h1,rfl⟩|⟨h1,v,n,xs,sz,ty,rfl⟩
     · obtain⟨h2,h3⟩:=a2n h1
       obtain⟨xs,h4,h5⟩:=hc.own j _ h2
       refine⟨xs,hcell _ _ ?_,h5⟩
       rcases hqs j cs with⟨dcs,ty',_,_,_,h6⟩|⟨_,h6⟩
       · exact h6 xs h4
       · show j0 _ (hq j cs).choose xs
         rw [h6]
         have hl:=a6o h4
         have:(cs.map fun _=>SV.bad)=(xs.map fun _=>SV.bad):=by
          simp only [List.map_const',hl]
         rw [this];exact b0O xs
     · exact hc.own j _ (a2n h1).1
   · rcases mem_map hm with⟨b,cs,ty,h1,rfl⟩|⟨h1,_⟩
     · exact hc.lt j _ (a2n h1).1
     · exact hc.lt j _ (a2n h1).1
 · refine⟨fun d x hx=> ?_,fun j x hx=> ?_,hs.nk,fun j hj=>b4l (hgm j hj),fun j hj=>b4x (hqm j hj)⟩
   · obtain⟨y,hy,rfl⟩:=b9N hx
     unfold fzG
     cases hfz:fzO k e y with
     |none=>exact .inl rfl
     |some x'=>
      right
      have hyne:y≠ .bad:=fun e=>by subst e;simp [fzO]at hfz
      rcases hs.T d y hy with h|⟨s,h1,h2⟩
      · exact absurd h hyne
      · simp only at h1 h2
        refine⟨g d s,by simp only [b2y,h1];rfl,up _ _ ?_⟩
        rcases hgs d s with⟨y2,x2,h3,h4,h5,_⟩|⟨h3,_⟩
        · rw [hy]at h3;cases h3
          rw [hfz]at h4;cases h4
          exact h5
        · exfalso
          obtain⟨s',g1,g2,g3⟩:=b5Q hz y s x' h2 hfz
          exact h3 ⟨s',y,x',hy,hfz,g1,g2,h2.ne hyne,g3⟩
   · obtain⟨hjk,y,hy,rfl⟩:=c0v hx
     obtain⟨e1,h1,h2⟩:=hs.H j y hy
     simp only at h1 h2
     simp only
     rw [a8E,a4I hjk,h1]
     cases y with
     |blk dcs ty=>
      cases e1 with
      |row=>exact h2.elim
      |blk b cs ty'=>
       obtain⟨rfl,h2⟩:=h2
       refine⟨_,rfl, ?_⟩
       simp only [fzE,a1R]
       refine⟨trivial,upL _ _ ?_⟩
       rcases hqs j cs with⟨dcs',ty',h3,h4,_⟩|⟨h3,_⟩
       · rw [hy]at h3;cases h3;exact h4
       · exfalso
         obtain⟨r',g1,g2,g3⟩:=b6W hz dcs cs h2
         exact h3 ⟨r',dcs,ty,hy,g1,g2,g3⟩
     |row z n l ty=>
      cases e1 with
      |blk=>exact h2.elim
      |row v n' xs z' ty'=>
       refine⟨_,rfl, ?_⟩
       simp only [a1R]at h2
       simp only [fzE,a1R]
       exact⟨h2.1,h2.2.1,h2.2.2.1,c7.mono (fun b hb=>⟨(hks b).2 (hz.ok b hb),rfl⟩) _ _ h2.2.2.2.1,h2.2.2.2.2⟩
 · intro d s hd
   simp only [b2y]at hd
   cases hl:s7 T d with
   |none=>rw [hl]at hd;cases hd
   |some s0=>
    rw [hl]at hd
    simp only [Option.map_some,Option.some.injEq]at hd
    rcases hgs d s0 with⟨x,x',h3,h4,h5,h6,h7,_⟩|⟨_,h3⟩
    · right
      refine⟨s0,rfl,h7, ?_⟩
      simp only
      rw [hden,←hd];exact h6
    · left;rw [←hd];exact h3
 · intro l r l' hl hfl
   obtain⟨r',g1,g2,_⟩:=a2h hz l r l' hl hfl
   refine⟨r',upL _ _ g1, ?_⟩
   simp only
   rw [←g2,N3,N3]
   exact List.map_congr_left fun s _=>hden s
end
end Go.Sx
namespace Go.Sx
open Go Go.RowKit
mutual
theorem a7y {ok ok':Nat→Prop} {w w':World}:∀(x:D) (y:Value),Rep ok w x y→a3w x=true→Rep ok' w' x y
 | .v x,y,h,_=>h
 | .agg l,y,h,hc=>by
  simp only [Rep]at h⊢
  obtain⟨a,h1,h2,h3⟩:=h
  exact⟨a,h1,a8v l _ h2 (by simpa [a3w]using hc),h3⟩
 | .tup l,y,h,hc=>by
  simp only [Rep]at h⊢
  obtain⟨a,h1,h2⟩:=h
  exact⟨a,h1,a8v l _ h2 (by simpa [a3w]using hc)⟩
 | .lst _ _ _,_,_,h=>by simp [a3w]at h
 | .ptr _ _,_,_,h=>by simp [a3w]at h
 | .mp _,_,_,h=>by simp [a3w]at h
 | .fn _ _ _,_,_,h=>by simp [a3w]at h
 | .own _ _,_,_,h=>by simp [a3w]at h
 | .ownx _ _,_,_,h=>by simp [a3w]at h
 | .row _ _,_,_,h=>by simp [a3w]at h
 | .elr _ _ _ _,_,_,h=>by simp [a3w]at h
 | .osl _ _ _ _ _,_,_,h=>by simp [a3w]at h
 | .und,_,_,h=>by simp [a3w]at h
 | .bad,_,_,h=>by simp [a3w]at h
theorem a8v {ok ok':Nat→Prop} {w w':World}:∀(l:List D) (r:List Value),c7 ok w l r→b4c l=true→c7 ok' w' l r
 | [], [],_,_=>trivial
 |d::l,y::r,h,hc=>by
  simp only [c7]at h
  simp only [b4c]at hc
  split at hc
  · rename_i hd;exact⟨a7y d y h.1 hd,a8v l r h.2 hc⟩
  · cases hc
 | [],_::_,h,_=>by simp [c7]at h
 |_::_, [],h,_=>by simp [c7]at h
end
section
variable {A : Nat → Prop} {Xx : Cx} {X : Cy} {w0 : World} {bor : List Nat} {st : St} {sy : Sy} {a : Act} {w : World}
theorem b5W {s1 s2 s3:St} (h:b9t s1 s2) (h':b9t s2 s3):b9t s1 s3:=by
 intro d s hd
 rcases h' d s hd with e|⟨t,h1,h2,h3⟩
 · exact .inl e
 · rcases h d t h1 with e|⟨u,h4,h5,h6⟩
   · exact absurd e h2
   · exact .inr ⟨u,h4,h5,by rw [h3,h6]⟩
theorem a3I (hA:∀b,(Xx.w0.heap.size≤b∨b∈Xx.bor)→A b):∀(ks:List Nat) {st:St} {sy sy':Sy} {l l':List D} {r:List SV},Cls Xx st.H st.nk w w→At st w→Sim A st sy→b8 (okS A st) w (u9 st) l r→a3U ks sy l=some (sy',l')→
 ∃st' r',Cls Xx st'.H st'.nk w w∧At st' w∧Sim A st' sy'∧a6j st'.H st.H∧b9t st st'∧b8 (okS A st') w (u9 st') l' r'∧d7 st'.H r'=d7 st.H r
 | [],st,sy,sy',l,l',r,hc,hat,hs,hl,h=>by
  simp only [a3U]at h;cases h
  exact⟨st,r,hc,hat,hs,a6j.refl _,fun d s h=>by
   by_cases hb:s= .bad
   · exact .inl hb
   · exact .inr ⟨s,h,hb,rfl⟩,hl,rfl⟩
 |k::ks,st,sy,sy',l,l',r,hc,hat,hs,hl,h=>by
  obtain⟨T,H,nk⟩:=sy
  simp only [a3U]at h
  split at h
  · rename_i e he
    split at h
    · rename_i l1 hok hfl
      simp only [b6s,b6J]at h
      obtain⟨st1,c1,a1,s1,b1,n1,o1,f1⟩:=c0U hA hc hat hs he hok
      obtain⟨r1,g1,g2⟩:=f1 l r l1 hl hfl
      obtain⟨st2,r2,c2,a2,s2,b2,o2,g3,g4⟩:=a3I hA ks c1 a1 s1 g1 h
      exact⟨st2,r2,c2,a2,s2,b2.trans b1,b5W o1 o2,g3,by rw [g4,g2]⟩
    · cases h
  · cases h
def now (st:St) (w:World):St:=⟨st.T,st.H,st.nk,w,w.heap.size, []⟩
theorem Rel.now (hr:Rel Xx st a w):Rel Xx (now st w) a w:=by
 refine⟨hr.size,hr.T,hr.dfs, ?_,Nat.le_refl _,by simp [Sx.now]⟩
 have hc:=hr.cls
 exact⟨Fx.refl _ _,hc.fx0,hc.own,hc.nd,hc.lb,hc.keys,hc.lt⟩
theorem a3x (hc:Cls Xx st.H st.nk st.w w):∀b,okS A st b→okS A (now st w) b∧w.heap[b]?=st.w.heap[b]?:=fun b hb=>
 ⟨⟨⟨.inl (Nat.lt_of_lt_of_le hb.2.1 hc.fx.size),hb.1.2⟩,Nat.lt_of_lt_of_le hb.2.1 hc.fx.size,hb.2.2⟩,hc.fx.block b hb.2.1 hb.2.2⟩
theorem Sim.now (hs:Sim A st sy) (hc:Cls Xx st.H st.nk st.w w):Sim A (now st w) sy:=by
 obtain⟨T,H,nk⟩:=sy
 exact hs.mono (a3x hc) (fun _ _ h=>h) (fun _ _ h=>h) (fun _ _ h=>h) rfl hs.fT hs.fH
theorem b8.now {l:List D} {r:List SV} (h:b8 (okS A st) st.w (u9 st) l r) (hc:Cls Xx st.H st.nk st.w w):b8 (okS A (now st w)) w (u9 (now st w)) l r:=b8.mono (a3x hc) (fun _ _ h=>h) _ _ h
theorem Rel.past {w':World} (hr:Rel Xx st a w) (hb:Below w.heap.size w w'):Rel Xx (Sx.now st w') a w':=by
 have hc:=hr.cls
 have hown:∀b,b∈bs st.H→w'.heap[b]?=w.heap[b]?:=fun b hbm=>hb.block b (hc.lt_size hbm)
 exact⟨hr.size,hr.T,hr.dfs,⟨Fx.refl _ _,hc.fx0.of_below hb,fun k e he=>O6 (hc.own k e he) fun b hbe=>hown b (u1.2 ⟨k,e,he,hbe⟩),hc.nd,hc.lb,hc.keys,hc.lt⟩,Nat.le_refl _,by simp [Sx.now]⟩
theorem b3M {w':World} (hc:Cls Xx st.H st.nk st.w w) (hb:Below w.heap.size w w'):∀b,okS A st b→okS A (now st w') b∧w'.heap[b]?=st.w.heap[b]?:=fun b h=>
 ⟨⟨⟨.inl (Nat.lt_of_lt_of_le h.2.1 (Nat.le_trans hc.fx.size hb.size)),h.1.2⟩,Nat.lt_of_lt_of_le h.2.1 (Nat.le_trans hc.fx.size hb.size),h.2.2⟩,by
  rw [hb.block b (Nat.lt_of_lt_of_le h.2.1 hc.fx.size)];exact hc.fx.block b h.2.1 h.2.2⟩
theorem Sim.past {w':World} (hs:Sim A st sy) (hc:Cls Xx st.H st.nk st.w w) (hb:Below w.heap.size w w'):Sim A (Sx.now st w') sy:=by
 obtain⟨T,H,nk⟩:=sy
 exact hs.mono (b3M hc hb) (fun _ _ h=>h) (fun _ _ h=>h) (fun _ _ h=>h) rfl hs.fT hs.fH
def LvY (A:Nat→Prop) (Xx:Cx) (H:Hp) (w:World) (KY:Sy→Prop) (a':Act) (w':World):Prop:=∃st' sy',KY sy'∧Sim A st' sy'∧Lv Xx H w st' a' w'
theorem a4n (v:Value):(j5 v).Nodup:=by unfold j5;split<;>simp
theorem b2n {k b:Nat} {e e':Ent}:∀ {H:Hp},(bs H).Nodup→c6 H k=some e→b∈bsE e→b∉bsE e'→b∉bs (Y0 H k e')
 | [],_,h,_,_=>by simp [c6]at h
 |(j,ej)::H,hn,h,hb,hb'=>by
  simp only [bs,List.nodup_append]at hn
  simp only [c6]at h
  simp only [Y0]
  cases hj:Nat.beq j k with
  |true=>
   rw [hj]at h;cases h
   simp only [bs,List.mem_append,not_or]
   exact⟨hb',fun hm=>hn.2.2 b hb b hm rfl⟩
  |false=>
   rw [hj]at h
   simp only [bs,List.mem_append,not_or]
   exact⟨fun hm=>hn.2.2 b hm b (u1.2 ⟨k,e,j3 h,hb⟩) rfl,b2n hn.2.1 h hb hb'⟩
theorem c0d {k:Nat} {v v':Value} {n n' z z' ty ty':Nat} {xs xs':List Value} {w':World} (hr:Rel Xx st a w) (hat:At st w) (hf:c6 st.H k=some (.row v n xs z ty)) (hfx:Fx (j5 v) w w') (hown:w'.ownsRow 0 ty' z' v' n' xs')
 (hb:∀b,b∈j5 v'→b∈j5 v∨w.heap.size≤b):Rel Xx ⟨Y8 k st.T,Y0 (w5 k st.H) k (.row v' n' xs' z' ty'),st.nk,w',w'.heap.size, []⟩ a w':=by
 have hsplit:∃H1 H2,st.H=H1++(k, .row v n xs z ty)::H2∧(∀e',(k,e')∉H1):=by
  have:∀H:Hp,c6 H k=some (.row v n xs z ty)→∃H1 H2,H=H1++(k, .row v n xs z ty)::H2∧(∀e',(k,e')∉H1):=by
   intro H
   induction H with
   |nil=>intro h;simp [c6]at h
   |cons x H ih=>
    obtain⟨j,e⟩:=x
    intro h
    simp only [c6]at h
    cases hb:Nat.beq j k with
    |true=>rw [hb]at h;cases h;have:=r6 hb;subst this;exact⟨[],H,rfl,by simp⟩
    |false=>
     rw [hb]at h
     obtain⟨H1,H2,rfl,h1⟩:=ih h
     refine⟨(j,e)::H1,H2,rfl,fun e' hm=> ?_⟩
     rcases List.mem_cons.1 hm with hm|hm
     · cases hm;exact a1i hb rfl
     · exact h1 e' hm
  exact this _ hf
 obtain⟨H1,H2,hH,hk1⟩:=hsplit
 have hupd:∀e,Y0 (w5 k st.H) k e=w5 k H1++(k,e)::w5 k H2:=by
  intro e
  rw [hH]
  clear hH hf
  induction H1 with
  |nil=>simp [w5,Y0]
  |cons x H1 ih=>
   obtain⟨j,ej⟩:=x
   have hj:j≠k:=fun e=>hk1 ej (by rw [e];exact List.mem_cons_self)
   simp only [List.cons_append,w5,Y0,Q1 hj]
   rw [ih fun e' hm=>hk1 e' (List.mem_cons_of_mem _ hm)]
 have hc:=hr.cls
 have hcw:Cls Xx st.H st.nk w w:=⟨Fx.refl _ _,hc.fx0,hc.own,hc.nd,hc.lb,hc.keys,hc.lt⟩
 have hnin:∀i,i∉j5 v→∀b,b∈j5 v→b≠i:=fun i hi b hb e=>hi (e▸hb)
 obtain⟨hcls,hden⟩:=hcw.grow (v':=v') (n:=n') (sz:=z') (ty:=ty') (xs:=xs') hH hk1 hown (fun i hi hn=>hfx.block i hi (hnin i (by simpa [bsE]using hn))) hfx.size hfx.os hfx.tape hfx.output (by simpa [bsE]using hb)
  (fun b hb=>hc.lb b (u1.2 ⟨k,_,j3 hf,hb⟩))
 refine⟨hr.size,fun d s hlk=> ?_,hr.dfs,by rw [hupd];exact hcls,Nat.le_refl _,by simp⟩
 rcases a8C hlk with h|⟨h,hm⟩
 · exact .inl h
 · rcases hr.T d s h with h|h
   · exact .inl h
   · right;rw [h];simp only;rw [hupd,hden s hm]
theorem b2l {k:Nat} {e:Ent}:∀ {H:Hp},c6 H k=some e→∃H1 H2,H=H1++(k,e)::H2∧(∀e',(k,e')∉H1)∧∀e',Y0 H k e'=H1++(k,e')::H2
 | [],h=>by simp [c6]at h
 |(j,ej)::H,h=>by
  simp only [c6]at h
  cases hb:Nat.beq j k with
  |true=>rw [hb]at h;cases h;have:=r6 hb;subst this;exact⟨[],H,rfl,by simp,fun e'=>by simp [Y0]⟩
  |false=>
   rw [hb]at h
   obtain⟨H1,H2,rfl,h1,h2⟩:=b2l h
   refine⟨(j,ej)::H1,H2,rfl,fun e' hm=> ?_,fun e'=>by simp only [Y0,hb,h2];rfl⟩
   rcases List.mem_cons.1 hm with hm|hm
   · cases hm;exact a1i hb rfl
   · exact h1 e' hm
theorem b7F {v:Value} {w w':World} (h:Fx (j5 v) w w') (hlt:∀b,b∈j5 v→b<w.heap.size):∃w1,Below w.heap.size w w1∧w'.heap.size=w1.heap.size∧(∀i,i∉j5 v→w'.heap[i]?=w1.heap[i]?)∧w'.os=w1.os∧w'.tape=w1.tape∧w'.output=w1.output:=by
 have hcases:j5 v= []∨∃g,j5 v= [g]:=by
  unfold j5
  split
  · exact .inr ⟨_,rfl⟩
  · exact .inl rfl
 rcases hcases with h0|⟨g,h0⟩
 · rw [h0]at h⊢
   exact⟨w',⟨h.os,h.tape,h.output,h.size,fun i hi=>h.block i hi (by simp)⟩,rfl,fun _ _=>rfl,rfl,rfl,rfl⟩
 · rw [h0]at h hlt⊢
   have hg:=hlt g (by simp)
   refine⟨{ w' with heap:=w'.heap.setIfInBounds g (w.heap[g]'hg)},⟨h.os,h.tape,h.output,by simpa using h.size,fun i hi=> ?_⟩,by simp,fun i hi=> ?_,rfl,rfl,rfl⟩
   · simp only [Array.getElem?_setIfInBounds]
     by_cases e:g=i
     · subst e
       rw [if_pos rfl,if_pos (Nat.lt_of_lt_of_le hg h.size),Array.getElem?_eq_getElem hg]
     · rw [if_neg e]
       exact h.block i hi (by simpa using e)
   · simp only [Array.getElem?_setIfInBounds]
     rw [if_neg (fun e=>hi (by simp [e]))]
theorem b9u {A:Nat→Prop} {X:Cy} {w0:World} {bor:List Nat} {st1:St} {sy1:Sy} {H0:Hp} {a:Act} {w w':World} {KY:Sy→Prop} {dst:Option Nat} {k z n ty:Nat} {v:Value} {xs:List Value} {l':List D}
 (hr1:Rel (cx X w0 bor) st1 a w) (a1:At st1 w) (s1:Sim A st1 sy1) (b1:a6j st1.H H0) (hf':c6 st1.H k=some (.row v n xs z ty)) (hk:O2 X ⟨sy1.T,a9p sy1.H k (.row z n l' ty),sy1.nk⟩ dst (.tup []) KY)
 (hrow:a7P (fun b=>okS A st1 b∧b∉j5 v) w' z n l' ty v) (hfx:Fx (j5 v) w w'):∃st' sy',KY sy'∧Sim A st' sy'∧Lv (cx X w0 bor) H0 w st' (a.put dst (.tuple #[])) w':=by
 obtain⟨T,H,nk⟩:=sy1
 obtain⟨T',H',nk',ws,lo,iv⟩:=st1
 obtain⟨h1,h2,h3⟩:=a1
 simp only at h1 h2 h3
 subst h1 h2 h3
 have c1:Cls (cx X w0 bor) H' nk' ws ws:=hr1.cls
 have hlt:∀b,b∈j5 v→b<ws.heap.size:=fun b hb=>c1.lt_size (u1.2 ⟨k,_,j3 hf',hb⟩)
 obtain⟨w1,hb1,hz1,hh1,ho1,ho2,ho3⟩:=b7F hfx hlt
 have hr2:=hr1.past hb1
 have s2:=s1.past c1 hb1
 obtain⟨xs',hown',hrp,hfl',hlen'⟩:=hrow
 simp only at hf'
 obtain⟨H1,H2,hH,hk1,hupd⟩:=b2l hf'
 have hd:∀j,bOf (H1++(k, .row v n xs' z ty)::H2) j=bOf (H1++(k, .row v n xs z ty)::H2) j∧j2 (H1++(k, .row v n xs' z ty)::H2) j=j2 (H1++(k, .row v n xs z ty)::H2) j:=by
  intro j
  simp only [bOf,j2,a0S (e:= .row v n xs' z ty) (e0:= .row v n xs z ty) hk1]
  by_cases hj:j=k
  · subst hj;simp [a0m hk1]
  · simp [hj]
 have hr3:Rel (cx X w0 bor) ⟨T',H1++(k, .row v n xs' z ty)::H2,nk',w1,w1.heap.size, []⟩ a w':=by
  have hr2':Rel (cx X w0 bor) ⟨T',H1++(k, .row v n xs z ty)::H2,nk',w1,w1.heap.size, []⟩ a w1:=by
   have:=hr2
   unfold Sx.now at this
   simp only at this
   rw [hH]at this
   exact this
  exact hr2'.swap rfl hd hz1 hh1 ho1 ho2 ho3 hown'
 have hr4:=hr3.now
 have s3:Sim A ⟨T',Y0 H' k (.row v n xs' z ty),nk',w1,w1.heap.size, []⟩ ⟨T,a9p H k (.row z n l' ty),nk⟩:=by
  refine b3z (e0:= .row v n xs z ty) s2 hf' ?_ rfl (fun _=>⟨_,_,_,_,_,rfl⟩) fun j hj=>rfl
  refine⟨rfl,rfl,rfl,c7.mono (fun b hb=>⟨?_,(hh1 b hb.2).symm⟩) _ _ hrp,hfl',hlen'⟩
  exact(b3M c1 hb1 b hb.1).1
 rw [hupd]at s3
 have s4:=s3.now hr3.cls
 have hput:=D9 (w0:=w0) (bor:=bor) (s:= .v (.tuple #[])) hk s4 (by simp only [c0];exact .inr ⟨_,rfl,trivial⟩)
 obtain⟨st2,⟨sy2,g1,g2⟩,g3,g4⟩:=a0U hr4 hput (v:= .tuple #[]) (.inr rfl)
 refine⟨st2,sy2,g1,g2,g3,hfx.wide fun b hb=>b1.bs b (u1.2 ⟨k,_,j3 hf',hb⟩),fun b hb2=> .inl ?_⟩
 rw [g4]at hb2
 refine b1.bs b ?_
 have:bs (H1++(k,Ent.row v n xs' z ty)::H2)=bs H':=by rw [hH];exact a9H rfl
 rw [←this];exact hb2
theorem b7y (hA:∀b,(w0.heap.size≤b∨b∈bor)→A b) {o:Oper} {Q:Exit→Act→World→Prop} {KY:Sy→Prop} {f:FuncId} {args:List D} {args':List SV} (hr:Rel (cx X w0 bor) st a w) (hs:Sim A st sy) (ha:b8 (okS A st) st.w (u9 st) args args')
 (h:match(generalizing:=false) true,args with
 |true,x::rest=>match a3U (b6u sy.H rest) sy (x::rest)with
  |some (st', .row k _::fa)=>match M7 fa,i6 st'.H k with
   |true,some e=>(a8Q X.P f k e fa st' fun sy' x=>O2 X sy' o.dst x KY)∨(b6K X.P f k e fa st' fun sy' x=>O2 X sy' o.dst x KY)
   |_,_=>False
  |_=>False
 |_,_=>False) (hout:a0v (cx X w0 bor) st a o (.call f args')):o.wp X.P a w (LvY A (cx X w0 bor) st.H w KY) Q:=by
 have hr0:=hr.now
 have hs0:=hs.now hr.cls
 have ha0:=ha.now hr.cls
 split at h
 · rename_i x rest _ _
   split at h
   · rename_i sy1 k z0 fa hfz
     split at h
     · rename_i e hcl hfe
       obtain⟨st1,l1,c1,a1,s1,b1,o1,g1,g2⟩:=a3I (Xx:=cx X w0 bor) hA _ hr0.cls ⟨rfl,rfl,rfl⟩ hs0 ha0 hfz
       have hr1:Rel (cx X w0 bor) st1 a w:=by
        refine⟨hr.size,fun d s hd=> ?_,hr.dfs, ?_, ?_, ?_⟩
        · rcases o1 d s hd with e|⟨s0,h1,h2,h3⟩
          · exact .inl e
          · rcases hr0.T d s0 h1 with e|e
            · exact absurd e h2
            · right;rw [e,h3]
        · rw [a1.1];exact c1
        · rw [a1.2.1];exact Nat.le_refl _
        · rw [a1.2.2];simp
       cases l1 with
       |nil=>simp [b8]at g1
       |cons s0 fa'=>
        simp only [b8]at g1
        obtain⟨g0,g1⟩:=g1
        simp only [c0]at g0
        obtain⟨rfl,hkey⟩:=g0
        obtain⟨e',hf',he⟩:=s1.H _ _ hfe
        cases e with
        |blk=>rcases h with h|h<;>(obtain⟨z,n,l,ty,_⟩:=h.ex;simp_all)
        |row z n l ty=>
        cases e' with
        |blk=>exact he.elim
        |row v n1 xs z1 ty1=>
         obtain⟨rfl,rfl,rfl,hrep,hfl,hlen⟩:=he
         rw [a1.1]at hrep
         have hown:=c1.row hf'
         have hdv:den st1.H (.row k)=v:=by simp [den,j2,hf']
         have hrepA:=E5 (H:=st1.H) _ _ g1 hcl
         have hnok:∀b,b∈j5 v→¬okS A st1 b:=fun b hb hok=>hok.2.2 b (u1.2 ⟨k,_,j3 hf',hb⟩) rfl
         have hoksz:∀b,okS A st1 b→b<w.heap.size:=fun b hb=>by have:=hb.2.1;rw [a1.1]at this;exact this
         have hargs:(d7 st.H args').toArray=(v::d7 st1.H fa').toArray:=by
          have:d7 st1.H (.row k::fa')=d7 st.H args':=g2
          rw [←this];simp only [d7,hdv]
         rcases h with h|h
         rotate_left
         · obtain⟨_,_,_,_,n',l',he1,⟨rfl,hd⟩,hk⟩:=h.ex
           cases he1
           have hcall:=hd (okS A st1) w v _ ⟨xs,hown,hrep,hfl,hlen⟩ hnok hrepA hoksz
           rw [←hargs]at hcall
           have hbody:=V3 hcall fun e w' ⟨he,_⟩=>⟨_,he⟩
           unfold Oper.wp
           rw [show(execOp a.eval o).run X.P w=_ from hout w hbody]
           simp only [Oper.upon]
           refine hcall.mono fun e w' ⟨he,hrow,hb⟩=> ?_
           subst he
           simp only
           exact b9u hr1 a1 s1 b1 hf' (a2l hk) hrow hb
         obtain⟨_,_,_,_,z',n',l',he1,hd,hk⟩:=h.ex
         cases he1
         have hcall:=hd (okS A st1) w v _ ⟨xs,hown,hrep,hfl,hlen⟩ hnok hrepA hoksz
         rw [←hargs]at hcall
         have hbody:=V3 hcall fun e w' ⟨v',he,_⟩=>⟨_,he⟩
         unfold Oper.wp
         rw [show(execOp a.eval o).run X.P w=_ from hout w hbody]
         simp only [Oper.upon]
         refine hcall.mono fun e w' ⟨v',he,hfr,⟨xs',hown',hrp,hfl',hlen'⟩,hb⟩=> ?_
         subst he
         simp only
         have hk:=a2l hk
         rw [a8A]at hk
         have hrel2:=c0d hr1 a1 hf' hb hown' hfr
         obtain⟨T,H,nk⟩:=sy1
         obtain⟨T',H',nk',ws,lo,iv⟩:=st1
         obtain⟨h1,h2,h3⟩:=a1
         simp only at h1 h2 h3
         subst h1 h2 h3
         have hlt:∀c,c∈bs H'→c<ws.heap.size:=fun c hc=>c1.lt_size hc
         have hfxH:Fx (bs H') ws w':=hb.wide fun b hb=>u1.2 ⟨k,_,j3 hf',hb⟩
         have hsim:Sim A ⟨Y8 k T',Y0 (w5 k H') k (.row v' n' xs' z' ty),nk',w',w'.heap.size, []⟩ ⟨a4r k T,a9p (a3B k H) k (.row z' n' l' ty),nk⟩:=by
          refine b7z (lo:=ws.heap.size) (iv:= []) (w:=ws) s1 hf' (fun b hb=> ?_) hfxH (.inl rfl) ?_ hfl' hlen'
          · rcases hfr b hb with h|h
            · exact .inl (u1.2 ⟨k,_,j3 hf',h⟩)
            · exact .inr h
          · refine c7.mono (fun b hbk=>⟨?_,rfl⟩) _ _ hrp
            obtain⟨hb1,hb2⟩:=hbk
            have hne:∀c,c∈bs (Y0 (w5 k H') k (.row v' n' xs' z' ty))→c≠b:=by
             intro c hc e
             subst e
             rcases hb1 with hb1|hb1|hb1
             · rcases a8r hc with hc|hc
               · rw [a2V]at hc
                 exact hb1.2.2 c hc rfl
               · exact hb2 hc
             · exact b2n (by rw [a2V];exact c1.nd) (show c6 (w5 k H') k=some (Y1 k _) by rw [I3,hf'];rfl) (by rw [a7I];exact hb1) hb2 hc
             · rcases a8r hc with hc|hc
               · rw [a2V]at hc
                 have:=hlt c hc;omega
               · exact hb2 hc
            rcases hb1 with hb1|hb1|hb1
            · exact⟨⟨.inl (Nat.lt_of_lt_of_le hb1.2.1 hb.size),hb1.1.2⟩,Nat.lt_of_lt_of_le hb1.2.1 hb.size,hne⟩
            · have hbm:b∈bs H':=u1.2 ⟨k,_,j3 hf',hb1⟩
              have hlw:=Nat.lt_of_lt_of_le (hlt b hbm) hb.size
              exact⟨⟨.inl hlw,hA b (c1.lb b hbm).symm⟩,hlw,hne⟩
            · exact⟨⟨.inl hb1.2,hA b (.inl (Nat.le_trans c1.fx0.size hb1.1))⟩,hb1.2,hne⟩
         have hfu:c6 (Y0 (w5 k H') k (.row v' n' xs' z' ty)) k=some (.row v' n' xs' z' ty):=by
          rw [X3 (e0:=Y1 k _) (by rw [I3,hf'];rfl)];simp
         have hput:=D9 (w0:=w0) (bor:=bor) (s:= .row k) hk hsim (by simp only [c0];exact⟨trivial,hkey.1,fun _=>⟨_,_,_,_,_,hfu⟩⟩)
         obtain⟨st2,⟨sy2,h1,h2⟩,h3,h4⟩:=a0U hrel2 hput (v:=v') (.inr (by simp [den,j2,hfu]))
         refine⟨st2,sy2,h1,h2,h3,hb.wide fun b hb=>b1.bs b (u1.2 ⟨k,_,j3 hf',hb⟩),fun b hb2=> ?_⟩
         rw [h4]at hb2
         rcases a8r hb2 with hb2|hb2
         · rw [a2V]at hb2;exact .inl (b1.bs b hb2)
         · rcases hfr b hb2 with h|h
           · exact .inl (b1.bs b (u1.2 ⟨k,_,j3 hf',h⟩))
           · exact .inr h
     · exact h.elim
   · exact h.elim
 · exact h.elim
def LvK (A:Nat→Prop) (Xx:Cx) (H:Hp) (w:World) (KY:Sy→Prop) (a':Act) (w':World):Prop:=∃st' sy',KY sy'∧Sim A st' sy'∧Lv Xx H w st' a' w'∧(∀i,i<w.heap.size→w'.heap[i]?=w.heap[i]?)∧KB H w st'.H
theorem b5A (hA:∀b,(w0.heap.size≤b∨b∈bor)→A b) {o:Oper} {Q:Exit→Act→World→Prop} {KY:Sy→Prop} {f:FuncId} {args:List D} {args':List SV} (hr:Rel (cx X w0 bor) st a w) (hs:Sim A st sy) (ha:b8 (okS A st) st.w (u9 st) args args')
 (hcl:M7 args=true) (h:b0j X.P f args sy fun sy' x=>O2 X sy' o.dst x KY) (hout:a0v (cx X w0 bor) st a o (.call f args')):o.wp X.P a w (LvK A (cx X w0 bor) st.H w KY) Q:=by
 have hr0:=hr.now
 have hs0:=hs.now hr.cls
 have ha0:=ha.now hr.cls
 obtain⟨z,n,l,ty,hd,hk⟩:=h.ex
 have hrep:=E5 (H:=st.H) _ _ ha0 hcl
 have hcall:=hd (okS A (now st w)) w _ hrep fun b hb=>hb.2.1
 have hbody:=V3 hcall fun e w' ⟨v,he,_⟩=>⟨_,he⟩
 unfold Oper.wp
 rw [show(execOp a.eval o).run X.P w=_ from hout w hbody]
 simp only [Oper.upon]
 refine hcall.mono fun e w' ⟨v,he,hfr,⟨xs,hown,hrp,hfl,hlen⟩,hb⟩=> ?_
 subst he
 simp only
 obtain⟨T,H,nk⟩:=sy
 obtain⟨T',H',nk',ws,lo,iv⟩:=st
 have hnk:nk=nk':=hs.nk
 subst hnk
 have hownB:=a4n v
 have hblk:∀i,i<w.heap.size→w'.heap[i]?=w.heap[i]?:=fun i hi=>hb.block i hi
 have hrel:=hr0.cons (w':=w') (e:= .row v n xs z ty) (hs.fT nk (Nat.le_refl _)) (hs.fH nk (Nat.le_refl _)) hb.size hblk hb.os hb.tape hb.output hown hfr hownB
 have hrel2:=hrel.now
 have hlt:∀c,c∈bs H'→c<w.heap.size:=fun c hc=>hr.cls.lt_size hc
 have hsim:Sim A ⟨T',(nk, .row v n xs z ty)::H',nk+1,w',w'.heap.size, []⟩ ⟨T,(nk, .row z n l ty)::H,nk+1⟩:=by
  refine b4S (lo:=w.heap.size) (iv:= []) (w:=w) hs0 (fun b hb=> .inr (hfr b hb)) ((Fx.refl _ _).of_below hb) (.inl rfl) ?_ hfl hlen
  refine c7.mono (fun b hbk=>⟨?_,rfl⟩) _ _ hrp
  obtain⟨hb1,hb2⟩:=hbk
  have hne:∀c,c∈bs ((nk,Ent.row v n xs z ty)::H')→c≠b:=by
   intro c hc e
   subst e
   simp only [bs,bsE,List.mem_append]at hc
   rcases hc with hc|hc
   · exact hb2 hc
   · rcases hb1 with hb1|hb1
     · exact hb1.2.2 c hc rfl
     · have:=hlt c hc;omega
  rcases hb1 with hb1|hb1
  · exact⟨⟨.inl (Nat.lt_of_lt_of_le hb1.2.1 hb.size),hb1.1.2⟩,Nat.lt_of_lt_of_le hb1.2.1 hb.size,hne⟩
  · exact⟨⟨.inl hb1.2,hA b (.inl (Nat.le_trans hr.cls.fx0.size hb1.1))⟩,hb1.2,hne⟩
 have hput:=D9 (w0:=w0) (bor:=bor) (s:= .row nk) hk hsim (by simp only [c0];exact⟨trivial,by simp only;omega,fun _=>⟨_,_,_,_,_,by simp [c6];exact⟨rfl,rfl,rfl,rfl,rfl⟩⟩⟩)
 obtain⟨st2,⟨sy2,h1,h2⟩,h3,h4⟩:=a0U hrel2 hput (v:=v) (.inr (by simp [den,j2,now,c6]))
 refine⟨st2,sy2,h1,h2,⟨h3,(Fx.refl _ _).of_below hb,fun b hb2=> ?_⟩,hblk,fun k e hm b hb2=> ?_⟩
 rotate_left
 · rw [h4]at hm
   simp only [now]at hm
   rcases List.mem_cons.1 hm with hm|hm
   · cases hm;exact .inl (hfr b hb2)
   · exact .inr ⟨e,hm,hb2⟩
 rw [h4]at hb2
 simp only [now,bs,bsE,List.mem_append]at hb2
 rcases hb2 with hb2|hb2
 · exact .inr (hfr b hb2)
 · exact .inl hb2
abbrev b1C:=Value×Nat×List Value×Nat×TypeId
def S5:Nat→List b1C→Hp→Hp
 |_, [],H=>H
 |k,(v,n,xs,z,ty)::rs,H=>S5 (k+1) rs ((k, .row v n xs z ty)::H)
theorem b0N:∀(rs:List b1C) (k:Nat) (H:Hp) (b:Nat),b∈bs (S5 k rs H)↔b∈bs H∨b∈rs.flatMap fun r=>j5 r.1
 | [],k,H,b=>by simp [S5]
 |(v,n,xs,z,ty)::rs,k,H,b=>by
  rw [S5,b0N rs]
  simp only [bs,bsE,List.mem_append,List.flatMap_cons]
  constructor
  · rintro((h|h)|h)
    · exact .inr (.inl h)
    · exact .inl h
    · exact .inr (.inr h)
  · rintro(h|h|h)
    · exact .inl (.inr h)
    · exact .inl (.inl h)
    · exact .inr h
theorem b1Y:∀(rs:List b1C) (k:Nat) (H:Hp) (j:Nat) (e:Ent),(j,e)∈S5 k rs H→(j,e)∈H∨(∀b,b∈bsE e→b∈rs.flatMap fun r=>j5 r.1)
 | [],k,H,j,e,h=> .inl h
 |(v,n,xs,z,ty)::rs,k,H,j,e,h=>by
  rw [S5]at h
  rcases b1Y rs _ _ _ _ h with h|h
  · rcases List.mem_cons.1 h with h|h
    · cases h
      exact .inr fun b hb=>by simp only [List.flatMap_cons,List.mem_append];exact .inl hb
    · exact .inl h
  · exact .inr fun b hb=>by simp only [List.flatMap_cons,List.mem_append];exact .inr (h b hb)
theorem a8L {j:Nat}:∀(rs:List b1C) (k:Nat) (H:Hp),B4 j H=true→B4 j (S5 k rs H)=true
 | [],_,_,h=>h
 |(v,n,xs,z,ty)::rs,k,H,h=>a8L rs _ _ (by simpa [B4]using h)
theorem Z4 {k:Nat}:∀(rs:List b1C) (nk:Nat) (H:Hp),k<nk→c6 (S5 nk rs H) k=c6 H k
 | [],_,_,_=>rfl
 |(v,n,xs,z,ty)::rs,nk,H,h=>by rw [S5,Z4 rs _ _ (by omega),O4 (by omega)]
theorem a1N:∀(rs:List b1C) (nk:Nat) (H:Hp) (i:Nat) (v:Value) (n:Nat) (xs:List Value) (z:Nat) (ty:TypeId),rs[i]?=some (v,n,xs,z,ty)→c6 (S5 nk rs H) (nk+i)=some (.row v n xs z ty)
 | [],_,_,_,_,_,_,_,_,h=>by simp at h
 |(v',n',xs',z',ty')::rs,nk,H,i,v,n,xs,z,ty,h=>by
  rw [S5]
  cases i with
  |zero=>
   simp at h
   obtain⟨rfl,rfl,rfl,rfl,rfl⟩:=h
   rw [Nat.add_zero,Z4 rs _ _ (by omega)]
   simp [c6]
  |succ i=>
   have:=a1N rs (nk+1) ((nk, .row v' n' xs' z' ty')::H) i v n xs z ty (by simpa using h)
   rw [show nk+(i+1)=nk+1+i by omega]
   exact this
theorem a8V {k:Nat} {e:E}:∀(rs:List (Nat×Nat×List D×TypeId)) (nk:Nat) (H:Hy),(∀k e,i6 H k=some e→k<nk)→i6 (b4Y nk rs H) k=some e→i6 H k=some e∧k<nk∨∃i z n l ty,k=nk+i∧rs[i]?=some (z,n,l,ty)∧e= .row z n l ty
 | [],nk,H,hl,h=> .inl ⟨h,hl _ _ h⟩
 |(z,n,l,ty)::rs,nk,H,hl,h=>by
  rw [b4Y]at h
  rcases a8V rs (nk+1) _ (fun k e hk=>by
   simp only [i6]at hk
   cases hb:Nat.beq nk k with
   |true=>have:=r6 hb;omega
   |false=>rw [hb]at hk;have:=hl _ _ hk;omega) h with⟨h,hlt⟩|⟨i,z',n',l',ty',rfl,h1,h2⟩
  · simp only [i6]at h
    cases hb:Nat.beq nk k with
    |true=>
     rw [hb]at h;cases h
     have:=r6 hb;subst this
     exact .inr ⟨0,z,n,l,ty,rfl,rfl,rfl⟩
    |false=>
     rw [hb]at h
     exact .inl ⟨h,by have:=a1i hb;omega⟩
  · exact .inr ⟨i+1,z',n',l',ty',by omega,by simpa using h1,h2⟩
theorem Rel.consL {Xx:Cx} {a:Act} {w:World} {T:List (Nat×SV)} {ws:World} {lo:Nat} {iv:List (Nat×Nat)}:∀(rs:List b1C) (H:Hp) (nk:Nat),Rel Xx ⟨T,H,nk,ws,lo,iv⟩ a w→(∀j,nk≤j→o8 j T=true)→(∀j,nk≤j→B4 j H=true)→
 (∀v n xs z ty,(v,n,xs,z,ty)∈rs→w.ownsRow 0 ty z v n xs)→(∀b,(b∈rs.flatMap fun r=>j5 r.1)→Xx.w0.heap.size≤b∧b∉bs H)→(rs.flatMap fun r=>j5 r.1).Nodup→Rel Xx ⟨T,S5 nk rs H,nk+rs.length,ws,lo,iv⟩ a w
 | [],_,_,hr,_,_,_,_,_=>hr
 |(v,n,xs,z,ty)::rs,H,nk,hr,hT,hH,ho,hb,hn=>by
  simp only [List.flatMap_cons,List.nodup_append]at hn
  have h1:=hr.consG (e:= .row v n xs z ty) (hT nk (Nat.le_refl _)) (hH nk (Nat.le_refl _)) (ho v n xs z ty List.mem_cons_self) (fun b hb'=>hb b (by simp only [List.flatMap_cons,List.mem_append];exact .inl hb')) (a4n v)
  have h2:=Rel.consL rs _ _ h1 (fun j hj=>hT j (Nat.le_of_succ_le hj)) (fun j hj=>by simpa [B4]using hH j (Nat.le_of_succ_le hj)) (fun v n xs z ty h=>ho v n xs z ty (List.mem_cons_of_mem _ h)) (fun b hb'=>by
   have h3:=hb b (by simp only [List.flatMap_cons,List.mem_append];exact .inr hb')
   refine⟨h3.1,fun hc=> ?_⟩
   simp only [bs,bsE,List.mem_append]at hc
   rcases hc with hc|hc
   · exact hn.2.2 b hc b hb' rfl
   · exact h3.2 hc) hn.2.1
  rw [S5,List.length_cons,show nk+(rs.length+1)=nk+1+rs.length by omega]
  exact h2
theorem a1E.choose {ok:Nat→Prop} {w:World}:∀ {rows:List (Nat×Nat×List D×TypeId)} {rv:List Value},a1E ok w rows rv→
 ∃rs:List b1C,rs.map (·.1)=rv∧rs.length=rows.length∧(∀v n xs z ty,((v,n,xs,z,ty):b1C)∈rs→w.ownsRow 0 ty z v n xs)∧
  ∀(i z n:Nat) (l:List D) (ty:TypeId),rows[i]?=some (z,n,l,ty)→∃(v:Value) (xs:List Value),rs[i]?=some ((v,n,xs,z,ty):b1C)∧c7 ok w l xs∧u2 l=true∧l.length=n*z
 | [], [],_=>⟨[],rfl,rfl,fun _ _ _ _ _ h=>by simp at h,fun _ _ _ _ _ h=>by simp at h⟩
 |(z,n,l,ty)::rows,v::rv,h=>by
  simp only [a1E]at h
  obtain⟨⟨xs,h1,h2,h3,h4⟩,h5⟩:=h
  obtain⟨rs,g1,g2,g3,g4⟩:=a1E.choose h5
  refine⟨(v,n,xs,z,ty)::rs,by simp [g1],by simp [g2],fun v' n' xs' z' ty' hm=> ?_,fun i z' n' l' ty' hi=> ?_⟩
  · rcases List.mem_cons.1 hm with hm|hm
    · cases hm;exact h1
    · exact g3 _ _ _ _ _ hm
  · cases i with
    |zero=>simp at hi;obtain⟨rfl,rfl,rfl,rfl⟩:=hi;exact⟨v,xs,rfl,h2,h3,h4⟩
    |succ i=>
     obtain⟨v',xs',e1,e2⟩:=g4 i z' n' l' ty' (by simpa using hi)
     exact⟨v',xs',by simpa using e1,e2⟩
 | [],_::_,h=>by simp [a1E]at h
 |_::_, [],h=>by simp [a1E]at h
theorem b5L (hA:∀b,(w0.heap.size≤b∨b∈bor)→A b) {o:Oper} {Q:Exit→Act→World→Prop} {KY:Sy→Prop} {f:FuncId} {args:List D} {args':List SV} (hr:Rel (cx X w0 bor) st a w) (hs:Sim A st sy) (ha:b8 (okS A st) st.w (u9 st) args args')
 (hcl:M7 args=true) (h:a8W X.P f args sy fun sy' x=>O2 X sy' o.dst x KY) (hout:a0v (cx X w0 bor) st a o (.call f args')):o.wp X.P a w (LvK A (cx X w0 bor) st.H w KY) Q:=by
 have hr0:=hr.now
 have hs0:=hs.now hr.cls
 have ha0:=ha.now hr.cls
 obtain⟨rows,cells,⟨hfl,hd⟩,hk⟩:=h.ex
 have hrep:=E5 (H:=st.H) _ _ ha0 hcl
 have hcall:=hd (okS A (now st w)) w _ hrep fun b hb=>hb.2.1
 have hbody:=V3 hcall fun e w' ⟨v,rv,he,_⟩=>⟨_,he⟩
 unfold Oper.wp
 rw [show(execOp a.eval o).run X.P w=_ from hout w hbody]
 simp only [Oper.upon]
 refine hcall.mono fun e w' hex=> ?_
 obtain⟨av,rv,he,hbl,hnd,hrows,hcells,hb⟩:=hex
 subst he
 simp only
 obtain⟨T,H,nk⟩:=sy
 obtain⟨T',H',nk',ws,lo,iv⟩:=st
 have hnk:nk=nk':=hs.nk
 subst hnk
 obtain⟨rs,e1,e2,hown,hrow⟩:=hrows.choose
 have hflat:(rs.flatMap fun r=>j5 r.1)=rv.flatMap j5:=by rw [←e1,List.flatMap_map]
 have hlt:∀c,c∈bs H'→c<w.heap.size:=fun c hc=>hr.cls.lt_size hc
 have hblk:∀i,i<w.heap.size→w'.heap[i]?=w.heap[i]?:=fun i hi=>hb.block i hi
 have hrel0:=hr0.past hb
 have hrel:Rel (cx X w0 bor) ⟨T',S5 nk rs H',nk+rs.length,w',w'.heap.size, []⟩ a w':=by
  refine Rel.consL rs H' nk hrel0 hs.fT hs.fH hown (fun b hb'=> ?_) (by rw [hflat];exact hnd)
  rw [hflat]at hb'
  have h1:=hbl b hb'
  exact⟨Nat.le_trans hr.cls.fx0.size h1.1,fun hc=>by have:=hlt b hc;omega⟩
 have hne:∀b,(∀c,c∈bs H'→c≠b)→b∉rv.flatMap j5→∀c,c∈bs (S5 nk rs H')→c≠b:=by
  intro b h1 h2 c hc
  rcases(b0N rs nk H' c).1 hc with hc|hc
  · exact h1 c hc
  · rw [hflat]at hc
    exact fun e=>h2 (e▸hc)
 have hokN:∀b,((okS A (now ⟨T',H',nk,ws,lo,iv⟩ w) b∨(w.heap.size≤b∧b<w'.heap.size))∧b∉rv.flatMap j5)→okS A ⟨T',S5 nk rs H',nk+rs.length,w',w'.heap.size, []⟩ b:=by
  rintro b ⟨hb1,hb2⟩
  rcases hb1 with hb1|hb1
  · exact⟨⟨.inl (Nat.lt_of_lt_of_le hb1.2.1 hb.size),hb1.1.2⟩,Nat.lt_of_lt_of_le hb1.2.1 hb.size,hne b hb1.2.2 hb2⟩
  · exact⟨⟨.inl hb1.2,hA b (.inl (Nat.le_trans hr.cls.fx0.size hb1.1))⟩,hb1.2,hne b (fun c hc e=>by have:=hlt c hc;omega) hb2⟩
 have hokO:∀b,okS A (now ⟨T',H',nk,ws,lo,iv⟩ w) b→okS A ⟨T',S5 nk rs H',nk+rs.length,w',w'.heap.size, []⟩ b∧w'.heap[b]?=w.heap[b]?:=fun b hb1=>
  ⟨hokN b ⟨.inl hb1,fun hc=>by have h1:=(hbl b hc).1;have h2:=hb1.2.1;simp only [now]at h2;omega⟩,hblk b hb1.2.1⟩
 have hkO:∀q k,u9 (now ⟨T',H',nk,ws,lo,iv⟩ w) q k→u9 ⟨T',S5 nk rs H',nk+rs.length,w',w'.heap.size, []⟩ q k:=by
  intro q k ⟨h1,h2⟩
  simp only [now]at h1
  refine⟨by simp only;omega,fun hq=> ?_⟩
  simp only
  rw [Z4 rs _ _ h1]
  exact h2 hq
 have hsim:Sim A ⟨T',S5 nk rs H',nk+rs.length,w',w'.heap.size, []⟩ ⟨T,b4Y nk rows H,nk+rows.length⟩:=by
  refine⟨fun d x hx=> ?_,fun k e he=> ?_,by rw [e2],fun j hj=>hs.fT j (by simp only at hj⊢;omega),fun j hj=>a8L rs _ _ (hs.fH j (by simp only at hj⊢;omega))⟩
  · rcases hs0.T d x hx with h|⟨s,h1,h2⟩
    · exact .inl h
    · exact .inr ⟨s,h1,c0.mono hokO hkO _ _ h2⟩
  · have hyl:∀k e,i6 H k=some e→k<nk:=fun k e h=>by
     obtain⟨e',h1,_⟩:=hs.H k e h
     exact hr.cls.lt k e' (j3 h1)
    rcases a8V rows nk H hyl he with⟨h1,h2⟩|⟨i,z,n,l,ty,rfl,h1,rfl⟩
    · obtain⟨e',g1,g2⟩:=hs0.H k e h1
      exact⟨e',by rw [show(_:St).H=_ from rfl];simp only;rw [Z4 rs _ _ h2];exact g1,a1R.mono hokO hkO g2⟩
    · obtain⟨v,xs,g1,g2,g3,g4⟩:=hrow i z n l ty h1
      exact⟨_,a1N rs nk H' i v n xs z ty g1,rfl,rfl,rfl,c7.mono (fun b hb1=>⟨hokN b hb1,rfl⟩) _ _ g2,g3,g4⟩
 have hval:∃cs:List SV,b8 (okS A ⟨T',S5 nk rs H',nk+rs.length,w',w'.heap.size, []⟩) w' (u9 ⟨T',S5 nk rs H',nk+rs.length,w',w'.heap.size, []⟩) (shC nk cells) cs∧d7 (S5 nk rs H') cs=av:=by
  clear hfl hk hd hcall hbody
  induction cells generalizing av with
  |nil=>cases av with
   |nil=>exact⟨[],trivial,rfl⟩
   |cons=>simp [O3]at hcells
  |cons d cells ih=>cases av with
   |nil=>cases d<;>simp [O3]at hcells
   |cons y av=>
    have gen:Rep (fun b=>(okS A (now ⟨T',H',nk,ws,lo,iv⟩ w) b∨(w.heap.size≤b∧b<w'.heap.size))∧b∉rv.flatMap j5) w' d y→O3 (fun b=>(okS A (now ⟨T',H',nk,ws,lo,iv⟩ w) b∨(w.heap.size≤b∧b<w'.heap.size))∧b∉rv.flatMap j5) w' rv cells av→
     ∃cs:List SV,b8 (okS A ⟨T',S5 nk rs H',nk+rs.length,w',w'.heap.size, []⟩) w' (u9 ⟨T',S5 nk rs H',nk+rs.length,w',w'.heap.size, []⟩) (d::shC nk cells) cs∧d7 (S5 nk rs H') cs=y::av:=by
     intro h1 h2
     obtain⟨cs,g1,g2⟩:=ih av h2
     exact⟨.v y::cs,⟨Rep.rel _ _ (Rep.mono (fun b hb1=>⟨hokN b hb1,rfl⟩) _ _ h1),g1⟩,by simp [d7,den,g2]⟩
    cases d with
    |row i z=>
     simp only [O3]at hcells
     obtain⟨h1,h2⟩:=hcells
     obtain⟨cs,g1,g2⟩:=ih av h2
     have h3:∃r,rs[i]?=some r∧r.1=y:=by
      rw [←e1,List.getElem?_map]at h1
      cases hri:rs[i]? with
      |none=>rw [hri]at h1;cases h1
      |some r=>rw [hri]at h1;exact⟨r,rfl,Option.some.inj h1⟩
     obtain⟨⟨v,n,xs,z',ty⟩,h3,rfl⟩:=h3
     have h4:=a1N rs nk H' i v n xs z' ty h3
     have hi:i<rs.length:=(List.getElem?_eq_some_iff.1 h3).1
     refine⟨.row (nk+i)::cs,⟨?_,g1⟩,by simp [d7,den,j2,h4,g2]⟩
     simp only [c0]
     exact⟨trivial,by simp only;omega,fun _=>⟨v,n,xs,z',ty,h4⟩⟩
    |_=>simp only [O3]at hcells;exact gen hcells.1 hcells.2
 obtain⟨cs,hcs,hden⟩:=hval
 have hflS:u2 (shC nk cells)=true:=by
  clear hcs hcells hk hd hcall hbody
  induction cells with
  |nil=>rfl
  |cons d l ih=>
   have h1:=s6 hfl List.mem_cons_self
   have h2:=ih (L8 fun x hx=>s6 hfl (List.mem_cons_of_mem _ hx))
   cases d<;>simp [a3G]at h1<;>exact h2
 have hput:=D9 (w0:=w0) (bor:=bor) (s:= .agg cs) hk hsim (by simp only [c0];exact⟨cs,rfl,hcs,hflS⟩)
 obtain⟨st2,⟨sy2,h1,h2⟩,h3,h4⟩:=a0U hrel hput (v:= .agg av.toArray) (.inr (by simp [den,hden]))
 refine⟨st2,sy2,h1,h2,⟨h3,(Fx.refl _ _).of_below hb,fun b hb2=> ?_⟩,hblk,fun k e hm b hb2=> ?_⟩
 · rw [h4]at hb2
   rcases(b0N rs nk H' b).1 hb2 with hb2|hb2
   · exact .inl hb2
   · rw [hflat]at hb2;exact .inr (hbl b hb2).1
 · rw [h4]at hm
   rcases b1Y rs nk H' k e hm with hm|hm
   · exact .inr ⟨e,hm,hb2⟩
   · have:=hm b hb2
     rw [hflat]at this
     exact .inl (hbl b this).1
theorem b0S (hA:∀b,(w0.heap.size≤b∨b∈bor)→A b) {o:Oper} {Q:Exit→Act→World→Prop} {KY:Sy→Prop} {f:FuncId} {args:List D} {args':List SV} (hr:Rel (cx X w0 bor) st a w) (hs:Sim A st sy) (ha:b8 (okS A st) st.w (u9 st) args args')
 (hln:J8 f X.ln=false) (h:a9j X true f args sy fun sy' x=>O2 X sy' o.dst x KY) (hout:a0v (cx X w0 bor) st a o (.call f args')):o.wp X.P a w (LvK A (cx X w0 bor) st.H w KY) Q:=by
 have hr0:=hr.now
 have hs0:=hs.now hr.cls
 have ha0:=ha.now hr.cls
 --the call itself,from some state
 have main:∀(st1:St) (args1:List SV) (fa:List D) (Qr:D→Prop),Cls (cx X w0 bor) st1.H st1.nk w w→At st1 w→b8 (okS A st1) w (u9 st1) fa args1→d7 st1.H args1=d7 st.H args'→M7 fa=true→d0 X.P f fa Qr→
  (∀v r w',Below w.heap.size w w'→Qr r→Rep (fun b=>okS A st1 b∨(w.heap.size≤b∧b<w'.heap.size)) w' r v→LvK A (cx X w0 bor) st.H w KY (a.put o.dst v) w')→o.wp X.P a w (LvK A (cx X w0 bor) st.H w KY) Q:=by
  intro st1 args1 fa Qr hc hat hfa hden hcl hd hk
  have hrep:=E5 (H:=st1.H) _ _ hfa hcl
  rw [hden]at hrep
  have hcall:=hd (okS A st1) w _ hrep fun b hb=>by have:=hb.2.1;rw [hat.1]at this;exact this
  have hbody:=V3 hcall fun e w' ⟨v,r,he,_⟩=>⟨_,he⟩
  unfold Oper.wp
  rw [show(execOp a.eval o).run X.P w=_ from hout w hbody]
  simp only [Oper.upon]
  refine hcall.mono fun e w' ⟨v,r,he,hq,hrp,hb⟩=> ?_
  subst he
  exact hk v r w' hb hq hrp
 have done:∀(st1:St) (sy1:Sy) (v:Value) (r:D) (w':World),Rel (cx X w0 bor) st1 a w→Sim A st1 sy1→a6j st1.H st.H→Below w.heap.size w w'→c0 (okS A (now st1 w')) w' (u9 (now st1 w')) r (.v v)→O2 X sy1 o.dst r KY→LvK A (cx X w0 bor) st.H w KY (a.put o.dst v) w':=by
  intro st1 sy1 v r w' hr1 hs1 hsub hb hrd hp
  have hput:=D9 (w0:=w0) (bor:=bor) hp (hs1.past hr1.cls hb) hrd
  obtain⟨st2,⟨sy2,h1,h2⟩,h3,h4⟩:=a0U (hr1.past hb) hput (v:=v) (.inr rfl)
  exact⟨st2,sy2,h1,h2,⟨h3,(Fx.refl _ _).of_below hb,fun b hb2=> .inl (hsub.bs b (by rw [h4]at hb2;exact hb2))⟩,fun i hi=>hb.block i hi,fun k e hm b hb2=>by
   rw [h4]at hm
   obtain⟨e0,g1,g2⟩:=hsub k e hm
   exact .inr ⟨e0,g1,g2 b hb2⟩⟩
 have repOk:∀(st1:St) (w':World) (v:Value) (r:D),Cls (cx X w0 bor) st1.H st1.nk st1.w w→At st1 w→Below w.heap.size w w'→Rep (fun b=>okS A st1 b∨(w.heap.size≤b∧b<w'.heap.size)) w' r v→c0 (okS A (now st1 w')) w' (u9 (now st1 w')) r (.v v):=by
  intro st1 w' v r hc hat hb hrp
  refine Rep.rel _ _ (Rep.mono (fun b hbk=>⟨?_,rfl⟩) _ _ hrp)
  rcases hbk with hbk|⟨h1,h2⟩
  · exact((b3M hc hb) b hbk).1
  · exact⟨⟨.inl h2,hA b (.inl (Nat.le_trans hc.fx0.size h1))⟩,h2,fun c hcb e=>by have:=hc.lt_size hcb;omega⟩
 unfold a9j at h
 split at h
 · rename_i hm;rw [hln]at hm;cases hm
 · split at h
   · rcases h with h|h
     · exact b5A hA hr hs ha (by assumption) h hout
     · exact b5L hA hr hs ha (by assumption) h hout
   · exact h.elim
 split at h
 · rename_i hcl
   obtain⟨Qr,hd,hk⟩:=h.ex
   refine main (now st w) args' args Qr hr0.cls ⟨rfl,rfl,rfl⟩ ha0 rfl hcl hd fun v r w' hb hq hrp=> ?_
   exact done (now st w) sy v r w' hr0 hs0 (a6j.refl _) hb (repOk (now st w) w' v r hr0.cls ⟨rfl,rfl,rfl⟩ hb hrp) (hk r hq)
 · split at h
   · rename_i sy' fa hfz
     split at h
     · rename_i hcl
       obtain⟨Qr,hd,hk⟩:=h.ex
       obtain⟨st1,args1,c1,a1,s1,b1,o1,g1,g2⟩:=a3I (Xx:=cx X w0 bor) hA _ hr0.cls ⟨rfl,rfl,rfl⟩ hs0 ha0 hfz
       have hr1:Rel (cx X w0 bor) st1 a w:=by
        refine⟨hr.size,fun d s hd=> ?_,hr.dfs, ?_, ?_, ?_⟩
        · rcases o1 d s hd with e|⟨s0,h1,h2,h3⟩
          · exact .inl e
          · rcases hr0.T d s0 h1 with e|e
            · exact absurd e h2
            · right;rw [e,h3]
        · rw [a1.1];exact c1
        · rw [a1.2.1];exact Nat.le_refl _
        · rw [a1.2.2];simp
       refine main st1 args1 fa Qr c1 a1 g1 g2 hcl hd fun v r w' hb hq hrp=> ?_
       have hkr:=hk r hq
       cases hsc:a3w r with
       |true=>
        rw [hsc]at hkr
        exact done (now st w) sy v r w' hr0 hs0 (a6j.refl _) hb (Rep.rel _ _ (a7y _ _ hrp hsc)) hkr
       |false=>
        rw [hsc]at hkr
        exact done st1 sy' v r w' hr1 s1 b1 hb (repOk st1 w' v r hr1.cls a1 hb hrp) hkr
     · exact h.elim
   · exact h.elim
theorem b8e (hA:∀b,(w0.heap.size≤b∨b∈bor)→A b) {o:Oper} {Q:Exit→Act→World→Prop} {KY:Sy→Prop} {f:FuncId} {args:List D} {args':List SV} (hr:Rel (cx X w0 bor) st a w) (hs:Sim A st sy) (ha:b8 (okS A st) st.w (u9 st) args args')
 (h:a9j X true f args sy fun sy' x=>O2 X sy' o.dst x KY) (hout:a0v (cx X w0 bor) st a o (.call f args')):o.wp X.P a w (LvY A (cx X w0 bor) st.H w KY) Q:=by
 cases hln:J8 f X.ln with
 |true=>simp only [a9j,hln]at h;exact b7y hA hr hs ha h hout
 |false=>exact Oper.wp_mono (fun a' w' ⟨st2,sy2,g1,g2,g3,_⟩=>⟨st2,sy2,g1,g2,g3⟩) (b0S hA hr hs ha hln h hout)
theorem b5U (hA:∀b,(w0.heap.size≤b∨b∈bor)→A b) {KY:Sy→Prop} {f:FuncId} {args:List D} {args':List SV} {dst:Option Nat} (hs:Sim A st sy) (ha:b8 (okS A st) st.w (u9 st) args args')
 (h:a9j X false f args sy fun sy' x=>O2 X sy' dst x KY):c0b (cx X w0 bor) false f args' st fun st' s=>put (cx X w0 bor) st' dst s fun st'=>∃sy',KY sy'∧Sim A st' sy':=by
 have fxok:∀n w1,st.w.heap.size≤n→n≤w1.heap.size→Fx (bs st.H) st.w w1→∀b,okS A st b→okS A ⟨st.T,st.H,st.nk,w1,st.lo,(n,w1.heap.size)::st.iv⟩ b∧w1.heap[b]?=st.w.heap[b]?:=by
  intro n w1 h1 h2 hfx b hb
  refine⟨⟨⟨?_,hb.1.2⟩,Nat.lt_of_lt_of_le hb.2.1 hfx.size,hb.2.2⟩,hfx.block b hb.2.1 hb.2.2⟩
  rcases hb.1.1 with h|⟨p,hp,h3⟩
  · exact .inl h
  · exact .inr ⟨p,List.mem_cons_of_mem _ hp,h3⟩
 have simOk:∀n w1,st.w.heap.size≤n→n≤w1.heap.size→Fx (bs st.H) st.w w1→Sim A ⟨st.T,st.H,st.nk,w1,st.lo,(n,w1.heap.size)::st.iv⟩ sy:=by
  intro n w1 h1 h2 hfx
  obtain⟨T,H,nk⟩:=sy
  exact hs.mono (fxok n w1 h1 h2 hfx) (fun _ _ h=>h) (fun _ _ h=>h) (fun _ _ h=>h) rfl hs.fT hs.fH
 unfold a9j at h
 split at h
 · exact h.elim
 · exact h.elim
 split at h
 · rename_i hcl
   obtain⟨Qr,hd,hk⟩:=h.ex
   refine⟨Value, .v,fun v n w1=>w0.heap.size≤n∧∃r,Qr r∧Rep (fun b=>(b<n∧okS A st b)∨(n≤b∧b<w1.heap.size)) w1 r v,fun wc hc=> ?_,fun v n w1 h1 h2 h3 hfx ⟨hw0,r,hq,hrp⟩=> ?_⟩
   · have hrep:=E5 (H:=st.H) _ _ (ha.now hc) hcl
     have hrep2:c7 (fun b=>b<wc.heap.size∧okS A st b) wc args (d7 st.H args'):=by
      have:=E5 (H:=st.H) _ _ ha hcl
      refine c7.mono (fun b hb=>⟨⟨Nat.lt_of_lt_of_le hb.2.1 hc.fx.size,hb⟩,hc.fx.block b hb.2.1 hb.2.2⟩) _ _ this
     refine(hd _ wc _ hrep2 fun b hb=>hb.1).mono fun e w' ⟨v,r,he,hq,hrp,hb⟩=> ?_
     exact⟨v,he,hb,hc.fx0.size,r,hq,hrp⟩
   · obtain⟨T',H',nk',w,lo,iv⟩:=st
     refine D9 (hk r hq) (simOk n w1 h1 h2 hfx) (Rep.rel _ _ (Rep.mono (fun b hbk=>⟨?_,rfl⟩) _ _ hrp))
     rcases hbk with⟨_,hbk⟩|⟨h4,h5⟩
     · exact(fxok n w1 h1 h2 hfx b hbk).1
     · exact⟨⟨.inr ⟨_,List.mem_cons_self,h4,h5⟩,hA b (.inl (Nat.le_trans hw0 h4))⟩,h5,fun c hcb e=>by have:=h3 c hcb;omega⟩
 · split at h
   · rename_i sy' fa hfz
     split at h
     · rename_i hcl
       obtain⟨Qr,hd,hk⟩:=h.ex
       refine⟨Value, .v,fun v n w1=>∃r,Qr r∧a3w r=true∧Rep (fun _=>False) w1 r v,fun wc hc=> ?_,fun v n w1 h1 h2 h3 hfx ⟨r,hq,hsc,hrp⟩=> ?_⟩
       · have hcn:Cls (cx X w0 bor) (now st wc).H (now st wc).nk wc wc:=⟨Fx.refl _ _,hc.fx0,hc.own,hc.nd,hc.lb,hc.keys,hc.lt⟩
         obtain⟨st1,args1,c1,a1,s1,b1,o1,g1,g2⟩:=a3I (Xx:=cx X w0 bor) hA _ hcn ⟨rfl,rfl,rfl⟩ (hs.now hc) (ha.now hc) hfz
         have hrep:=E5 (H:=st1.H) _ _ g1 hcl
         rw [g2]at hrep
         refine(hd (okS A st1) wc _ hrep fun b hb=>by have:=hb.2.1;rw [a1.1]at this;exact this).mono fun e w' ⟨v,r,he,hq,hrp,hb⟩=> ?_
         have hkr:=hk r hq
         cases hsc:a3w r with
         |true=>exact⟨v,he,hb,r,hq,hsc,a7y _ _ hrp hsc⟩
         |false=>rw [hsc]at hkr;exact hkr.elim
       · have hkr:=hk r hq
         rw [hsc]at hkr
         obtain⟨T',H',nk',w,lo,iv⟩:=st
         exact D9 hkr (simOk n w1 h1 h2 hfx) (Rep.rel _ _ (a7y _ _ hrp hsc))
     · exact h.elim
   · exact h.elim
end
end Go.Sx
namespace Go.Sx
open Go Go.RowKit
section
variable {A : Nat → Prop} {X : Cy} {w0 : World} {bor : List Nat} {st : St} {sy : Sy} {a : Act} {w : World}
theorem a3K (hA:∀b,(w0.heap.size≤b∨b∈bor)→A b) {seq:Bool} {dst:Option Nat} {KY:Sy→Prop} {oy:a4Z} {out:Out} (h:a4X X seq sy dst KY oy) (hr:a6J st.H (okS A st) st.w (u9 st) oy out) (hs:Sim A st sy) (hc:seq=false∨∀f args,out≠ .call f args):
 fin (cx X w0 bor) seq st dst (fun st'=>∃sy',KY sy'∧Sim A st' sy') out:=by
 cases oy with
 |val x=>
  cases out<;>try exact hr.elim
  exact D9 h hs hr.1
 |new cs ty sl=>
  cases out<;>try exact hr.elim
  rename_i cs' ty' sl'
  obtain⟨rfl,h2,rfl⟩:=hr
  obtain⟨T',H',nk',w,lo,iv⟩:=st
  obtain⟨T,H,nk⟩:=sy
  have hnk:nk=nk':=hs.nk
  subst hnk
  simp only [fin,hs.fT nk (Nat.le_refl _),hs.fH nk (Nat.le_refl _),h2.ment (fun q=>a7V (st:=⟨T',H',nk,w,lo,iv⟩) (Nat.le_refl _) q)]
  refine .inl fun b hb hiv=> ?_
  refine D9 h (c0C hs h2 hb hiv) ?_
  cases sl with
  |none=>simp only [c0,Option.map_none];exact⟨trivial,by simp only;omega,by simp⟩
  |some p=>obtain⟨z,n⟩:=p;simp only [c0,Option.map_some];exact⟨trivial,by simp only;omega,by simp⟩
 |newR l ty z n=>
  cases out<;>try exact hr.elim
  rename_i cs' ty' sl'
  obtain⟨rfl,rfl,hlen,hnm,hfl,xs,rfl,hrep⟩:=hr
  obtain⟨T',H',nk',w,lo,iv⟩:=st
  obtain⟨T,H,nk⟩:=sy
  have hnk:nk=nk':=hs.nk
  subst hnk
  simp only [fin,hs.fT nk (Nat.le_refl _),hs.fH nk (Nat.le_refl _),a9C]
  refine .inr ⟨n,z,⟨rfl,by rw [b2x,←hrep.length,hlen],hnm,(c7.rel (R:=u9 ⟨T',H',nk,w,lo,iv⟩) _ _ hrep).one (b2c _) hfl⟩,fun b hb hiv=> ?_⟩
  rw [G9]
  refine D9 h (b9d hs hrep hfl hlen hb hiv) ?_
  simp only [c0]
  exact⟨trivial,by simp only;omega,fun _=>⟨_,_,_,_,_,by simp [c6];exact⟨rfl,rfl,rfl,rfl,rfl⟩⟩⟩
 |call f args=>
  cases out<;>try exact hr.elim
  obtain⟨rfl,h2⟩:=hr
  rcases hc with rfl|hc
  · simp only [a4X]at h
    split at h
    · exact h.elim
    · exact b5U hA hs h2 h
  · exact absurd rfl (hc _ _)
 |upd k cs=>
  cases out<;>try exact hr.elim
  obtain⟨rfl,h2⟩:=hr
  obtain⟨T',H',nk',w,lo,iv⟩:=st
  obtain⟨T,H,nk⟩:=sy
  simp only [a4X]at h
  cases hf:i6 H k with
  |none=>rw [hf]at h;exact h.elim
  |some e=>
   rw [hf]at h
   cases e with
   |row=>exact h.elim
   |blk cs0 ty=>
    obtain⟨e',hf',he⟩:=hs.H _ _ hf
    cases e' with
    |row=>exact he.elim
    |blk b cs' ty'=>
     simp only at hf'
     obtain⟨rfl,_⟩:=he
     have h:=a2l h
     simp only [fin,hf']
     refine a4q hf' ?_
     refine D9 h (b3z (e':= .blk b _ _) hs hf' (by exact⟨rfl,h2⟩) rfl (by rintro⟨_,_,_,_,_,h⟩;cases h) fun j hj=> ?_) (by simp only [c0])
     simp only [a4p,Bool.not_eq_true']
     exact h2.ment (fun q=>a7V (st:=⟨T',H',nk',w,lo,iv⟩) hj q)
 |updR k l=>
  cases out<;>try exact hr.elim
  obtain⟨rfl,h2,h3,h6⟩:=hr
  obtain⟨T',H',nk',w,lo,iv⟩:=st
  obtain⟨T,H,nk⟩:=sy
  simp only [a4X]at h
  cases hf:i6 H k with
  |none=>rw [hf]at h;exact h.elim
  |some e=>
   rw [hf]at h
   cases e with
   |blk=>exact h.elim
   |row z n l0 ty=>
    obtain⟨e',hf',he⟩:=hs.H _ _ hf
    cases e' with
    |blk=>exact he.elim
    |row v n' xs z' ty'=>
     simp only at hf'
     obtain⟨rfl,rfl,rfl,h4,h5,h7⟩:=he
     have h:=a2l h
     simp only [fin,hf']
     refine a4q hf' ?_
     exact D9 h (b3z (e':= .row v n _ z ty) hs hf' (by exact⟨rfl,rfl,rfl,h2,h3,h6 _ _ _ _ _ hf'⟩) rfl (fun _=>⟨_,_,_,_,_,rfl⟩) fun j hj=>rfl) (by simp only [c0])
 |app e esz bytes s x=>
  cases out<;>try exact hr.elim
  obtain⟨rfl,rfl,rfl,h4,h5⟩:=hr
  exact c1I h hs h4 h5
theorem a8e {ops:List Oper} {g:Option (Nat×Bool)} {yesY noY:Sy→Prop} {yes no:St→Prop} (h:a1p ops g sy yesY noY) (hs:Sim A st sy) (h1:∀st' sy',Sim A st' sy'→yesY sy'→yes st') (h2:∀st' sy',Sim A st' sy'→noY sy'→no st'):a4k ops g st yes no:=by
 unfold a1p at h
 split at h
 · exact h1 _ _ hs h
 · rename_i j want
   split at h
   · rename_i d hd
     obtain⟨T',H',nk',w,lo,iv⟩:=st
     obtain⟨T,H,nk⟩:=sy
     have ext:∀b:Bool,Sim A ⟨(d, .v (.bool b))::T',H',nk',w,lo,iv⟩ ⟨(d, .v (.bool b))::T,H,nk⟩:=by
      intro b
      refine⟨fun d' x hx=> ?_,hs.H,hs.nk,fun j hj=> ?_,hs.fH⟩
      · simp only [n7]at hx
        simp only [s7]
        cases hb:Nat.beq d d' with
        |true=>rw [hb]at hx;cases hx;exact .inr ⟨_,rfl,by simp only [c0];exact⟨trivial,rfl⟩⟩
        |false=>rw [hb]at hx;exact hs.T d' x hx
      · simp only [o8,ment];exact hs.fT j hj
     split at h
     · rename_i b hl
       obtain⟨hlt,hl⟩:=a1D hl
       rcases hs.T d _ hl with e|⟨s,h3,h4⟩
       · cases e
       · have:=h4.sc;subst this
         simp only at h3
         simp only [a4k,hd,a5p hlt,h3]
         cases b<;>cases want<;>simp only [VIf]at h⊢
         · exact h1 _ _ (ext false) h
         · exact h2 _ _ (ext false) h
         · exact h2 _ _ (ext true) h
         · exact h1 _ _ (ext true) h
     · rename_i hl
       obtain⟨hlt,hl⟩:=a1D hl
       rcases hs.T d _ hl with e|⟨s,h3,h4⟩
       · cases e
       · simp only [c0]at h4
         subst h4
         simp only at h3
         simp only [a4k,hd,a5p hlt,h3,undef]
         exact h2 _ _ hs h
     · exact h.elim
   · exact h.elim
theorem zOK (hP:POK X.P X.tt):∀t i,D8 X.tt t=some i→(∀x,x∈i.z→a3Z x=true)∧i.z.length=i.n:=fun t i h=>⟨fun x hx=>by rw [a5P];exact(hP.tt t i h).zo x hx,(hP.tt t i h).zn⟩
theorem c1k {x:D} {s:SV} {ok:Nat→Prop} {R:Bool→Nat→Prop} (h:c0 ok w R x s) (hne:x≠ .bad):c3L x=b1V s:=by
 cases x<;>simp only [c0]at h
 · rw [h.1];rfl
 · obtain⟨cs,h,_⟩:=h;cases s<;>simp [a2T]at h<;>rfl
 · obtain⟨y,rfl,_⟩:=h;rfl
 · obtain⟨y,rfl,_⟩:=h;rfl
 · rw [h.1];rfl
 · rw [h.1];rfl
 · rw [h.1];rfl
 · rw [h.1];rfl
 · rw [h.1];rfl
 · rcases h with⟨cs,rfl,_⟩|⟨cs,rfl,_⟩<;>rfl
 · rcases h with⟨cs,_,rfl,_⟩|⟨cs,_,rfl,_⟩<;>rfl
 · obtain⟨y,rfl,_⟩:=h;rfl
 · rw [h];rfl
 · exact absurd rfl hne
theorem c1T {fl:Bool} {i:Nat} {op:Op} {pr:List (Nat×Option Nat)} {K K':List (Nat×Option Nat)→Prop} (h:rdY fl i op sy pr K) (hs:Sim A st sy) (hK:∀pr,K pr→K' pr):rdP (cx X w0 bor) fl i op st pr K':=by
 unfold rdY at h
 split at h
 · rename_i t p
   split at h
   · rename_i x hx
     obtain⟨s,h1,h2,h3⟩:=i5 hs hx
     have ht:=c1k h2 h3
     split at h
     · rename_i k hk
       rw [hk]at ht
       simp only [rdP,h1,←ht]
       exact hK _ h
     · rename_i hk
       rw [hk]at ht
       simp only [rdP,h1,←ht]
       split at h
       · simp only [c0,Rep]at h2
         obtain⟨y,rfl,b,p,xs,rfl,hok,_⟩:=h2
         cases fl with
         |false=>exact hK _ h
         |true=>exact⟨.inr (by rcases hok.1.1 with h|h;exact .inl h;exact .inr h),hK _ h⟩
       · exact h.elim
   · exact h.elim
 · exact h.elim
 · rename_i hno hnl
   unfold rdP
   split
   · rename_i t p;exact absurd rfl (hno t p)
   · exact absurd rfl (hnl _ _ _ _)
   · exact hK _ h
theorem b5Z {ok:Nat→Prop} {R:Bool→Nat→Prop} {e z b:Nat} {s x:D} {s' x':SV} (h4:c0 ok w R s s'):b0x (.app e z b s x)=a4N (.app e z b s' x'):=by
 cases s<;>simp only [c0]at h4
 · rw [h4.1];rfl
 · obtain⟨cs,h,_⟩:=h4;cases s'<;>simp [a2T]at h<;>rfl
 · obtain⟨y,rfl,_⟩:=h4;rfl
 · obtain⟨y,rfl,_⟩:=h4;rfl
 · rw [h4.1];rfl
 · rw [h4.1];rfl
 · rw [h4.1];rfl
 · rw [h4.1];rfl
 · rw [h4.1];rfl
 · rcases h4 with⟨cs,rfl,_⟩|⟨cs,rfl,_⟩<;>rfl
 · rcases h4 with⟨cs,_,rfl,_⟩|⟨cs,_,rfl,_⟩<;>rfl
 · obtain⟨y,rfl,_⟩:=h4;rfl
 · rw [h4];rfl
 · rw [h4];rfl
theorem c0K {oy:a4Z} {out:Out} {ok:Nat→Prop} {R:Bool→Nat→Prop} (h:a6J st.H ok w R oy out):b0x oy=a4N out∨(b0x oy=none∧∃e z b s x,out= .app e z b s x∧a4N out=none):=by
 cases oy<;>cases out<;>try exact h.elim
 · exact .inl rfl
 · exact .inl rfl
 · exact .inl rfl
 · exact .inl rfl
 · obtain⟨rfl,_⟩:=h;exact .inl rfl
 · obtain⟨rfl,_⟩:=h;exact .inl rfl
 · obtain⟨rfl,rfl,rfl,h4,_⟩:=h
   left
   exact b5Z h4
theorem c0t {Xx:Cx} {seq:Bool} {dst:Option Nat} {out:Out} {K K':St→Prop} (h:fin Xx seq st dst K out) (hk:∀st',K st'→K' st'):fin Xx seq st dst K' out:=by
 obtain⟨T,H,nk,ws,lo,iv⟩:=st
 cases out with
 |val s=>exact L6 h hk
 |new cs ty sl=>
  simp only [fin]at h⊢
  cases h1:o8 nk T with
  |false=>rw [h1]at h;exact h.elim
  |true=>cases h2:B4 nk H with
   |false=>rw [h1,h2]at h;exact h.elim
   |true=>cases h3:H5 nk cs with
    |true=>rw [h1,h2,h3]at h;exact h.elim
    |false=>
     rw [h1,h2,h3]at h
     rcases h with h|⟨n,sz,h0,h⟩
     · exact .inl fun b hb hiv=>L6 (h b hb hiv) hk
     · exact .inr ⟨n,sz,h0,fun b hb hiv=>L6 (h b hb hiv) hk⟩
 |call f args=>
  obtain⟨ι,r,φ,h1,h2⟩:=h.ex
  refine⟨ι,r,φ,h1,fun i n w1 a1 a2 a3 a4 a5=> ?_⟩
  have:=h2 i n w1 a1 a2 a3 a4 a5
  cases seq
  · exact L6 this hk
  · exact L6 this hk
 |upd k cs=>
  unfold fin at h⊢
  simp only at h⊢
  cases hf:c6 H k with
  |none=>rw [hf]at h;exact h.elim
  |some e=>
   rw [hf]at h
   cases e with
   |row=>exact h.elim
   |blk=>exact a0u h fun H' hh=>L6 hh hk
 |updR k xs=>
  unfold fin at h⊢
  simp only at h⊢
  cases hf:c6 H k with
  |none=>rw [hf]at h;exact h.elim
  |some e=>
   rw [hf]at h
   cases e with
   |blk=>exact h.elim
   |row=>exact a0u h fun H' hh=>L6 hh hk
 |app e esz bytes s x=>
  obtain⟨k,n,m,v,xs,news,h0,h1⟩:=b1T.ex h
  have reM:∀ {w1:World} {A B:List (Nat×SV)→Hp→Nat→World→Nat→List (Nat×Nat)→Prop},(∀T H nk w lo iv,A T H nk w lo iv→B T H nk w lo iv)→reW seq ⟨T,H,nk,ws,lo,iv⟩ w1 A→reW seq ⟨T,H,nk,ws,lo,iv⟩ w1 B:=by
   intro w1 A B hAB hA
   cases seq
   · exact hAB _ _ _ _ _ _ hA
   · exact hAB _ _ _ _ _ _ hA
  refine b1T.mk ⟨k,n,m,v,xs,news,h0, ?_⟩
  rcases h1 with⟨g1,g2,h1⟩|⟨g1,g2,h1⟩|⟨g1,g2,h1⟩|⟨g1,g2,h1,h1'⟩
  · exact .inl ⟨g1,g2,fun v' w1 a1 a2 a3=>reM (fun _ _ _ _ _ _ ⟨b1,b2,b3⟩=>⟨b1,b2,L6 b3 hk⟩) (h1 v' w1 a1 a2 a3)⟩
  · exact .inr (.inl ⟨g1,g2,fun v' w1 a1 a2 a3=>reM (fun _ _ _ _ _ _ b=>a0u b fun H' hh=>by rw [a2u]at hh⊢;exact L6 hh hk) (h1 v' w1 a1 a2 a3)⟩)
  · exact .inr (.inr (.inl ⟨g1,g2,fun v' w1 a1 a2 a3=>reM (fun _ _ _ _ _ _ b=>a0u b fun H' hh=>by rw [a2u]at hh⊢;exact L6 hh hk) (h1 v' w1 a1 a2 a3)⟩))
  · exact .inr (.inr (.inr ⟨g1,g2,fun a=>L6 (h1 a) hk,fun a v' w1 a1 a2 a3=>reM (fun _ _ _ _ _ _ ⟨b1,b2,b3⟩=>⟨b1,b2,L6 b3 hk⟩) (h1' a v' w1 a1 a2 a3)⟩))
theorem b7X (hA:∀b,(w0.heap.size≤b∨b∈bor)→A b) {i:Nat} {S:List Nat} {fl:Bool} {pr:List (Nat×Option Nat)} {o:Oper} {K:Sy→List (Nat×Option Nat)→Prop} {K':St→List (Nat×Option Nat)→Prop} {oy:a4Z} {out:Out} (h:b4v X i S fl pr o sy K oy)
 (hr:a6J st.H (okS A st) st.w (u9 st) oy out) (hs:Sim A st sy) (hK:∀st' sy' pr,Sim A st' sy'→K sy' pr→K' st' pr):b4E (cx X w0 bor) i S fl pr o st K' out:=by
 have mono:∀(seq:Bool) (dst:Option Nat) (out:Out),fin (cx X w0 bor) seq st dst (fun st'=>∃sy',K sy' pr∧Sim A st' sy') out→fin (cx X w0 bor) seq st dst (fun st'=>K' st' pr) out:=fun seq dst out h=>c0t h fun st' ⟨sy',h1,h2⟩=>hK st' sy' pr h2 h1
 unfold b4v at h
 unfold b4E
 split at h
 · rename_i hv
   simp only [hv]
   cases oy<;>try exact h.elim
   cases out<;>try exact hr.elim
   refine c1T h hs fun pr hp=> ?_
   exact L6 (D9 hp hs hr.1) fun st' ⟨sy',h1,h2⟩=>hK st' sy' pr h2 h1
 · rename_i hv
   simp only [hv]
   split at h
   · rename_i ha
     simp only [ha]
     cases oy<;>try exact h.elim
     · cases out<;>try exact hr.elim
       rename_i cs ty sl cs' ty' sl'
       cases sl with
       |none=>
        obtain⟨rfl,h2,rfl⟩:=hr
        exact mono _ _ _ (a3K hA h (by exact⟨rfl,h2,rfl⟩) hs (.inl rfl))
       |some p=>exact h.elim
     · cases out<;>try exact hr.elim
       exact mono _ _ _ (a3K hA h hr hs (.inl rfl))
   · rename_i ha
     simp only [ha]
     split at h
     · rename_i hc
       simp only [hc]
       cases oy<;>try exact h.elim
       cases out<;>try exact hr.elim
       exact mono _ _ _ (a3K hA h hr hs (.inl rfl))
     · rename_i hc
       simp only [hc]
       have hk:b0x oy=a4N out:=by
        rcases c0K hr with h|⟨h1,_,_,_,_,_,_,h2⟩
        · exact h
        · rw [h1,h2]
       cases oy<;>try exact h.elim
       all_goals (cases out<;>try exact hr.elim)
       all_goals (
        have h':=h
        try simp only at h'
        try simp only
        rw [hk]at h'
        split
        · rename_i k hkk
          rw [hkk]at h'
          simp only at h'
          cases hse:b4F pr S k with
          |true=>rw [hse]at h';exact mono _ _ _ (a3K hA h' hr hs (.inl rfl))
          |false=>rw [hse]at h';exact h'.elim
        · rename_i hkk
          rw [hkk]at h'
          exact mono _ _ _ (a3K hA h' hr hs (.inl rfl)))
end
end Go.Sx
namespace Go.Sx
open Go Go.RowKit
mutual
theorem b5x {ok:Nat→Prop} {w:World} {R:Bool→Nat→Prop}:∀(x y:D) (s:SV),leD x y→c0 ok w R x s→c0 ok w R y s
 | .v x,y,v,h,hr=>by
  simp only [leD]at h
  rcases h with rfl|⟨rfl,z,rfl⟩
  · exact hr
  · simp only [c0,Rep]at hr⊢
    exact⟨_,hr.1,none,0,rfl,Nat.le_refl _,by simp,by simp,rfl, .inl rfl⟩
 | .agg l,y,v,h,hr=>by
  simp only [leD]at h
  obtain⟨r,rfl,h⟩:=h
  simp only [c0]at hr⊢
  obtain⟨a,h1,h2,h3⟩:=hr
  exact⟨a,h1,a9F l r _ h h2,b3C l r h h3⟩
 | .tup l,y,v,h,hr=>by
  simp only [leD]at h
  obtain⟨r,rfl,h⟩:=h
  simp only [c0]at hr⊢
  rcases hr with⟨a,h1,h2⟩|⟨a,h1,h2⟩
  · exact .inl ⟨a,h1,a9F l r _ h h2⟩
  · exact .inr ⟨a,h1,a9F l r _ h h2⟩
 | .lst _ _ _,y,v,h,hr=>by simp only [leD]at h;subst h;exact hr
 | .ptr _ _,y,v,h,hr=>by simp only [leD]at h;subst h;exact hr
 | .mp _,y,v,h,hr=>by simp only [leD]at h;subst h;exact hr
 | .fn _ _ _,y,v,h,hr=>by simp only [leD]at h;subst h;exact hr
 | .own _ _,y,v,h,hr=>by simp only [leD]at h;subst h;exact hr
 | .ownx _ _,y,v,h,hr=>by simp only [leD]at h;subst h;exact hr
 | .row _ _,y,v,h,hr=>by simp only [leD]at h;subst h;exact hr
 | .elr _ _ _ _,y,v,h,hr=>by simp only [leD]at h;subst h;exact hr
 | .osl _ _ _ _ _,y,v,h,hr=>by simp only [leD]at h;subst h;exact hr
 | .und,y,v,h,hr=>by simp only [leD]at h;subst h;exact hr
 | .bad,y,v,h,hr=>by simp only [leD]at h;subst h;exact hr
theorem a9F {ok:Nat→Prop} {w:World} {R:Bool→Nat→Prop}:∀(l r:List D) (v:List SV),a2b l r→b8 ok w R l v→b8 ok w R r v
 | [], [],v,_,hr=>hr
 |x::l,y::r,v::vs,h,hr=>by
  simp only [a2b]at h
  simp only [b8]at hr⊢
  exact⟨b5x x y v h.1 hr.1,a9F l r vs h.2 hr.2⟩
 |_::_,_::_, [],_,hr=>by simp [b8]at hr
 | [],_::_,_,h,_=>by simp [a2b]at h
 |_::_, [],_,h,_=>by simp [a2b]at h
theorem b3C:∀(l r:List D),a2b l r→u2 l=true→u2 r=true
 | [], [],_,_=>rfl
 |x::l,y::r,h,hf=>by
  simp only [a2b]at h
  have h1:=s6 hf List.mem_cons_self
  have h2:a3G y=true:=by
   have h:=h.1
   cases x<;>simp [a3G]at h1<;>simp only [leD]at h
   · rcases h with rfl|⟨_,z,rfl⟩<;>rfl
   all_goals (subst h;rfl)
  simp only [u2,h2]
  exact b3C l r h.2 (L8 fun d hd=>s6 hf (List.mem_cons_of_mem _ hd))
 | [],_::_,h,_=>by simp [a2b]at h
 |_::_, [],h,_=>by simp [a2b]at h
end
section
variable {A : Nat → Prop} {X : Cy} {w0 : World} {bor : List Nat} {st : St} {sy : Sy} {a : Act} {w : World} {Q : Exit → Act → World → Prop}
theorem b5q {ops:List Oper} {T:List (Nat×D)} {d:Nat} {x:D} (h:n7 (a5k ops T) d=some x) (hx:x≠ .bad):n7 T d=some x∧∀(T':List (Nat×SV)),s7 (a2X ops T') d=s7 T' d:=by
 induction ops with
 |nil=>exact⟨h,fun _=>rfl⟩
 |cons o l ih=>
  simp only [a5k]at h
  split at h
  · rename_i d' ha hd
    simp only [n7]at h
    cases hb:Nat.beq d' d with
    |true=>rw [hb]at h;cases h;exact absurd rfl hx
    |false=>
     rw [hb]at h
     obtain⟨h1,h2⟩:=ih h
     refine⟨h1,fun T'=> ?_⟩
     simp only [a2X,ha,hd,s7,hb];exact h2 T'
  · rename_i hno
    obtain⟨h1,h2⟩:=ih h
    refine⟨h1,fun T'=> ?_⟩
    simp only [a2X]
    exact h2 T'
theorem b1t {T:List (Nat×D)} {H:Hy} {nk:Nat} {T':List (Nat×SV)} {H':Hp} {nk' lo:Nat} {ws:World} {iv:List (Nat×Nat)} {ops:List Oper} (hs:Sim A ⟨T',H',nk',ws,lo,iv⟩ ⟨T,H,nk⟩):
 Sim A ⟨a2X ops T',H',nk',ws,ws.heap.size, []⟩ ⟨a5k ops T,H,nk⟩:=by
 have hok:∀b,okS A ⟨T',H',nk',ws,lo,iv⟩ b→okS A ⟨a2X ops T',H',nk',ws,ws.heap.size, []⟩ b∧ws.heap[b]?=ws.heap[b]?:=fun b hb=>⟨⟨⟨.inl hb.2.1,hb.1.2⟩,hb.2.1,hb.2.2⟩,rfl⟩
 refine⟨fun d x hx=> ?_,fun k e he=> ?_,hs.nk,fun j hj=> ?_,hs.fH⟩
 · by_cases hb:x= .bad
   · exact .inl hb
   · obtain⟨h1,h2⟩:=b5q hx hb
     rcases hs.T d x h1 with h|⟨s,h3,h4⟩
     · exact .inl h
     · exact .inr ⟨s,by simp only [h2];exact h3,c0.mono hok (fun _ _ h=>h) _ _ h4⟩
 · obtain⟨e',h1,h2⟩:=hs.H k e he
   exact⟨e',h1,a1R.mono hok (fun _ _ h=>h) h2⟩
 · have:=hs.fT j hj
   simp only at this⊢
   clear hs hok hj
   induction ops with
   |nil=>exact this
   |cons o l ih=>
    simp only [a2X]
    split
    · simp only [o8,ment];exact ih
    · exact ih
mutual
def fwS:D→SV→SV
 | .row k _,_=> .row k
 | .agg l,s=>match a2T s with|some cs=> .agg (fwL l cs)|none=>s
 | .tup l, .tup cs=> .tup (fwL l cs)
 | .tup l, .v (.tuple a)=> .tup (fwL l (vs a.toList))
 | .fn f x y, .fn _ a b=> .fn f (fwL x a) (fwL y b)
 | .fn f x y, .v (.func _ p q)=> .fn f (fwL x (vs p.toList)) (fwL y (vs q.toList))
 |_,s=>s
def fwL:List D→List SV→List SV
 |x::l,s::r=>fwS x s::fwL l r
 |_,_=> []
end
def fwB:List D→List SV→List SV
 | .bad::l,_::r=> .bad::fwB l r
 |x::l,s::r=>fwS x s::fwB l r
 |_,_=> []
def fwH (n:Nat) (H:Hp):Hy→Hp
 | []=> []
 |(k, .blk ds ty)::r=>(match c6 H k with|some (.blk b cs ty')=>(k, .blk b (fwB ds cs) ty')|_=>(k, .row (.slice none 0 0) 0 [] 0 ty))::fwH n H r
 |(k, .row z m l ty)::r=>(match Nat.blt k n,c6 H k with|true,some (.row v m' xs z' ty')=>(k, .row v m' xs z' ty')|_,_=>(k, .row (.slice none 0 0) 0 [] z ty))::fwH n H r
def fwT (T:List (Nat×SV)):List (Nat×D)→List (Nat×SV)
 | []=> []
 |(d,x)::r=>(match s7 T d with|some s=>(d,fwS x s)|none=>(d, .bad))::fwT T r
def a4T (n:Nat):Hy→List (Option Nat)
 | []=> []
 |(k, .blk _ _)::r=>some k::a4T n r
 |(k, .row _ _ _ _)::r=>(match Nat.blt k n with|true=>some k|false=>none)::a4T n r
structure b6E (ok:Nat→Prop) (w:World) (n:Nat) (ks:List Nat) (R R':Bool→Nat→Prop) (H H':Hp):Prop where
 R:∀q j,J8 j ks=true→j<n→R q j→R' q j
 old:∀j,J8 j ks=true→j<n→bOf H' j=bOf H j∧j2 H' j=j2 H j
 new:∀j,J8 j ks=true→¬j<n→R' true j∧j2 H' j= .slice none 0 0
theorem a0I {a b:Nat}:Nat.blt a b=true↔a<b:=by simp [Nat.blt_eq]
mutual
theorem b5d {ok:Nat→Prop} {w:World} {n:Nat} {ks:List Nat} {R R':Bool→Nat→Prop} {H H':Hp} (hz:b6E ok w n ks R R' H H'):∀(x:D) (s:SV),c0 ok w R (a0F n x) s→inK n ks x=true→c0 ok w R' x (fwS x s)∧den H' (fwS x s)=den H s
 | .v x,s,h,_=>by simp only [a0F]at h;simp only [fwS];refine⟨h, ?_⟩;simp only [c0]at h;rw [h.1];rfl
 | .lst z m l,s,h,_=>by simp only [a0F]at h;simp only [fwS];refine⟨h, ?_⟩;simp only [c0]at h;obtain⟨y,rfl,_⟩:=h;rfl
 | .ptr l o,s,h,_=>by simp only [a0F]at h;simp only [fwS];refine⟨h, ?_⟩;simp only [c0]at h;obtain⟨y,rfl,_⟩:=h;rfl
 | .mp l,s,h,_=>by simp only [a0F]at h;simp only [fwS];refine⟨h, ?_⟩;simp only [c0]at h;obtain⟨y,rfl,_⟩:=h;rfl
 | .und,s,h,_=>by simp only [a0F]at h;simp only [fwS];refine⟨h, ?_⟩;simp only [c0]at h;rw [h];rfl
 | .bad,s,h,hk=>by simp [inK]at hk
 | .own j o,s,h,hk=>by
  simp only [a0F,c0]at h
  simp only [inK]at hk
  obtain⟨rfl,h⟩:=h
  split at hk
  · rename_i hb
    have hj:=a0I.1 hb
    simp only [fwS,c0]
    exact⟨⟨trivial,hz.R _ _ hk hj h⟩,by simp only [den,(hz.old j hk hj).1]⟩
  · cases hk
 | .ownx j o,s,h,hk=>by
  simp only [a0F,c0]at h
  simp only [inK]at hk
  obtain⟨rfl,h⟩:=h
  split at hk
  · rename_i hb
    have hj:=a0I.1 hb
    simp only [fwS,c0]
    exact⟨⟨trivial,hz.R _ _ hk hj h⟩,by simp only [den,(hz.old j hk hj).1]⟩
  · cases hk
 | .elr j z i o,s,h,hk=>by
  simp only [a0F,c0]at h
  simp only [inK]at hk
  obtain⟨rfl,h⟩:=h
  split at hk
  · rename_i hb
    have hj:=a0I.1 hb
    simp only [fwS,c0]
    exact⟨⟨trivial,hz.R _ _ hk hj h⟩,by simp only [den,(hz.old j hk hj).1]⟩
  · cases hk
 | .osl j o z m c,s,h,hk=>by
  simp only [a0F,c0]at h
  simp only [inK]at hk
  obtain⟨rfl,h⟩:=h
  split at hk
  · rename_i hb
    have hj:=a0I.1 hb
    simp only [fwS,c0]
    exact⟨⟨trivial,hz.R _ _ hk hj h⟩,by simp only [den,(hz.old j hk hj).1,(hz.old j hk hj).2]⟩
  · cases hk
 | .row j z,s,h,hk=>by
  simp only [inK]at hk
  simp only [a0F]at h
  simp only [fwS,c0]
  cases hb:Nat.blt j n with
  |true=>
   rw [hb]at h
   simp only [c0]at h
   obtain⟨rfl,h⟩:=h
   have hj:=a0I.1 hb
   exact⟨⟨trivial,hz.R _ _ hk hj h⟩,by simp only [den,(hz.old j hk hj).2]⟩
  |false=>
   rw [hb]at h
   have hj:¬j<n:=fun h=>by rw [a0I.2 h]at hb;cases hb
   have:=h.sc;subst this
   exact⟨⟨trivial,(hz.new j hk hj).1⟩,by simp only [den,(hz.new j hk hj).2]⟩
 | .agg l,s,h,hk=>by
  simp only [a0F,c0]at h
  simp only [inK]at hk
  obtain⟨cs,h1,h2,h3⟩:=h
  obtain⟨g1,g2⟩:=a2Z hz l cs h2 hk
  simp only [fwS,h1,c0]
  refine⟨⟨_,rfl,g1, ?_⟩, ?_⟩
  · refine L8 fun d hd=> ?_
    have:∀l:List D,u2 (a1f n l)=true→∀d∈l,a3G d=true:=by
     intro l
     induction l with
     |nil=>simp
     |cons x l ih=>
      intro hf d hd
      have h0:a3G (a0F n x)=true:=s6 hf List.mem_cons_self
      rcases List.mem_cons.1 hd with rfl|hd
      · cases d<;>simp [a0F,a3G]at h0⊢
      · exact ih (L8 fun d hd=>s6 hf (List.mem_cons_of_mem _ hd)) d hd
    exact this l h3 d hd
  · cases s<;>simp [a2T]at h1
    · rename_i y;cases y<;>simp at h1
      subst h1
      rw [G9]at g2
      simp [den,g2]
    · subst h1;simp [den,g2]
 | .tup l,s,h,hk=>by
  simp only [a0F,c0]at h
  simp only [inK]at hk
  rcases h with⟨cs,rfl,h2⟩|⟨a,rfl,h2⟩
  · obtain⟨g1,g2⟩:=a2Z hz l cs h2 hk
    simp only [fwS,c0]
    exact⟨.inl ⟨_,rfl,g1⟩,by simp [den,g2]⟩
  · obtain⟨g1,g2⟩:=a2Z hz l _ h2 hk
    rw [G9]at g2
    simp only [fwS,c0]
    exact⟨.inl ⟨_,rfl,g1⟩,by simp [den,g2]⟩
 | .fn f x y,s,h,hk=>by
  simp only [a0F,c0]at h
  simp only [inK]at hk
  split at hk
  · rename_i hx
    rcases h with⟨p,q,rfl,h2,h3⟩|⟨p,q,rfl,h2,h3⟩
    · obtain⟨g1,g2⟩:=a2Z hz x p h2 hx
      obtain⟨g3,g4⟩:=a2Z hz y q h3 hk
      simp only [fwS,c0]
      exact⟨.inl ⟨_,_,rfl,g1,g3⟩,by simp [den,g2,g4]⟩
    · obtain⟨g1,g2⟩:=a2Z hz x _ h2 hx
      obtain⟨g3,g4⟩:=a2Z hz y _ h3 hk
      rw [G9]at g2 g4
      simp only [fwS,c0]
      exact⟨.inl ⟨_,_,rfl,g1,g3⟩,by simp [den,g2,g4]⟩
  · cases hk
theorem a2Z {ok:Nat→Prop} {w:World} {n:Nat} {ks:List Nat} {R R':Bool→Nat→Prop} {H H':Hp} (hz:b6E ok w n ks R R' H H'):∀(l:List D) (r:List SV),b8 ok w R (a1f n l) r→b5l n ks l=true→b8 ok w R' l (fwL l r)∧d7 H' (fwL l r)=d7 H r
 | [], [],_,_=>⟨trivial,rfl⟩
 |x::l,s::r,h,hk=>by
  simp only [a1f,b8]at h
  simp only [b5l]at hk
  split at hk
  · rename_i hx
    obtain⟨g1,g2⟩:=b5d hz x s h.1 hx
    obtain⟨g3,g4⟩:=a2Z hz l r h.2 hk
    simp only [fwL]
    exact⟨⟨g1,g3⟩,by simp [d7,g2,g4]⟩
  · cases hk
 | [],_::_,h,_=>by simp [a1f,b8]at h
 |_::_, [],h,_=>by simp [a1f,b8]at h
end
def a8I (ok:Nat→Prop) (w:World) (R:Bool→Nat→Prop):List D→List SV→Prop
 | [], []=>True
 | .bad::l,_::r=>a8I ok w R l r
 |x::l,s::r=>c0 ok w R x s∧a8I ok w R l r
 |_,_=>False
theorem b3O {ok:Nat→Prop} {w:World} {R:Bool→Nat→Prop}:∀(l r:List D) (v:List SV),a8t l r→b8 ok w R l v→a8I ok w R r v
 | [], [], [],_,_=>trivial
 |x::l,y::r,v::vs,h,hr=>by
  simp only [b8]at hr
  cases y<;>simp only [a8t]at h<;>simp only [a8I]
  case bad=>exact b3O l r vs h hr.2
  all_goals exact⟨b5x x _ v h.1 hr.1,b3O l r vs h.2 hr.2⟩
 |_::_, [],_,h,_=>by simp [a8t]at h
 | [],y::_,_,h,_=>by cases y<;>simp [a8t]at h
 |_::_,_::_, [],_,hr=>by simp [b8]at hr
 | [], [],_::_,_,hr=>by simp [b8]at hr
theorem a7K {ok:Nat→Prop} {w:World} {n:Nat} {ks:List Nat} {R R':Bool→Nat→Prop} {H H':Hp} (hz:b6E ok w n ks R R' H H'):∀(l:List D) (r:List SV),a8I ok w R (a1f n l) r→b3i n ks l=true→b8 ok w R' l (fwB l r)∧b3W H H' r (fwB l r)
 | [], [],_,_=>⟨trivial,trivial⟩
 | [],_::_,h,_=>by simp [a1f,a8I]at h
 |x::l, [],h,_=>by
  simp only [a1f]at h
  cases hx:a0F n x<;>rw [hx]at h<;>simp [a8I]at h
 |x::l,s::r,h,hk=>by
  have gen:x≠ .bad→(a8I ok w R (a0F n x::a1f n l) (s::r)→c0 ok w R (a0F n x) s∧a8I ok w R (a1f n l) r)→(inK n ks x=true∧a3G x=true∧b3i n ks l=true)→fwB (x::l) (s::r)=fwS x s::fwB l r→b8 ok w R' (x::l) (fwB (x::l) (s::r))∧b3W H H' (s::r) (fwB (x::l) (s::r)):=by
   intro hb h1 h2 h3
   obtain⟨g1,g2⟩:=h1 h
   obtain⟨k1,k2,k3⟩:=h2
   obtain⟨q1,q2⟩:=b5d hz x s g1 k1
   obtain⟨q3,q4⟩:=a7K hz l r g2 k3
   rw [h3]
   refine⟨⟨q1,q3⟩, .inr ⟨c0.ne g1 ?_,q2.symm⟩,q4⟩
   cases x<;>simp only [a0F]<;>first|exact absurd rfl hb|(split<;>simp)|simp
  cases x
  case bad=>
   simp only [a1f,a0F,a8I]at h
   simp only [b3i]at hk
   obtain⟨q3,q4⟩:=a7K hz l r h hk
   simp only [fwB]
   exact⟨⟨by simp only [c0],q3⟩, .inl rfl,q4⟩
  case row k z=>
   refine gen (by simp) (fun h=> ?_) ?_ rfl
   · simp only [a0F]at h⊢
     split at h<;>simpa only [a8I]using h
   · simp only [b3i]at hk
     split at hk
     · rename_i h1 h2;exact⟨h1,h2,hk⟩
     · cases hk
  all_goals
   refine gen (by simp) (fun h=>by simpa only [a0F,a8I]using h) ?_ rfl
   simp only [b3i]at hk
   split at hk
   · rename_i h1 h2;exact⟨h1,h2,hk⟩
   · cases hk
end
end Go.Sx
