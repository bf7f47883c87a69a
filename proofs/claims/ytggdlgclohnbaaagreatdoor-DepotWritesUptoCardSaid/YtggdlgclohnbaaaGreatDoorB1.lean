/- The walk over pure data: its definitions, that it is sound, and what may be read at a type. -/
import Derived.Test.YtggdlgclohnbaaaGreatDoorA2
set_option linter.unusedVariables false
set_option linter.unusedSimpArgs false
namespace Go.Sx
open Go Go.RowKit
inductive D where
 |v (x:Value)
 |agg (l:List D)
 |lst (z n:Nat) (l:List D)
 |ptr (l:List D) (o:Nat)
 |own (k o:Nat)
 |ownx (k o:Nat)
 |row (k z:Nat)
 |elr (k z i o:Nat)
 |osl (k o z n c:Nat)
 |tup (l:List D)
 |fn (f:FuncId) (first caps:List D)
 |mp (l:List (Int×Nat))
 |und
 |bad
inductive E where
 |blk (cs:List D) (ty:TypeId)
 |row (z n:Nat) (l:List D) (ty:TypeId)
 |mp (es:List (Value×Value)) (ty:MTy)
abbrev Hy:=List (Nat×E)
structure Sy where
 T:List (Nat×D)
 H:Hy
 nk:Nat
structure Cy where
 P:Program
 tt:List (Nat×TI)
 nt:Nat
 pl:List (Nat×PT)
 ln:List Nat:= []
 un:List Nat:= []
 dfs:List Deferred:= []
 inl:List Nat:= []
 sv:List Value:= []
def j7:Hy→Nat→Option E
 | [],_=>none
 |(k',e)::H,k=>match Nat.beq k' k with|true=>some e|false=>j7 H k
def o4:List (Nat×D)→Nat→Option D
 | [],_=>none
 |(d,s)::T,k=>match Nat.beq d k with|true=>some s|false=>o4 T k
def a2U:D→Bool
 | .v _=>true
 | .lst _ _ _=>true
 | .ptr _ _=>true
 | .own _ _=>true
 | .ownx _ _=>true
 | .row _ _=>true
 | .elr _ _ _ _=>true
 | .osl _ _ _ _ _=>true
 | .fn _ _ _=>true
 | .mp _=>true
 |_=>false
def u7:List D→Bool
 | []=>true
 |d::l=>match a2U d with|true=>u7 l|false=>false
def ofV:Value→Option D
 | .agg a=>match a.toList.all a0K with|true=>some (.agg (a.toList.map .v))|false=>none
 | .tuple _=>none
 |x=>some (.v x)
def a8j (T:List (Nat×D)) (d:Nat):Option D:=match Nat.blt d 1000000 with|true=>o4 T d|false=>none
theorem a1a {T:List (Nat×D)} {d:Nat} {s:D} (h:a8j T d=some s):d<E7∧o4 T d=some s:=by
 unfold a8j at h;split at h
 · rename_i hb;exact⟨by simpa [a1h]using hb,h⟩
 · cases h
theorem a5p {T:List (Nat×SV)} {d:Nat} (h:d<E7):a9p T d=u1 T d:=by
 unfold a9p;rw [show Nat.blt d 1000000=true by simpa [a1h]using h]
def evY (st:Sy):Operand→Option D
 | .tmp t=>match a8j st.T t with|some .bad=>none|r=>r
 | .const v=>ofV v
 | .func f=>some (.fn f [] [])
 | .global _=>none
def a6N (st:Sy):List Operand→Option (List D)
 | []=>some []
 |x::l=>match evY st x,a6N st l with|some s,some r=>some (s::r)|_,_=>none
def takeD:Nat→List D→Option (List D)
 |0,_=>some []
 |_+1, []=>none
 |_+1, .bad::_=>none
 |n+1,x::l=>match takeD n l with|some r=>some (x::r)|none=>none
def dropD:Nat→List D→List D
 |0,l=>l
 |_+1, []=> []
 |n+1,_::l=>dropD n l
def mkD (agg:Bool) (l:List D):Option D:=
 match agg,l with
 |true,l=>match u7 l with|true=>some (.agg l)|false=>none
 |false, [x]=>match a2U x with|true=>some x|false=>none
 |false,_=>none
def a8v:D→Option (List D)
 | .agg l=>some l
 | .tup _=>none
 | .und=>none
 | .bad=>none
 |s=>some [s]
def c4I:D→Option (List D)
 | .agg l=>some l
 |_=>none
def b0c:Bool→D→Option (List D)
 |true, .agg l=>some l
 |false, .v (.bool b)=>some [.v (.bool b)]
 |_,_=>none
def c1r:CK→D→D→Option Bool
 | .int k, .v (.int ka a), .v (.int kb b)=>match kEq k ka,kEq k kb with|true,true=>some (a==b)|_,_=>none
 | .bool, .v (.bool a), .v (.bool b)=>some (a==b)
 | .str, .v (.string a), .v (.string b)=>some (a.toList==b.toList)
 |_,_,_=>none
def a4z:List CK→List D→List D→Option Bool
 | [], [], []=>some true
 | [k], [x], [y]=>c1r k x y
 |k::ks,x::l,y::r=>match c1r k x y,a4z ks l r with|some a,some b=>some (a&&b)|_,_=>none
 |_,_,_=>none
def b4l:D→Bool
 | .v _=>true
 | .lst _ _ _=>true
 | .ptr _ _=>true
 |_=>false
def N2:List D→Bool
 | []=>true
 |d::l=>match b4l d with|true=>N2 l|false=>false
inductive a4D where
 |val (s:D)
 |new (cs:List D) (ty:TypeId) (sl:Option (Nat×Nat))
 |newR (l:List D) (ty:TypeId) (z n:Nat)
 |call (f:FuncId) (args:List D)
 |upd (key:Nat) (cs:List D)
 |updR (key:Nat) (l:List D)
 |app (e esz bytes:Nat) (s x:D)
def el (l:List D) (z i:Nat):List D:=(l.drop (i*z)).take z
def a7h (l:List D) (z i:Nat) (cs:List D):List D:=l.take (i*z)++cs++l.drop (i*z+z)
def a1E (K:a4D→Prop):Option D→Prop
 |some s=>K (.val s)
 |none=>False
def a9g (K:a4D→Prop):Out→Prop
 | .val (.v x)=>match a0K x with|true=>K (.val (.v x))|false=>False
 |_=>False
def b8b (st:Sy) (len cap:Nat) (lo hi mx:Option Operand) (K:Nat→Nat→Nat→Prop):Prop:=
 match mx with
 |none=>match hi with
  |none=>match lo with
   |none=>K 0 len cap
   |some l=>match evY st l with
    |some (.v (.int _ z))=>(0≤z∧z≤len)∧K z.toNat len cap
    |_=>False
  |some h=>match evY st h with
   |some (.v (.int _ y))=>(0≤y∧y≤cap)∧match lo with
    |none=>K 0 y.toNat cap
    |some l=>match evY st l with
     |some (.v (.int _ z))=>(0≤z∧z≤y)∧K z.toNat y.toNat cap
     |_=>False
   |_=>False
 |some _=>False
def c5I (st:Sy) (cap:Nat) (lo hi:Option Operand) (m:Operand) (K:Nat→Nat→Prop):Prop:=
 match evY st m,hi with
 |some (.v (.int _ x)),some h=>(0≤x∧x≤cap)∧match evY st h with
  |some (.v (.int _ y))=>(0≤y∧y≤x)∧match lo with
   |none=>K 0 y.toNat
   |some l=>match evY st l with
    |some (.v (.int _ z))=>(0≤z∧z≤y)∧K z.toNat y.toNat
    |_=>False
  |_=>False
 |_,_=>False
def b2j (X:Cy) (st:Sy) (b:Builtin) (args:List Operand) (tys:List TypeId) (K:a4D→Prop):Prop:=
 match b,tys with
 | .len,t::_=>match A5 X.tt t,a6N st args with
  |some ⟨_,_,_,_, .slice _ _ _⟩,some [.v (.slice none 0 0)]=>K (.val (.v (.int .i64 0)))
  |some ⟨_,_,_,_, .slice _ _ _⟩,some [.lst _ n _]=>K (.val (.v (.int .i64 n)))
  |some ⟨_,_,_,_, .slice _ _ _⟩,some [.osl _ _ _ n _]=>K (.val (.v (.int .i64 n)))
  |some ⟨_,_,_,_, .slice _ _ _⟩,some [.row k _]=>match j7 st.H k with
   |some (.row _ n _ _)=>K (.val (.v (.int .i64 n)))
   |_=>False
  |some ⟨_,_,_,_, .str⟩,some [.v (.string s)]=>K (.val (.v (.int .i64 s.size)))
  |_,_=>False
 | .max,_=>match a6N st args with
  |some [.v (.int ka a), .v (.int _ b)]=>K (.val (.v (.int ka (if b>a then b else a))))
  |some [.v (.int ka a), .v (.int _ b), .v (.int _ c)]=>K (.val (.v (.int ka (if c>(if b>a then b else a)then c else(if b>a then b else a)))))
  |_=>False
 | .min,_=>match a6N st args with
  |some [.v (.int ka a), .v (.int _ b)]=>K (.val (.v (.int ka (if b<a then b else a))))
  |_=>False
 | .append,t::u::_=>match Nat.beq t u,A5 X.tt t,a6N st args with
  |true,some ⟨_,_,_,_, .slice e esz bytes⟩,some [s,x]=>match A5 X.tt e with
   |some i=>match Nat.beq i.n esz with
    |true=>K (.app e esz bytes s x)
    |false=>False
   |none=>False
  |_,_,_=>False
 |_,_=>False
def b7W (X:Cy) (fs:List (Nat×Nat×Nat)) (f:Nat) (s:D) (K:a4D→Prop):Prop:=
 match a7X fs f,c4I s with
 |some (fty,off,n),some l=>match A5 X.tt fty,takeD n (dropD off l)with
  |some i,some r=>match Nat.beq i.n n with
   |true=>a1E K (mkD i.agg r)
   |false=>False
  |_,_=>False
 |_,_=>False
def b0G (fs:List (Nat×Nat×Nat)) (st:Sy):List (Nat×Operand)→List D→Option (List D)
 | [],l=>some l
 |(i,x)::ps,l=>match a7X fs i,evY st x with
  |some (_,off,n),some s=>match a8v s with
   |some cs=>match Nat.beq cs.length n,u7 cs with
    |true,true=>match over off cs l with
     |some r=>b0G fs st ps r
     |none=>none
    |_,_=>none
   |none=>none
  |_,_=>none
def a2S (esz:Nat) (st:Sy):List (Nat×Operand)→List D→Option (List D)
 | [],l=>some l
 |(i,x)::ps,l=>match evY st x with
  |some s=>match a8v s with
   |some cs=>match Nat.beq cs.length esz,u7 cs with
    |true,true=>match over (i*esz) cs l with
     |some r=>a2S esz st ps r
     |none=>none
    |_,_=>none
   |none=>none
  |_=>none
def a9O:Nat→List D→List D
 |0,_=> []
 |n+1,l=>l++a9O n l
def vD:List Value→List D
 | []=> []
 |x::l=> .v x::vD l
def c2E (st:Sy) (i:TI) (p:D) (K:a4D→Prop):Prop:=
 match p with
 | .own k o=>match j7 st.H k with
  |some (.blk cs _)=>match takeD i.n (dropD o cs)with
   |some l=>a1E K (mkD i.agg l)
   |none=>False
  |_=>False
 | .ownx k o=>match j7 st.H k with
  |some (.blk cs _)=>∃l,(takeD i.n (dropD o cs)=some l)∧a1E K (mkD i.agg l)
  |_=>False
 | .elr k z j o=>match j7 st.H k with
  |some (.row z' n l _)=>match Nat.beq z' z with
   |true=>∃cs,(el l z j=cs∧j<n)∧match takeD i.n (dropD o cs),Nat.ble (o+i.n) z with
    |some l,true=>a1E K (mkD i.agg l)
    |_,_=>False
   |false=>False
  |_=>False
 | .ptr l o=>match takeD i.n (dropD o l)with
  |some l=>a1E K (mkD i.agg l)
  |none=>False
 |_=>False
def b7L (st:Sy) (i:TI) (p s:D) (K:a4D→Prop):Prop:=
 match a8v s with
 |some l=>match Nat.beq l.length i.n,u7 l with
  |true,true=>match p with
   | .own k o=>match j7 st.H k with
    |some (.blk cs _)=>match over o l cs with
     |some cs'=>K (.upd k cs')
     |none=>False
    |_=>False
   | .ownx k o=>match j7 st.H k with
    |some (.blk cs _)=>∃cs',over o l cs=some cs'∧K (.upd k cs')
    |_=>False
   | .elr k z j o=>match j7 st.H k with
    |some (.row z' n r _)=>match Nat.beq z' z,N2 l with
     |true,true=>∃cs,(el r z j=cs∧j<n)∧match over o l cs with
      |some cs'=>∃r',a7h r z j cs'=r'∧K (.updR k r')
      |none=>False
     |_,_=>False
    |_=>False
   |_=>False
  |_,_=>False
 |none=>False
def b0p (s:D) (off:Nat):Option D:=
 match s with
 | .own k o=>some (.own k (o+off))
 | .ownx k o=>some (.ownx k (o+off))
 | .elr k z i o=>some (.elr k z i (o+off))
 | .ptr l o=>some (.ptr l (o+off))
 |_=>none
def b1I (s:D) (off:Nat):Option D:=
 match s with
 | .own k o=>some (.ownx k (o+off))
 | .ownx k o=>some (.ownx k (o+off))
 | .ptr l o=>some (.ptr l (o+off))
 |_=>none
def b6i:List (Int×Nat)→Int→Option Nat
 | [],_=>none
 |(k,f)::l,i=>match i==k with|true=>some f|false=>b6i l i
def b6f:List D→Option (List Value)
 | []=>some []
 | .v x::l=>match b6f l with|some r=>some (x::r)|none=>none
 |_=>none
def a5q:Bool→D→Option (List Value)
 |true, .agg l=>b6f l
 |false, .v x=>some [x]
 |_,_=>none
def y1 (X:Cy) (st:Sy) (op:Op) (K:a4D→Prop):Prop:=
 match op with
 | .move x=>a1E K (evY st x)
 | .assign x=>a1E K (evY st x)
 | .pick c a b=>match evY st c with
  |some (.v (.bool t))=>VIf t (a1E K (evY st a)) (a1E K (evY st b))
  |_=>False
 | .alloc t=>match A5 X.tt t with
  |some i=>K (.new (vD i.z) t none)
  |none=>False
 | .box t x=>match A5 X.tt t,evY st x with
  |some _,some s=>match a8v s with
   |some l=>match u7 l with|true=>K (.new l t none)|false=>False
   |none=>False
  |_,_=>False
 | .load t p=>match A5 X.tt t,evY st p with
  |some i,some s=>c2E st i s K
  |_,_=>False
 | .store t p x=>match A5 X.tt t,evY st p,evY st x with
  |some i,some q,some s=>b7L st i q s K
  |_,_,_=>False
 | .nilCheck p=>match evY st p with
  |some (.own k o)=>K (.val (.own k o))
  |some (.ownx k o)=>K (.val (.ownx k o))
  |some (.elr k z i o)=>K (.val (.elr k z i o))
  |some (.ptr l o)=>K (.val (.ptr l o))
  |_=>False
 | .fieldAddr t p f=>match A5 X.tt t,evY st p with
  |some ⟨_,_,_,_, .struct fs⟩,some s=>match a7X fs f with
   |some (_,off,_)=>a1E K (b0p s off)
   |none=>False
  |_,_=>False
 | .field t x f=>match A5 X.tt t,evY st x with
  |some ⟨_,_,_,_, .struct fs⟩,some s=>b7W X fs f s K
  |_,_=>False
 | .indexAddr t x ix=>match A5 X.tt t,evY st x,evY st ix with
  |some ⟨_,_,_,_, .slice _ esz _⟩,some (.lst z n l),some (.v (.int _ i))=>match Nat.beq z esz with
   |true=>∃cs,(el l z i.toNat=cs∧0≤i∧i<n)∧K (.val (.ptr cs 0))
   |false=>False
  |some ⟨_,_,_,_, .slice _ esz _⟩,some (.osl k o z n _),some (.v (.int _ i))=>match Nat.beq z esz with
   |true=>(0≤i∧i<n)∧K (.val (.ownx k (o+i.toNat*z)))
   |false=>False
  |some ⟨_,_,_,_, .slice _ esz _⟩,some (.row k z),some (.v (.int _ i))=>match Nat.beq z esz,j7 st.H k with
   |true,some (.row z' n _ _)=>match Nat.beq z' z with
    |true=>(0≤i∧i<n)∧K (.val (.elr k z i.toNat 0))
    |false=>False
   |_,_=>False
  |some ⟨_,_,_,_, .slice _ _ _⟩,some (.v (.slice none 0 0)),some (.v (.int _ i))=>0≤i∧i<0
  |some ⟨_,_,_,_, .arr len _ esz⟩,some s,some (.v (.int _ z))=>
   (0≤z∧z<len)∧a1E K (match b4u ix with|true=>b0p s (z.toNat*esz)|false=>b1I s (z.toNat*esz))
  |_,_,_=>False
 | .index t x ix=>match A5 X.tt t,evY st x,evY st ix with
  |some ⟨_,_,_,_, .str⟩,some (.v (.string s)),some (.v (.int _ z))=>
   ∃c,(0≤z∧s.data.toList[z.toNat]?=some c)∧K (.val (.v (.int .u8 c.toNat)))
  |some ⟨_,_,_,_, .arr len ety esz⟩,some s,some (.v (.int _ z))=>match c4I s,A5 X.tt ety with
   |some l,some i=>(0≤z∧z<len)∧match b4u ix,Nat.beq i.n esz with
    |true,true=>match takeD i.n (dropD (z.toNat*esz) l)with
     |some r=>a1E K (mkD i.agg r)
     |none=>False
    |false,true=>∃r,takeD i.n (dropD (z.toNat*esz) l)=some r∧a1E K (mkD i.agg r)
    |_,_=>False
   |_,_=>False
  |_,_,_=>False
 | .binOp op t x y _=>match evY st x,evY st y with
  |some (.v (.int ka a)),some (.v (.int kb b))=>match c5A op,kEq ka kb with
   |true,_=>b7D op ka a b (a9g K)
   |false,true=>b1f op ka a b (a9g K)
   |false,false=>False
  |some (.v (.string a)),some (.v (.string b))=>b1A op a b (a9g K)
  |some s,some r=>match A5 X.tt t with
   |some ⟨_,agg,_,some ks,_⟩=>match b0c agg s,b0c agg r with
    |some l,some m=>match a4z ks l m with
     |some e=>a2b op e (a9g K)
     |none=>False
    |_,_=>False
   |some ⟨_,_,_,none, .slice _ _ _⟩=>match s,r with
    | .lst _ n _, .v (.slice none 0 0)=>∀b:Bool,(b=true→n=0)→a2b op b (a9g K)
    | .v (.slice none 0 0), .v (.slice none 0 0)=>a2b op true (a9g K)
    |_,_=>False
   |_=>False
  |_,_=>False
 | .unOp op _ x=>match op,evY st x with
  | .not,some (.v (.bool b))=>K (.val (.v (.bool (!b))))
  | .neg,some (.v (.int k a))=>K (.val (.v (.int k (k.wrap (0-a)))))
  |_,_=>False
 | .convert src dst x=>match A5 X.tt src,A5 X.tt dst,evY st x with
  |some _,some ⟨_,_,_,some [.int k], .int⟩,some (.v (.int _ n))=>K (.val (.v (.int k (k.wrap n))))
  |_,_,_=>False
 | .extract x n=>match evY st x with
  |some (.tup l)=>match dropD n l with| .bad::_=>False|s::_=>K (.val s)| []=>False
  |_=>False
 | .makeFunc fn first caps=>match fn,a6N st first.toList,a6N st caps.toList with
  | .func f,some l,some c=>K (.val (.fn f l c))
  |_,_,_=>False
 | .build t ps=>match A5 X.tt t with
  |some ⟨_,_,z,_, .struct fs⟩=>match b0G fs st ps.toList (vD z)with
   |some l=>match u7 l with|true=>K (.val (.agg l))|false=>False
   |none=>False
  |some ⟨_,_,z,_, .arr _ _ esz⟩=>match a2S esz st ps.toList (vD z)with
   |some l=>match u7 l with|true=>K (.val (.agg l))|false=>False
   |none=>False
  |_=>False
 | .buildSlice t n ps=>match A5 X.tt t with
  |some ⟨_,_,_,_, .slice e esz _⟩=>match A5 X.tt e with
   |some i=>match Nat.ble (n*esz) 16777216,Nat.beq i.n esz,a2S esz st ps.toList (a9O n (vD i.z))with
    |true,true,some l=>match N2 l,Nat.ble n 16777216 with
     |true,true=>∃l' n',(l=l'∧n=n')∧K (.newR l' e esz n')
     |_,_=>K (.new l e (some (esz,n)))
    |_,_,_=>False
   |none=>False
  |_=>False
 | .makeSlice t l c=>match A5 X.tt t,evY st l,evY st c with
  |some ⟨_,_,_,_, .slice e esz bytes⟩,some (.v (.int _ p)),some (.v (.int _ q))=>match A5 X.tt e with
   |some i=>match Nat.beq i.n esz with
    |true=>(p=q∧0≤p∧(bytes:Int)*p≤281474976710656∧p≤9223372036854775807)∧∃l' n',(a9O p.toNat (vD i.z)=l'∧p.toNat=n')∧K (.newR l' e esz n')
    |false=>False
   |none=>False
  |_,_,_=>False
 | .slice t x lo hi mx=>match A5 X.tt t,evY st x with
  |some ⟨_,_,_,_, .slice _ esz _⟩,some (.lst z n l)=>match Nat.beq z esz with
   |true=>match mx with
    |none=>b8b st n n lo hi none fun a h _=>∃r,(l.drop (a*z)).take ((h-a)*z)=r∧K (.val (.lst z (h-a) r))
    |some m=>c5I st n lo hi m fun a h=>∃r,(l.drop (a*z)).take ((h-a)*z)=r∧K (.val (.lst z (h-a) r))
   |false=>False
  |some ⟨_,_,_,_, .slice _ esz _⟩,some (.row k z)=>match Nat.beq z esz,j7 st.H k with
   |true,some (.row _ n _ _)=>0<n∧b8b st n n lo hi mx fun a h _=>∀o,(h-a=0∨o=a*z)∧(a=0→o=0)→K (.val (.osl k o z (h-a) a))
   |_,_=>False
  |some ⟨_,_,_,_, .str⟩,some (.v (.string s))=>
   b8b st s.size s.size lo hi mx fun l h _=>K (.val (.v (.string (s.extract l h))))
  |some ⟨_,_,_,_, .arr len _ esz⟩,some (.own k 0)=>match lo,hi,mx with
   |none,none,none=>(match j7 st.H k with|some (.blk _ _)=>K (.val (.osl k 0 esz len len))|_=>False)
   |_,_,_=>False
  |_,_=>False
 | .lookup t x ix ok=>match evY st x with
  |some (.mp l)=>match ok,evY st ix with
   |false,some (.v (.int .i64 i))=>(∃kt et,X.P.underlying t=some (.map kt et)∧X.P.underlying kt=some (.int .i64))∧∃f,b6i l i=some f∧K (.val (.fn f [] []))
   |_,_=>False
  |some (.row k _)=>match evY st ix,j7 st.H k with
   |some kd,some (.mp es m)=>(a7R X.P X.tt m∧m.t=t)∧∃kc v b,(a5q m.ag kd=some kc∧m8 m.ks kc∧(a7L es kc).getD m.z=v∧(a7L es kc).isSome=b∧plV v=true)∧
    K (.val (match ok with|true=> .tup [.v v, .v (.bool b)]|false=> .v v))
   |_,_=>False
  |_=>False
 | .call c=>match c.callee with
  | .value f=>match evY st f,a6N st c.args.toList with
   |some (.fn g l caps),some args=>K (.call g (l++(args++caps)))
   |_,_=>False
  | .builtin b=>b2j X st b c.args.toList c.argTypes.toList K
  |_=>False
 |_=>False
mutual
def Rep (ok:Nat→Prop) (w:World):D→Value→Prop
 | .v x,y=>y=x∧a0K x=true
 | .agg l,y=>∃a,y= .agg a∧j1 ok w l a.toList∧u7 l=true
 | .lst z n l,y=>∃a c,y= .slice a n c∧n≤c∧(n:Int)≤9223372036854775807∧l.length=n*z∧u7 l=true∧
  (c=0∨∃b o xs,a=some ⟨b,o,none⟩∧ok b∧j1 ok w l xs∧∀j,j<n*z→w.cell? ⟨b,o+j,none⟩=xs[j]?)
 | .ptr l o,y=>∃b p xs,y= .pointer (some ⟨b,p+o,none⟩)∧ok b∧u7 l=true∧j1 ok w l xs∧∀j,j<l.length→w.cell? ⟨b,p+j,none⟩=xs[j]?
 | .fn f a b,y=>∃p q,y= .func (.func f) p q∧j1 ok w a p.toList∧j1 ok w b q.toList
 | .tup l,y=>∃a,y= .tuple a∧j1 ok w l a.toList
 | .mp l,y=>∃r es c,y= .map (some r)∧ok r∧w.heap[r]?=some (.map es c)∧es.toList.map (fun e=>(e.key,e.val))=l.map (fun p=>(Value.int .i64 p.1,Value.func (.func p.2) #[] #[]))
 |_,_=>False
def j1 (ok:Nat→Prop) (w:World):List D→List Value→Prop
 | [], []=>True
 |d::l,y::r=>Rep ok w d y∧j1 ok w l r
 |_,_=>False
end
mutual
theorem Rep.mono {ok ok':Nat→Prop} {w w':World} (hm:∀b,ok b→ok' b∧w'.heap[b]?=w.heap[b]?):∀(d:D) (y:Value),Rep ok w d y→Rep ok' w' d y
 | .v x,y,h=>h
 | .agg l,y,h=>by
  simp only [Rep]at h⊢;obtain⟨a,h1,h2,h3⟩:=h;exact⟨a,h1,j1.mono hm l _ h2,h3⟩
 | .lst z n l,y,h=>by
  simp only [Rep]at h⊢;obtain⟨a,c,h1,h2,h3,h4,h5,h6⟩:=h;refine⟨a,c,h1,h2,h3,h4,h5, ?_⟩;rcases h6 with h6|⟨b,o,xs,e1,e2,e3,e4⟩
  · exact .inl h6
  · refine .inr ⟨b,o,xs,e1,(hm b e2).1,j1.mono hm l _ e3,fun j hj=> ?_⟩;rw [←e4 j hj];simp only [World.cell?,(hm b e2).2]
 | .ptr l o,y,h=>by
  simp only [Rep]at h⊢;obtain⟨b,p,xs,e1,e2,e5,e3,e4⟩:=h;refine⟨b,p,xs,e1,(hm b e2).1,e5,j1.mono hm l _ e3,fun j hj=> ?_⟩;rw [←e4 j hj];simp only [World.cell?,(hm b e2).2]
 | .fn f a b,y,h=>by
  simp only [Rep]at h⊢;obtain⟨p,q,h1,h2,h3⟩:=h;exact⟨p,q,h1,j1.mono hm a _ h2,j1.mono hm b _ h3⟩
 | .tup l,y,h=>by
  simp only [Rep]at h⊢;obtain⟨a,h1,h2⟩:=h;exact⟨a,h1,j1.mono hm l _ h2⟩
 | .mp l,y,h=>by
  simp only [Rep]at h⊢;obtain⟨r,es,c,h1,h2,h3,h4⟩:=h;exact⟨r,es,c,h1,(hm r h2).1,by rw [(hm r h2).2];exact h3,h4⟩
 | .own _ _,_,h=>by simp [Rep]at h
 | .ownx _ _,_,h=>by simp [Rep]at h
 | .row _ _,_,h=>by simp [Rep]at h
 | .elr _ _ _ _,_,h=>by simp [Rep]at h
 | .osl _ _ _ _ _,_,h=>by simp [Rep]at h
 | .und,_,h=>by simp [Rep]at h
 | .bad,_,h=>by simp [Rep]at h
theorem j1.mono {ok ok':Nat→Prop} {w w':World} (hm:∀b,ok b→ok' b∧w'.heap[b]?=w.heap[b]?):∀(l:List D) (r:List Value),j1 ok w l r→j1 ok' w' l r
 | [], [],_=>trivial
 |d::l,y::r,h=>by
  simp only [j1]at h⊢;exact⟨Rep.mono hm d y h.1,j1.mono hm l r h.2⟩
 | [],_::_,h=>by simp [j1]at h
 |_::_, [],h=>by simp [j1]at h
end
section
variable {ok : Nat → Prop} {w : World}
theorem j1.length {l:List D} {r:List Value} (h:j1 ok w l r):l.length=r.length:=by
 induction l generalizing r with
 |nil=>cases r with
  |nil=>rfl
  |cons=>simp [j1]at h
 |cons d l ih=>cases r with
  |nil=>simp [j1]at h
  |cons y r=>simp only [j1]at h;simp [ih h.2]
theorem j1.get {l:List D} {r:List Value} (h:j1 ok w l r) {j:Nat} {d:D} (hd:l[j]?=some d):∃y,r[j]?=some y∧Rep ok w d y:=by
 induction l generalizing r j with
 |nil=>simp at hd
 |cons d' l ih=>cases r with
  |nil=>simp [j1]at h
  |cons y r=>
   simp only [j1]at h;cases j with
   |zero=>simp at hd;subst hd;exact⟨y,by simp,h.1⟩
   |succ j=>simp at hd;obtain⟨y',h1,h2⟩:=ih h.2 hd;exact⟨y',by simpa using h1,h2⟩
theorem j1.app {l l':List D} {r r':List Value} (h:j1 ok w l r) (h':j1 ok w l' r'):j1 ok w (l++l') (r++r'):=by
 induction l generalizing r with
 |nil=>cases r with
  |nil=>exact h'
  |cons=>simp [j1]at h
 |cons d l ih=>cases r with
  |nil=>simp [j1]at h
  |cons y r=>simp only [j1]at h;exact⟨h.1,ih h.2⟩
theorem j1.drop {l:List D} {r:List Value} (h:j1 ok w l r) (n:Nat):j1 ok w (l.drop n) (r.drop n):=by
 induction n generalizing l r with
 |zero=>simpa using h
 |succ n ih=>cases l with
  |nil=>cases r with
   |nil=>simp [j1]
   |cons=>simp [j1]at h
  |cons d l=>cases r with
   |nil=>simp [j1]at h
   |cons y r=>simp only [j1]at h;simpa using ih h.2
theorem j1.take {l:List D} {r:List Value} (h:j1 ok w l r) (n:Nat):j1 ok w (l.take n) (r.take n):=by
 induction n generalizing l r with
 |zero=>simp [j1]
 |succ n ih=>cases l with
  |nil=>cases r with
   |nil=>simp [j1]
   |cons=>simp [j1]at h
  |cons d l=>cases r with
   |nil=>simp [j1]at h
   |cons y r=>simp only [j1]at h;simp only [List.take_succ_cons,j1];exact⟨h.1,ih h.2⟩
theorem u4 {l:List D} (h:u7 l=true) {d:D} (hd:d∈l):a2U d=true:=by
 induction l with
 |nil=>cases hd
 |cons x l ih=>
  simp only [u7]at h;split at h
  · rename_i hx;rcases o5.1 hd with rfl|hd
    · exact hx
    · exact ih h hd
  · cases h
theorem F0 {l:List D} (h:∀d,d∈l→a2U d=true):u7 l=true:=by
 induction l with
 |nil=>rfl
 |cons x l ih=>
  simp only [u7,h x F5];exact ih fun d hd=>h d (A9 _ hd)
theorem Rep.one {d:D} {y:Value} (h:Rep ok w d y) (hd:a2U d=true):a0K y=true:=by
 cases d<;>simp [a2U]at hd<;>simp only [Rep]at h
 · obtain⟨rfl,h⟩:=h;exact h
 · obtain⟨a,c,rfl,_⟩:=h;rfl
 · obtain⟨b,p,xs,rfl,_⟩:=h;rfl
 · obtain⟨p,q,rfl,_⟩:=h;rfl
 · obtain⟨r,es,c,rfl,_⟩:=h;rfl
theorem j1.one {l:List D} {r:List Value} (h:j1 ok w l r) (hl:u7 l=true):∀y,y∈r→a0K y=true:=by
 induction l generalizing r with
 |nil=>cases r with
  |nil=>simp
  |cons=>simp [j1]at h
 |cons d l ih=>cases r with
  |nil=>simp [j1]at h
  |cons y r=>
   simp only [j1]at h;intro u hu;rcases o5.1 hu with rfl|hu
   · exact h.1.one (u4 hl F5)
   · exact ih h.2 (F0 fun d hd=>u4 hl (A9 _ hd)) u hu
end
mutual
def d8 (ok:Nat→Prop) (w:World) (R:Bool→Nat→Prop):D→SV→Prop
 | .v x,s=>s= .v x∧a0K x=true
 | .agg l,s=>∃cs,a1S s=some cs∧d9 ok w R l cs∧u7 l=true
 | .lst z n l,s=>∃y,s= .v y∧Rep ok w (.lst z n l) y
 | .ptr l o,s=>∃y,s= .v y∧Rep ok w (.ptr l o) y
 | .own k o,s=>s= .own k o∧R false k
 | .ownx k o,s=>s= .ownx k o∧R false k
 | .row k _,s=>s= .row k∧R true k
 | .elr k z i o,s=>s= .ownx k (i*z+o)∧R true k
 | .osl k o _ n c,s=>s= .osl k o n c∧R false k
 | .tup l,s=>(∃cs,s= .tup cs∧d9 ok w R l cs)∨∃a,s= .v (.tuple a)∧d9 ok w R l (vs a.toList)
 | .fn f a b,s=>(∃a' b',s= .fn f a' b'∧d9 ok w R a a'∧d9 ok w R b b')∨∃p q,s= .v (.func (.func f) p q)∧d9 ok w R a (vs p.toList)∧d9 ok w R b (vs q.toList)
 | .mp l,s=>∃y,s= .v y∧Rep ok w (.mp l) y
 | .und,s=>s= .v undef
 | .bad,s=>s= .bad
def d9 (ok:Nat→Prop) (w:World) (R:Bool→Nat→Prop):List D→List SV→Prop
 | [], []=>True
 |d::l,y::r=>d8 ok w R d y∧d9 ok w R l r
 |_,_=>False
end
mutual
theorem d8.mono {ok ok':Nat→Prop} {w w':World} {R R':Bool→Nat→Prop} (hm:∀b,ok b→ok' b∧w'.heap[b]?=w.heap[b]?) (hR:∀q k,R q k→R' q k):∀(d:D) (s:SV),d8 ok w R d s→d8 ok' w' R' d s
 | .v x,y,h=>h
 | .agg l,y,h=>by
  simp only [d8]at h⊢;obtain⟨a,h1,h2,h3⟩:=h;exact⟨a,h1,d9.mono hm hR l _ h2,h3⟩
 | .lst z n l,y,h=>by
  simp only [d8]at h⊢;obtain⟨a,h1,h2⟩:=h;exact⟨a,h1,Rep.mono hm _ _ h2⟩
 | .ptr l o,y,h=>by
  simp only [d8]at h⊢;obtain⟨a,h1,h2⟩:=h;exact⟨a,h1,Rep.mono hm _ _ h2⟩
 | .mp l,y,h=>by
  simp only [d8]at h⊢;obtain⟨a,h1,h2⟩:=h;exact⟨a,h1,Rep.mono hm _ _ h2⟩
 | .own k o,y,h=>by simp only [d8]at h⊢;exact⟨h.1,hR _ k h.2⟩
 | .ownx k o,y,h=>by simp only [d8]at h⊢;exact⟨h.1,hR _ k h.2⟩
 | .row k z,y,h=>by simp only [d8]at h⊢;exact⟨h.1,hR _ k h.2⟩
 | .elr k z i o,y,h=>by simp only [d8]at h⊢;exact⟨h.1,hR _ k h.2⟩
 | .osl k o z n c,y,h=>by simp only [d8]at h⊢;exact⟨h.1,hR _ k h.2⟩
 | .tup l,y,h=>by
  simp only [d8]at h⊢;rcases h with⟨cs,h1,h2⟩|⟨a,h1,h2⟩
  · exact .inl ⟨cs,h1,d9.mono hm hR l _ h2⟩
  · exact .inr ⟨a,h1,d9.mono hm hR l _ h2⟩
 | .fn f a b,y,h=>by
  simp only [d8]at h⊢;rcases h with⟨p,q,h1,h2,h3⟩|⟨p,q,h1,h2,h3⟩
  · exact .inl ⟨p,q,h1,d9.mono hm hR a _ h2,d9.mono hm hR b _ h3⟩
  · exact .inr ⟨p,q,h1,d9.mono hm hR a _ h2,d9.mono hm hR b _ h3⟩
 | .und,_,h=>h
 | .bad,_,h=>h
theorem d9.mono {ok ok':Nat→Prop} {w w':World} {R R':Bool→Nat→Prop} (hm:∀b,ok b→ok' b∧w'.heap[b]?=w.heap[b]?) (hR:∀q k,R q k→R' q k):∀(l:List D) (r:List SV),d9 ok w R l r→d9 ok' w' R' l r
 | [], [],_=>trivial
 |d::l,y::r,h=>by
  simp only [d9]at h⊢;exact⟨d8.mono hm hR d y h.1,d9.mono hm hR l r h.2⟩
 | [],_::_,h=>by simp [d9]at h
 |_::_, [],h=>by simp [d9]at h
end
section
variable {ok : Nat → Prop} {w : World} {R : Bool → Nat → Prop}
mutual
theorem Rep.rel {ok:Nat→Prop} {w:World} {R:Bool→Nat→Prop}:∀(d:D) (y:Value),Rep ok w d y→d8 ok w R d (.v y)
 | .v x,y,h=>by simp only [Rep]at h;simp only [d8];exact⟨by rw [h.1],h.2⟩
 | .agg l,y,h=>by
  simp only [Rep]at h;simp only [d8];obtain⟨a,rfl,h2,h3⟩:=h;exact⟨_,rfl,j1.rel l _ h2,h3⟩
 | .lst z n l,y,h=>by simp only [d8];exact⟨y,rfl,h⟩
 | .ptr l o,y,h=>by simp only [d8];exact⟨y,rfl,h⟩
 | .mp l,y,h=>by simp only [d8];exact⟨y,rfl,h⟩
 | .fn f a b,y,h=>by
  simp only [Rep]at h;simp only [d8];obtain⟨p,q,rfl,h2,h3⟩:=h;exact .inr ⟨p,q,rfl,j1.rel a _ h2,j1.rel b _ h3⟩
 | .tup l,y,h=>by
  simp only [Rep]at h;simp only [d8];obtain⟨a,rfl,h2⟩:=h;exact .inr ⟨a,rfl,j1.rel l _ h2⟩
 | .own _ _,_,h=>by simp [Rep]at h
 | .ownx _ _,_,h=>by simp [Rep]at h
 | .row _ _,_,h=>by simp [Rep]at h
 | .elr _ _ _ _,_,h=>by simp [Rep]at h
 | .osl _ _ _ _ _,_,h=>by simp [Rep]at h
 | .und,_,h=>by simp [Rep]at h
 | .bad,_,h=>by simp [Rep]at h
theorem j1.rel {ok:Nat→Prop} {w:World} {R:Bool→Nat→Prop}:∀(l:List D) (r:List Value),j1 ok w l r→d9 ok w R l (vs r)
 | [], [],_=>trivial
 |d::l,y::r,h=>by
  simp only [j1]at h;simp only [vs,d9];exact⟨Rep.rel d y h.1,j1.rel l r h.2⟩
 | [],_::_,h=>by simp [j1]at h
 |_::_, [],h=>by simp [j1]at h
end
theorem d8.ne {d:D} {s:SV} (h:d8 ok w R d s) (hd:d≠ .bad):s≠ .bad:=by
 cases d<;>simp only [d8]at h
 · rw [h.1];simp
 · obtain⟨cs,h1,_⟩:=h;intro e;subst e;simp [a1S]at h1
 · obtain⟨y,rfl,_⟩:=h;simp
 · obtain⟨y,rfl,_⟩:=h;simp
 · rw [h.1];simp
 · rw [h.1];simp
 · rw [h.1];simp
 · rw [h.1];simp
 · rw [h.1];simp
 · rcases h with⟨cs,rfl,_⟩|⟨cs,rfl,_⟩<;>simp
 · rcases h with⟨p,q,rfl,_⟩|⟨p,q,rfl,_⟩<;>simp
 · obtain⟨y,rfl,_⟩:=h;simp
 · rw [h];simp
 · exact absurd rfl hd
theorem d9.length {l:List D} {r:List SV} (h:d9 ok w R l r):l.length=r.length:=by
 induction l generalizing r with
 |nil=>cases r with
  |nil=>rfl
  |cons=>simp [d9]at h
 |cons d l ih=>cases r with
  |nil=>simp [d9]at h
  |cons y r=>simp only [d9]at h;simp [ih h.2]
theorem d9.app {l l':List D} {r r':List SV} (h:d9 ok w R l r) (h':d9 ok w R l' r'):d9 ok w R (l++l') (r++r'):=by
 induction l generalizing r with
 |nil=>cases r with
  |nil=>exact h'
  |cons=>simp [d9]at h
 |cons d l ih=>cases r with
  |nil=>simp [d9]at h
  |cons y r=>simp only [d9]at h;exact⟨h.1,ih h.2⟩
theorem d9.dropD {l:List D} {r:List SV} (h:d9 ok w R l r) (n:Nat):d9 ok w R (dropD n l) (Y2 n r):=by
 induction n generalizing l r with
 |zero=>simpa [Sx.dropD,Y2]using h
 |succ n ih=>cases l with
  |nil=>cases r with
   |nil=>simp [Sx.dropD,Y2,d9]
   |cons=>simp [d9]at h
  |cons d l=>cases r with
   |nil=>simp [d9]at h
   |cons y r=>simp only [d9]at h;simpa [Sx.dropD,Y2]using ih h.2
theorem d9.takeD {l:List D} {r:List SV} (h:d9 ok w R l r) {n:Nat} {x:List D} (hx:takeD n l=some x):∃y,a1g n r=some y∧d9 ok w R x y:=by
 induction n generalizing l r x with
 |zero=>simp [Sx.takeD]at hx;subst hx;exact⟨[],rfl,trivial⟩
 |succ n ih=>cases l with
  |nil=>simp [Sx.takeD]at hx
  |cons d l=>cases r with
   |nil=>simp [d9]at h
   |cons s r=>
    simp only [d9]at h;have hd:d≠ .bad:=fun e=>by subst e;simp [Sx.takeD]at hx
    have hs:=h.1.ne hd
    have hx':(match Sx.takeD n l with|some r=>some (d::r)|none=>none)=some x:=by
     cases d<;>first|exact hx|exact absurd rfl hd
    split at hx'
    · rename_i q hq;cases hx';obtain⟨y,h1,h2⟩:=ih h.2 hq;refine⟨s::y, ?_,h.1,h2⟩
      have:a1g (n+1) (s::r)=(match a1g n r with|some q=>some (s::q)|none=>none):=by
       cases s<;>first|rfl|exact absurd rfl hs
      rw [this,h1]
    · cases hx'
theorem d9.over {l:List D} {r:List SV} (h:d9 ok w R l r) {o:Nat} {x y:List D} {x':List SV} (hx:d9 ok w R x x') (hy:over o x l=some y):∃y',Sx.over o x' r=some y'∧d9 ok w R y y':=by
 induction l generalizing r o x x' y with
 |nil=>cases r with
  |cons=>simp [d9]at h
  |nil=>cases o with
   |zero=>cases x with
    |nil=>cases x' with
     |nil=>simp [Sx.over]at hy;subst hy;exact⟨[],rfl,trivial⟩
     |cons=>simp [d9]at hx
    |cons=>simp [Sx.over]at hy
   |succ o=>simp [Sx.over]at hy
 |cons d l ih=>cases r with
  |nil=>simp [d9]at h
  |cons s r=>
   simp only [d9]at h;cases o with
   |zero=>cases x with
    |nil=>cases x' with
     |nil=>simp [Sx.over]at hy;subst hy;exact⟨s::r,rfl,h⟩
     |cons=>simp [d9]at hx
    |cons a x=>cases x' with
     |nil=>simp [d9]at hx
     |cons a' x'=>
      simp only [d9]at hx;simp only [Sx.over]at hy⊢;split at hy
      · rename_i q hq;cases hy;obtain⟨y',h1,h2⟩:=ih h.2 hx.2 hq;exact⟨a'::y',by rw [h1],hx.1,h2⟩
      · cases hy
   |succ o=>
    simp only [Sx.over]at hy⊢;split at hy
    · rename_i q hq;cases hy;obtain⟨y',h1,h2⟩:=ih h.2 hx hq;exact⟨s::y',by rw [h1],h.1,h2⟩
    · cases hy
theorem b9H {agg:Bool} {l:List D} {r:List SV} {x:D} (h:d9 ok w R l r) (hx:mkD agg l=some x):∃s,mkv agg r=some s∧d8 ok w R x s:=by
 unfold mkD at hx;split at hx
 · split at hx
   · rename_i hf;cases hx;refine⟨.agg r,rfl, ?_⟩;simp only [d8];exact⟨r,rfl,h,hf⟩
   · cases hx
 · split at hx
   · cases hx;cases r with
     |nil=>simp [d9]at h
     |cons s r=>cases r with
      |nil=>simp only [d9]at h;exact⟨s,rfl,h.1⟩
      |cons=>simp [d9]at h
   · cases hx
 · cases hx
theorem a0G {K:a4D→Prop} {x:Option D} (h:a1E K x):∃s,x=some s∧K (.val s):=by
 cases x with
 |none=>exact h.elim
 |some s=>exact⟨s,rfl,h⟩
theorem d8.cells {d:D} {s:SV} {l:List D} (h:d8 ok w R d s) (hc:a8v d=some l):∃r,W5 s=some r∧d9 ok w R l r:=by
 have one:∀ {d:D} {s:SV},d8 ok w R d s→W5 s=some [s]→∃r,W5 s=some r∧d9 ok w R [d] r:=fun h hs=>⟨_,hs,h,trivial⟩
 cases d<;>simp only [a8v]at hc<;>first|cases hc|skip
 · refine one h ?_;simp only [d8]at h;obtain⟨rfl,h⟩:=h;rename_i x;cases x<;>first|rfl|simp [a0K]at h
 · simp only [d8]at h;obtain⟨cs,h1,h2,_⟩:=h;refine⟨cs, ?_,h2⟩;cases s<;>simp [a1S]at h1
   · rename_i x;cases x<;>simp at h1;subst h1;rfl
   · subst h1;rfl
 · refine one h ?_;simp only [d8,Rep]at h;obtain⟨y,rfl,a,c,rfl,_⟩:=h;rfl
 · refine one h ?_;simp only [d8,Rep]at h;obtain⟨y,rfl,a,c,xs,rfl,_⟩:=h;rfl
 · refine one h ?_;simp only [d8]at h;rw [h.1];rfl
 · refine one h ?_;simp only [d8]at h;rw [h.1];rfl
 · refine one h ?_;simp only [d8]at h;rw [h.1];rfl
 · refine one h ?_;simp only [d8]at h;rw [h.1];rfl
 · refine one h ?_;simp only [d8]at h;rw [h.1];rfl
 · refine one h ?_;simp only [d8]at h;rcases h with⟨p,q,rfl,_⟩|⟨p,q,rfl,_⟩<;>rfl
 · refine one h ?_;simp only [d8,Rep]at h;obtain⟨y,rfl,r,es,c,rfl,_⟩:=h;rfl
theorem d8.one {Hp:Hp} (hR:∀k,R true k→∃e,e8 Hp k=some e∧isR e=true) {d:D} {s:SV} (h:d8 ok w R d s) (hd:a2U d=true):b2D Hp s=true:=by
 cases d<;>simp [a2U]at hd<;>simp only [d8]at h
 · rw [h.1];exact h.2
 · obtain⟨y,rfl,h⟩:=h;exact h.one rfl
 · obtain⟨y,rfl,h⟩:=h;exact h.one rfl
 · rw [h.1];rfl
 · rw [h.1];rfl
 · obtain⟨e,hf,he⟩:=hR _ h.2;rw [h.1];cases e<;>first|(cases he;done)|simp [b2D,hf]
 · rw [h.1];rfl
 · rw [h.1];rfl
 · rcases h with⟨p,q,rfl,_⟩|⟨p,q,rfl,_⟩<;>rfl
 · obtain⟨y,rfl,h⟩:=h;exact h.one rfl
theorem d9.one {Hp:Hp} (hR:∀k,R true k→∃e,e8 Hp k=some e∧isR e=true) {l:List D} {r:List SV} (h:d9 ok w R l r) (hl:u7 l=true):a6D Hp r=true:=by
 induction l generalizing r with
 |nil=>cases r with
  |nil=>rfl
  |cons=>simp [d9]at h
 |cons d l ih=>cases r with
  |nil=>simp [d9]at h
  |cons y r=>
   simp only [d9]at h;simp only [a6D,h.1.one hR (u4 hl F5)];exact ih h.2 (F0 fun d hd=>u4 hl (A9 _ hd))
theorem b1l {l:List Value} (h:∀x,x∈l→a0K x=true):d9 ok w R (vD l) (vs l):=by
 induction l with
 |nil=>trivial
 |cons x l ih=>
  refine⟨?_,ih fun y hy=>h y (A9 _ hy)⟩;simp only [d8];exact⟨trivial,h x F5⟩
theorem b8v {l:List D} (h:N2 l=true) {d:D} (hd:d∈l):b4l d=true:=by
 induction l with
 |nil=>cases hd
 |cons x l ih=>
  simp only [N2]at h;split at h
  · rename_i hx;rcases o5.1 hd with rfl|hd
    · exact hx
    · exact ih h hd
  · cases h
theorem d9.vals {l:List D} {r:List SV} (h:d9 ok w R l r) (hl:N2 l=true):∃xs,r=vs xs∧j1 ok w l xs:=by
 induction l generalizing r with
 |nil=>cases r with
  |nil=>exact⟨[],rfl,trivial⟩
  |cons=>simp [d9]at h
 |cons d l ih=>cases r with
  |nil=>simp [d9]at h
  |cons s r=>
   simp only [d9]at h;simp only [N2]at hl;split at hl
   · rename_i hd;obtain⟨xs,rfl,hx⟩:=ih h.2 hl
     have:∃y,s= .v y∧Rep ok w d y:=by
      cases d<;>simp [b4l]at hd
      · have:=h.1;simp only [d8]at this;exact⟨_,this.1,by simp only [Rep];exact⟨trivial,this.2⟩⟩
      · have:=h.1;simp only [d8]at this;exact this
      · have:=h.1;simp only [d8]at this;exact this
     obtain⟨y,rfl,hy⟩:=this;exact⟨y::xs,rfl,hy,hx⟩
   · cases hl
end
theorem b0k (k:Nat) (l:List Value):C9 k (vs l)=false:=by
 induction l with
 |nil=>rfl
 |cons x l ih=>simp only [vs,C9,ment];exact ih
mutual
theorem d8.ment {ok:Nat→Prop} {w:World} {R:Bool→Nat→Prop} {k:Nat} (hR:∀q,¬R q k):∀(d:D) (s:SV),d8 ok w R d s→Sx.ment k s=false
 | .v x,s,h=>by simp only [d8]at h;rw [h.1];rfl
 | .agg l,s,h=>by
  simp only [d8]at h;obtain⟨cs,h1,h2,_⟩:=h;have:=d9.ment hR l _ h2;cases s<;>simp [a1S]at h1
  · rfl
  · subst h1;simpa [Sx.ment]using this
 | .lst z n l,s,h=>by simp only [d8]at h;obtain⟨y,rfl,_⟩:=h;rfl
 | .ptr l o,s,h=>by simp only [d8]at h;obtain⟨y,rfl,_⟩:=h;rfl
 | .own j o,s,h=>by
  simp only [d8]at h;rw [h.1];simp only [Sx.ment];cases hb:Nat.beq j k with
  |false=>rfl
  |true=>have:=r6 hb;subst this;exact absurd h.2 (hR _)
 | .ownx j o,s,h=>by
  simp only [d8]at h;rw [h.1];simp only [Sx.ment];cases hb:Nat.beq j k with
  |false=>rfl
  |true=>have:=r6 hb;subst this;exact absurd h.2 (hR _)
 | .row j z,s,h=>by
  simp only [d8]at h;rw [h.1];simp only [Sx.ment];cases hb:Nat.beq j k with
  |false=>rfl
  |true=>have:=r6 hb;subst this;exact absurd h.2 (hR _)
 | .elr j z i o,s,h=>by
  simp only [d8]at h;rw [h.1];simp only [Sx.ment];cases hb:Nat.beq j k with
  |false=>rfl
  |true=>have:=r6 hb;subst this;exact absurd h.2 (hR _)
 | .osl j o z n c,s,h=>by
  simp only [d8]at h;rw [h.1];simp only [Sx.ment];cases hb:Nat.beq j k with
  |false=>rfl
  |true=>have:=r6 hb;subst this;exact absurd h.2 (hR _)
 | .tup l,s,h=>by
  simp only [d8]at h;rcases h with⟨cs,rfl,h2⟩|⟨a,rfl,_⟩
  · simpa [Sx.ment]using d9.ment hR l _ h2
  · rfl
 | .fn f a b,s,h=>by
  simp only [d8]at h;rcases h with⟨p,q,rfl,h2,h3⟩|⟨p,q,rfl,_⟩
  · simp only [Sx.ment,d9.ment hR a _ h2,d9.ment hR b _ h3]
  · rfl
 | .mp l,s,h=>by simp only [d8]at h;obtain⟨y,rfl,_⟩:=h;rfl
 | .und,s,h=>by simp only [d8]at h;rw [h];rfl
 | .bad,s,h=>by simp only [d8]at h;rw [h];rfl
theorem d9.ment {ok:Nat→Prop} {w:World} {R:Bool→Nat→Prop} {k:Nat} (hR:∀q,¬R q k):∀(l:List D) (r:List SV),d9 ok w R l r→C9 k r=false
 | [], [],_=>rfl
 |d::l,y::r,h=>by
  simp only [d9]at h;simp only [C9,d8.ment hR d y h.1];exact d9.ment hR l r h.2
 | [],_::_,h=>by simp [d9]at h
 |_::_, [],h=>by simp [d9]at h
end
def okS (A:Nat→Prop) (st:St) (b:Nat):Prop:=((b<st.lo∨∃p,p∈st.iv∧p.1≤b∧b<p.2)∧A b)∧b<st.w.heap.size∧b6I st.H b
def u6 (st:St) (q:Bool) (k:Nat):Prop:=k<st.nk∧(q=true→∃e,e8 st.H k=some e∧isR e=true)
def a0I (ok:Nat→Prop) (w:World) (R:Bool→Nat→Prop):E→Ent→Prop
 | .blk cs ty, .blk _ cs' ty'=>ty=ty'∧d9 ok w R cs cs'
 | .row z n l ty, .row _ n' xs z' ty'=>n=n'∧z=z'∧ty=ty'∧j1 ok w l xs∧u7 l=true∧l.length=n*z
 | .mp es ty, .mp _ es' ty'=>es=es'∧ty=ty'
 |_,_=>False
structure Sim (A:Nat→Prop) (st:St) (sy:Sy):Prop where
 T:∀d x,o4 sy.T d=some x→x= .bad∨∃s,u1 st.T d=some s∧d8 (okS A st) st.w (u6 st) x s
 H:∀k e,j7 sy.H k=some e→∃e',e8 st.H k=some e'∧a0I (okS A st) st.w (u6 st) e e'
 nk:sy.nk=st.nk
 fT:∀j,st.nk≤j→o7 j st.T=true
 fH:∀j,st.nk≤j→u3 j st.H=true
def a6Q (H:Hp) (ok:Nat→Prop) (w:World) (R:Bool→Nat→Prop):a4D→Out→Prop
 | .val x, .val s=>d8 ok w R x s∧x≠ .bad
 | .new cs ty sl, .new cs' ty' sl'=>ty=ty'∧d9 ok w R cs cs'∧sl'=sl.map (·.2)
 | .newR l ty z n, .new cs' ty' sl'=>ty=ty'∧sl'=some n∧l.length=n*z∧n≤maxLen∧u7 l=true∧∃xs,cs'=vs xs∧j1 ok w l xs
 | .call f args, .call f' args'=>f=f'∧d9 ok w R args args'
 | .upd k cs, .upd k' cs'=>k=k'∧d9 ok w R cs cs'
 | .updR k l, .updR k' xs=>k=k'∧j1 ok w l xs∧u7 l=true∧∀v n ys z ty,e8 H k=some (.row v n ys z ty)→l.length=n*z
 | .app e z b s x, .app e' z' b' s' x'=>e=e'∧z=z'∧b=b'∧d8 ok w R s s'∧d8 ok w R x x'
 |_,_=>False
def cx (X:Cy) (w0:World) (bor:List Nat):Cx:=⟨X.P,X.tt,w0,bor,X.nt,X.pl,X.dfs,X.sv⟩
theorem b7l (n:Nat) (l:List D):dropD n l=l.drop n:=by
 induction n generalizing l with
 |zero=>rfl
 |succ n ih=>cases l with
  |nil=>rfl
  |cons x l=>simp [dropD,ih]
theorem b1X {n:Nat} {l r:List D} (h:takeD n l=some r):r.length=n∧r=l.take n∧ .bad∉r:=by
 induction n generalizing l r with
 |zero=>simp [takeD]at h;subst h;simp
 |succ n ih=>cases l with
  |nil=>simp [takeD]at h
  |cons d l=>
   have hd:d≠ .bad:=fun e=>by subst e;simp [takeD]at h
   have h':(match takeD n l with|some r=>some (d::r)|none=>none)=some r:=by
    cases d<;>first|exact h|exact absurd rfl hd
   split at h'
   · rename_i q hq;cases h';obtain⟨h1,h2,h3⟩:=ih hq;exact⟨by simp [h1],by rw [List.take_succ_cons,←h2],by simp only [o5,not_or];exact⟨fun e=>hd e.symm,h3⟩⟩
   · cases h'
theorem j1.part {ok:Nat→Prop} {w:World} {l r:List D} {xs:List Value} (h:j1 ok w l xs) {n o:Nat} (hr:takeD n (dropD o l)=some r):j1 ok w r ((xs.drop o).take n)∧r.length=n∧(n=0∨o+n≤l.length):=by
 obtain⟨h1,h2,_⟩:=b1X hr;rw [b7l]at h2;refine⟨by rw [h2];exact(h.drop o).take n,h1, ?_⟩;have:=l8 List.length h2;simp at this;omega
theorem b4i {ok:Nat→Prop} {w:World} {R:Bool→Nat→Prop} {agg:Bool} {r:List D} {xs:List Value} {x:D} (h:j1 ok w r xs) (hx:mkD agg r=some x):∃s,a4x agg xs=some s∧d8 ok w R x s:=by
 unfold mkD at hx;split at hx
 · split at hx
   · rename_i hf;cases hx;refine⟨.agg (vs xs),rfl, ?_⟩;simp only [d8];exact⟨vs xs,rfl,j1.rel _ _ h,hf⟩
   · cases hx
 · split at hx
   · cases hx;cases xs with
     |nil=>simp [j1]at h
     |cons y xs=>cases xs with
      |nil=>simp only [j1]at h;exact⟨.v y,rfl,Rep.rel _ _ h.1⟩
      |cons=>simp [j1]at h
   · cases hx
 · cases hx
theorem b7z {agg:Bool} {r:List D} {x:D} (hx:mkD agg r=some x):x≠ .bad:=by
 unfold mkD at hx;split at hx
 · split at hx<;>cases hx;simp
 · split at hx
   · rename_i ho;cases hx;intro e;subst e;simp [a2U]at ho
   · cases hx
 · cases hx
theorem a5M {l r:List D} (h:u7 l=true) (hs:∀d,d∈r→d∈l):u7 r=true:=F0 fun d hd=>u4 h (hs d hd)
theorem b8F {l:List D} {z n i:Nat} (hl:l.length=n*z) (hi:i<n):(el l z i).length=z:=by
 have:(i+1)*z≤n*z:=Z6 z hi;rw [J3]at this;simp [el,hl];omega
theorem b8S {l:List D} {z i:Nat} {d:D} (h:d∈el l z i):d∈l:=a4w (a3k h)
theorem c4m {α:Type} {o:Nat} {xs l:List α} (h:o+xs.length≤l.length):over o xs l=some (l.take o++xs++l.drop (o+xs.length)):=by
 induction l generalizing o xs with
 |nil=>
  simp at h;obtain⟨rfl,rfl⟩:=h;rfl
 |cons x l ih=>cases o with
  |zero=>cases xs with
   |nil=>simp [over]
   |cons y xs=>simp only [over];rw [ih (by simp at h⊢;omega)];simp
  |succ o=>simp only [over];rw [ih (by simp at h⊢;omega)];simp [Nat.add_right_comm]
theorem a9u {α:Type} {o:Nat} {xs l r:List α} (h:over o xs l=some r):r.length=l.length:=by
 obtain⟨h1,h2⟩:=a5Q h;rw [h1];simp;omega
theorem b7s {op:BinOp} {k:IntKind} {a b:Int} {K K':Out→Prop} (hK:∀o,K o→K' o) (h:b1f op k a b K):b1f op k a b K':=by
 cases op<;>simp only [b1f]at h⊢<;>first|exact hK _ h|exact⟨h.1,hK _ h.2⟩|exact h
theorem b8e {op:BinOp} {a b:ByteArray} {K K':Out→Prop} (hK:∀o,K o→K' o) (h:b1A op a b K):b1A op a b K':=by
 cases op<;>simp only [b1A]at h⊢<;>first|exact hK _ h|exact⟨h.1,hK _ h.2⟩|exact h
theorem b4o {op:BinOp} {k:IntKind} {a b:Int} {K K':Out→Prop} (hK:∀o,K o→K' o) (h:b7D op k a b K):b7D op k a b K':=by
 cases op<;>simp only [b7D]at h⊢<;>exact⟨h.1,hK _ h.2⟩
theorem a5l {op:BinOp} {e:Bool} {K K':Out→Prop} (hK:∀o,K o→K' o) (h:a2b op e K):a2b op e K':=by
 cases op<;>simp only [a2b]at h⊢<;>first|exact hK _ h|exact h
section
variable {A : Nat → Prop} {X : Cy} {w0 : World} {bor : List Nat} {st : St} {sy : Sy} {KY : a4D → Prop} {K : Out → Prop}
theorem j9 (hs:Sim A st sy) {x:Operand} {d:D} (h:evY sy x=some d):∃s,ev st x=some s∧d8 (okS A st) st.w (u6 st) d s∧d≠ .bad:=by
 cases x with
 |tmp t=>
  simp only [evY]at h;split at h
  · cases h
  · rename_i hb;have hne:d≠ .bad:=fun e=>hb (by rw [h,e])
    obtain⟨hlt,h⟩:=a1a h;rcases hs.T t d h with e|⟨s,h1,h2⟩
    · exact absurd e hne
    · refine⟨s, ?_,h2,hne⟩;have hsb:=h2.ne hne;simp only [ev,a5p hlt,h1]
      try (cases s<;>first|rfl|exact absurd rfl hsb)
 |const v=>
  simp only [evY]at h;refine⟨.v v,rfl, ?_⟩;unfold ofV at h;split at h
  · rename_i a;split at h
    · rename_i ha;cases h;refine⟨?_,by simp⟩;simp only [d8];refine⟨vs a.toList,rfl, ?_,F0 fun d hd=>by simp at hd;obtain⟨x,_,rfl⟩:=hd;rfl⟩
      have:∀l:List Value,l.all a0K=true→d9 (okS A st) st.w (u6 st) (l.map D.v) (vs l):=by
       intro l
       induction l with
       |nil=>intro _;trivial
       |cons x l ih=>intro hl;simp at hl;exact⟨by simp only [d8];exact⟨trivial,hl.1⟩,ih (by simpa using hl.2)⟩
      exact this _ ha
    · cases h
  · cases h
  · rename_i h1 h2;cases h;refine⟨?_,by simp⟩;simp only [d8];refine⟨trivial, ?_⟩;unfold a0K;split
    · exact absurd rfl (h1 _)
    · exact absurd rfl (h2 _)
    · rfl
 |func f=>simp only [evY]at h;cases h;exact⟨_,rfl,by simp only [d8];exact .inl ⟨[], [],rfl,trivial,trivial⟩,by simp⟩
 |global g=>simp [evY]at h
theorem M8 (hs:Sim A st sy) {l:List Operand} {r:List D} (h:a6N sy l=some r):∃s,evs st l=some s∧d9 (okS A st) st.w (u6 st) r s:=by
 induction l generalizing r with
 |nil=>simp only [a6N]at h;cases h;exact⟨[],rfl,trivial⟩
 |cons x l ih=>
  simp only [a6N]at h;split at h
  · rename_i d r' hd hr;cases h;obtain⟨s,h1,h2,_⟩:=j9 hs hd;obtain⟨s',h3,h4⟩:=ih hr;exact⟨s::s',by simp only [evs,h1,h3],h2,h4⟩
  · cases h
theorem b3p (st:St):∀k,u6 st true k→∃e,e8 st.H k=some e∧isR e=true:=fun _ h=>h.2 rfl
variable (hK : ∀ oy o, a6Q st.H (okS A st) st.w (u6 st) oy o → KY oy → K o)
include hK
theorem C5 {x:D} {s:SV} (h:KY (.val x)) (hr:d8 (okS A st) st.w (u6 st) x s) (hne:x≠ .bad):K (.val s):=hK (.val x) (.val s) ⟨hr,hne⟩ h
theorem a0z {o:Out} (h:a9g KY o):K o:=by
 unfold a9g at h;split at h
 · rename_i x;split at h
   · rename_i hx;refine hK (.val (.v x)) _ ⟨?_,by simp⟩ h;simp only [d8];exact⟨trivial,hx⟩
   · exact h.elim
 · exact h.elim
theorem b4T (hs:Sim A st sy) {x:Operand} (h:a1E KY (evY sy x)):a6i K (ev st x):=by
 obtain⟨d,h1,h2⟩:=a0G h;obtain⟨s,h3,h4,h5⟩:=j9 hs h1;rw [h3];exact C5 hK h2 h4 h5
theorem b1n {agg:Bool} {l:List D} {r:List SV} (h:a1E KY (mkD agg l)) (hr:d9 (okS A st) st.w (u6 st) l r):a6i K (mkv agg r):=by
 obtain⟨d,h1,h2⟩:=a0G h;obtain⟨s,h3,h4⟩:=b9H hr h1;rw [h3];exact C5 hK h2 h4 (b7z h1)
theorem c0M (hs:Sim A st sy) {i:TI} {p:D} {s:SV} (h:c2E sy i p KY) (hr:d8 (okS A st) st.w (u6 st) p s):a5z (cx X w0 bor) st i s K:=by
 unfold c2E at h;split at h
 · rename_i k o;simp only [d8]at hr;obtain⟨rfl,_⟩:=hr;split at h
   · rename_i cs ty hf;obtain⟨e',hf',he⟩:=hs.H _ _ hf;cases e' with
     |row=>exact he.elim
     |mp=>exact he.elim
     |blk b cs' ty'=>
      split at h
      · rename_i l hl;obtain⟨r,h1,h2⟩:=(he.2.dropD o).takeD hl;simp only [a5z,hf',h1];exact b1n hK h h2
      · exact h.elim
   · exact h.elim
 · rename_i k o;simp only [d8]at hr;obtain⟨rfl,_⟩:=hr;split at h
   · rename_i cs ty hf;obtain⟨e',hf',he⟩:=hs.H _ _ hf;cases e' with
     |row=>exact he.elim
     |mp=>exact he.elim
     |blk b cs' ty'=>
      obtain⟨l,hl,h⟩:=h;obtain⟨r,h1,h2⟩:=(he.2.dropD o).takeD hl;simp only [a5z,hf'];exact⟨r,h1,b1n hK h h2⟩
   · exact h.elim
 · rename_i k z j o;simp only [d8]at hr;obtain⟨rfl,_⟩:=hr;split at h
   · rename_i z' n l ty hf;obtain⟨e',hf',he⟩:=hs.H _ _ hf;cases e' with
     |blk=>exact he.elim
     |mp=>exact he.elim
     |row v n' xs sz ty'=>
      obtain⟨rfl,rfl,rfl,hrep,hfl,hlen⟩:=he;split at h
      · rename_i hz;obtain rfl:=r6 hz;obtain⟨cs,⟨rfl,hj⟩,h⟩:=h;split at h
        · rename_i r hr hbl;have hbl:=F7 hbl;have hel:j1 (okS A st) st.w (el l z' j) ((xs.drop (j*z')).take z'):=(hrep.drop _).take _;obtain⟨h1,h2,h3⟩:=hel.part hr;obtain⟨x,hx,hkx⟩:=a0G h;obtain⟨s,h4,h5⟩:=b4i (R:=u6 st) h1 hx;simp only [a5z,hf'];have hle:=b8F hlen hj;have hjz:(j+1)*z'≤n*z':=Z6 z' hj;rw [J3]at hjz;refine⟨_,⟨by rw [←h1.length,h2],by omega,fun jj hjj=> ?_⟩,by rw [h4];exact C5 hK hkx h5 (b7z hx)⟩;rw [a2v,e9 hjj,a6B,a2v,e9 (by omega),a6B];congr 1;omega
        · exact h.elim
      · exact h.elim
   · exact h.elim
 · rename_i l o;simp only [d8,Rep]at hr;obtain⟨y,rfl,b,p,xs,rfl,hok,hfl,hrep,hmem⟩:=hr;split at h
   · rename_i r hr;obtain⟨h1,h2,h3⟩:=hrep.part hr;obtain⟨x,hx,hkx⟩:=a0G h;obtain⟨s,h4,h5⟩:=b4i (R:=u6 st) h1 hx;simp only [a5z];refine⟨_,⟨by rw [←h1.length,h2], .inr ⟨hok.2.2,fun jj hjj=> ?_⟩⟩,by rw [h4];exact C5 hK hkx h5 (b7z hx)⟩;rw [show p+o+jj=p+(o+jj) from by omega,hmem (o+jj) (by omega),a2v,e9 hjj,a6B]
   · exact h.elim
 · exact h.elim
theorem b8x (hs:Sim A st sy) {i:TI} {p d:D} {s t:SV} (h:b7L sy i p d KY) (hr:d8 (okS A st) st.w (u6 st) p s) (hd:d8 (okS A st) st.w (u6 st) d t):a7i st i s t K:=by
 unfold b7L at h;split at h
 · rename_i l hl;obtain⟨r,hc,hrl⟩:=hd.cells hl;split at h
   · rename_i hn hfl;simp only [a7i,hc,←hrl.length,hn,hrl.one (b3p st) hfl];split at h
     · rename_i k o;simp only [d8]at hr;obtain⟨rfl,_⟩:=hr;split at h
       · rename_i cs ty hf;obtain⟨e',hf',he⟩:=hs.H _ _ hf;cases e' with
         |row=>exact he.elim
         |mp=>exact he.elim
         |blk b cs' ty'=>
          split at h
          · rename_i q hq;obtain⟨q',h1,h2⟩:=he.2.over hrl hq;simp only [hf',h1];exact hK (.upd k q) _ ⟨rfl,h2⟩ h
          · exact h.elim
       · exact h.elim
     · rename_i k o;simp only [d8]at hr;obtain⟨rfl,_⟩:=hr;split at h
       · rename_i cs ty hf;obtain⟨e',hf',he⟩:=hs.H _ _ hf;cases e' with
         |row=>exact he.elim
         |mp=>exact he.elim
         |blk b cs' ty'=>
          obtain⟨q,hq,h⟩:=h;obtain⟨q',h1,h2⟩:=he.2.over hrl hq;simp only [hf'];exact⟨q',h1,hK (.upd k q) _ ⟨rfl,h2⟩ h⟩
       · exact h.elim
     · rename_i k z j o;simp only [d8]at hr;obtain⟨rfl,_⟩:=hr;split at h
       · rename_i z' n q ty hf;obtain⟨e',hf',he⟩:=hs.H _ _ hf;cases e' with
         |blk=>exact he.elim
         |mp=>exact he.elim
         |row v n' xs sz ty'=>
          obtain⟨rfl,rfl,rfl,hrep,hfq,hlen⟩:=he;split at h
          · rename_i hz hno;obtain rfl:=r6 hz;obtain⟨cs,⟨rfl,hj⟩,h⟩:=h;split at h
            · rename_i cs' ho;obtain⟨r',rfl,h⟩:=h;obtain⟨vals,rfl,hv⟩:=hrl.vals hno;obtain⟨hcs,hle⟩:=a5Q ho;have hel:=b8F hlen hj;have hjz:(j+1)*z'≤n*z':=Z6 z' hj;rw [J3]at hjz;have hvl:=hv.length;have hxl:=hrep.length;have hov:over (j*z'+o) vals xs=some (xs.take (j*z'+o)++vals++xs.drop (j*z'+o+vals.length)):=c4m (by omega);simp only [hf'];refine⟨_,by rw [C8];exact hov,hK (.updR k _) _ ⟨rfl, ?_, ?_,fun v n ys z ty hq=> ?_⟩ h⟩
              · have e1:a7h q z' j cs'=q.take (j*z'+o)++l++q.drop (j*z'+o+l.length):=by
                 rw [hcs];simp only [a7h,el]
                 have a1:q.take (j*z'+o)=q.take (j*z')++((q.drop (j*z')).take z').take o:=by
                  rw [List.take_add,List.take_take,a1j (by omega)]
                 have a2:q.drop (j*z'+o+l.length)=((q.drop (j*z')).take z').drop (o+l.length)++q.drop (j*z'+z'):=by
                  rw [List.drop_take,List.drop_drop];have:q.drop (j*z'+z')=(q.drop (j*z'+(o+l.length))).drop (z'-(o+l.length)):=by rw [List.drop_drop];congr 1;omega
                  rw [this,b3R];congr 1;omega
                 rw [a1,a2];simp [a2N]
                rw [e1,←hvl];exact(((hrep.take _).app hv).app (hrep.drop _))
              · refine F0 fun d hd=> ?_
                simp only [a7h,hcs,B2]at hd;rcases hd with(hd|(hd|hd)|hd)|hd
                · exact u4 hfq (a3k hd)
                · exact u4 hfq (b8S (a3k hd))
                · exact u4 hfl hd
                · exact u4 hfq (b8S (a4w hd))
                · exact u4 hfq (a4w hd)
              · rw [hf']at hq;cases hq;have hcl:=a9u ho;simp only [a7h,N0,a1G,List.length_drop,hcl,hel,hlen];omega
            · exact h.elim
          · exact h.elim
       · exact h.elim
     · exact h.elim
   · exact h.elim
 · exact h.elim
end
theorem b3L {i:Int} {f:Nat}:∀(l:List (Int×Nat)) (es:List MapEntry) (k:Nat),es.map (fun e=>(e.key,e.val))=l.map (fun p=>(Value.int .i64 p.1,Value.func (.func p.2) #[] #[]))→b6i l i=some f→
 ∃j,Instr.findNow (.int .i64) (.int .i64 i) es k=some (some (j, .func (.func f) #[] #[]))
 | [],_,_,_,h=>by simp [b6i]at h
 |(a,g)::l, [],_,he,_=>by simp at he
 |(a,g)::l,e::es,k,he,h=>by
  simp only [C4,a2I,a2a]at he;obtain⟨⟨h1,h2⟩,h3⟩:=he;have hs:Instr.sameNow (.int .i64) (.int .i64 i) e.key=some (i==a):=by rw [h1];simp [Instr.sameNow]
  simp only [b6i]at h;simp only [Instr.findNow,hs];cases hb:(i==a)with
  |true=>rw [hb]at h;cases h;exact⟨k,by rw [h2]⟩
  |false=>rw [hb]at h;exact b3L l es (k+1) h3 h
theorem b6p {ok:Nat→Prop} {w:World} {R:Bool→Nat→Prop}:∀ {l:List D} {kc:List Value} {cs:List SV},b6f l=some kc→d9 ok w R l cs→cs=vs kc
 | [],kc,cs,h,hr=>by
  simp only [b6f]at h;cases h;cases cs with
  |nil=>rfl
  |cons=>simp [d9]at hr
 |d::l,kc,cs,h,hr=>by
  cases cs with
  |nil=>simp [d9]at hr
  |cons c cs=>
   simp only [d9]at hr;cases d<;>simp only [b6f]at h<;>try cases h
   split at h
   · rename_i r hr';cases h;have h2:=hr.1;simp only [d8]at h2;rw [h2.1,b6p hr' hr.2];rfl
   · cases h
theorem c2i:∀ {a b:List Value},vs a=vs b→a=b
 | [], [],_=>rfl
 |x::a,y::b,h=>by simp only [vs,a2I,SV.v.injEq]at h;rw [h.1,c2i h.2]
 | [],_::_,h=>by simp [vs]at h
 |_::_, [],h=>by simp [vs]at h
theorem a7F {ok:Nat→Prop} {w:World} {R:Bool→Nat→Prop} {H:Hp} {ag:Bool} {kd:D} {kc:List Value} {s:SV} (h:a5q ag kd=some kc) (hr:d8 ok w R kd s):den H s=B9 ag kc:=by
 unfold a5q at h;split at h
 · rename_i l;simp only [d8]at hr;obtain⟨cs,h1,h2,_⟩:=hr;have:=b6p h h2;subst this;cases s<;>simp [a1S]at h1
   · rename_i y;cases y<;>simp at h1;have:=c2i h1;simp [den,B9,←this]
   · subst h1;simp [den,B9,C8]
 · cases h;simp only [d8]at hr;rw [hr.1];simp [den,B9]
 · cases h
section
variable {A : Nat → Prop} {ok : Nat → Prop} {w : World} {R : Bool → Nat → Prop}
theorem d8.int {k:IntKind} {a:Int} {s:SV} (h:d8 ok w R (.v (.int k a)) s):s= .v (.int k a):=by simp only [d8]at h;exact h.1
theorem d8.sc {x:Value} {s:SV} (h:d8 ok w R (.v x) s):s= .v x:=by simp only [d8]at h;exact h.1
theorem b9b {k:CK} {x y:D} {s t:SV} {e:Bool} (h:c1r k x y=some e) (h1:d8 ok w R x s) (h2:d8 ok w R y t):eqC k s t=some e:=by
 unfold c1r at h;split at h
 · rw [h1.sc,h2.sc];exact h
 · rw [h1.sc,h2.sc];exact h
 · rw [h1.sc,h2.sc];exact h
 · cases h
theorem c3y {ks : List CK} {l m : List D} {s t : List SV} {e : Bool} (h : a4z ks l m = some e) (h1 : d9 ok w R l s) (h2 : d9 ok w R m t) : a4l ks s t = some e := by
  induction ks generalizing l m s t e with
  | nil => cases l <;> cases m <;> simp [a4z] at h
           cases s <;> cases t <;> simp [d9] at h1 h2;simpa [a4l] using h
  | cons k ks ih =>
    cases l with
    | nil => cases m <;> simp [a4z] at h
    | cons x l => cases m with
      | nil => simp [a4z] at h
      | cons y m => cases s with
        | nil => simp [d9] at h1
        | cons s ss => cases t with
          | nil => simp [d9] at h2
          | cons t tt =>
            simp only [d9] at h1 h2
            have gen : ∀ {e}, (match c1r k x y, a4z ks l m with | some a, some b => some (a && b) | _, _ => none) = some e → (match eqC k s t, a4l ks ss tt with | some a, some b => some (a && b) | _, _ => none) = some e := by
              intro e h;split at h
              · rename_i a b ha hb;cases h;rw [b9b ha h1.1 h2.1, ih hb h1.2 h2.2]
              · cases h
            cases ks with
            | nil => cases l with
              | nil => cases m with
                | nil => cases ss <;> cases tt <;> simp [d9] at h1 h2
                         simp only [a4z] at h;simp only [a4l];exact b9b h h1 h2
                | cons => simp [a4z] at h
              | cons => cases m <;> simp [a4z] at h
            | cons k' ks' =>
              have e1 : a4z (k :: k' :: ks') (x :: l) (y :: m) = (match c1r k x y, a4z (k' :: ks') l m with | some a, some b => some (a && b) | _, _ => none) := by
                cases l <;> cases m <;> rfl
              have e2 : a4l (k :: k' :: ks') (s :: ss) (t :: tt) = (match eqC k s t, a4l (k' :: ks') ss tt with | some a, some b => some (a && b) | _, _ => none) := by
                cases ss <;> cases tt <;> rfl
              rw [e1] at h;rw [e2];exact gen h
theorem b2d {b:Bool} {x:D} {s:SV} {l:List D} (h:b0c b x=some l) (h1:d8 ok w R x s):(∃r,a4e b s=some r∧d9 ok w R l r)∧((b=true∧∃cs,a1S s=some cs)∨(∃c,s= .v (.bool c))):=by
 unfold b0c at h;split at h
 · cases h;simp only [d8]at h1;obtain⟨cs,h2,h3,_⟩:=h1;refine⟨⟨cs, ?_,h3⟩, .inl ⟨rfl,cs,h2⟩⟩;cases s<;>simp [a1S]at h2
   · rename_i y;cases y<;>simp at h2;subst h2;rfl
   · subst h2;rfl
 · cases h;have:=h1.sc;subst this;exact⟨⟨_,rfl,h1,trivial⟩, .inr ⟨_,rfl⟩⟩
 · cases h
theorem b5Z {x:D} {s:SV} {l:List D} (h:c4I x=some l) (h1:d8 ok w R x s):∃r,a1S s=some r∧d9 ok w R l r:=by
 unfold c4I at h;split at h
 · cases h;simp only [d8]at h1;obtain⟨cs,h2,h3,_⟩:=h1;exact⟨cs,h2,h3⟩
 · cases h
theorem b1j {x y:D} {s:SV} {off:Nat} (h:b0p x off=some y) (h1:d8 ok w R x s):∃t,a8M s off=some t∧d8 ok w R y t∧y≠ .bad:=by
 unfold b0p at h;split at h
 · cases h;simp only [d8]at h1;obtain⟨rfl,h1⟩:=h1;exact⟨_,rfl,by simp only [d8];exact⟨trivial,h1⟩,by simp⟩
 · cases h;simp only [d8]at h1;obtain⟨rfl,h1⟩:=h1;exact⟨_,rfl,by simp only [d8];exact⟨trivial,h1⟩,by simp⟩
 · cases h;simp only [d8]at h1;obtain⟨rfl,h1⟩:=h1;exact⟨_,rfl,by simp only [d8];exact⟨by rw [Nat.add_assoc],h1⟩,by simp⟩
 · cases h;simp only [d8,Rep]at h1;obtain⟨y,rfl,b,p,xs,rfl,h2,h3,h4,h5⟩:=h1;refine⟨_,rfl, ?_,by simp⟩;simp only [d8,Rep];exact⟨_,rfl,b,p,xs,by rw [Nat.add_assoc],h2,h3,h4,h5⟩
 · cases h
theorem b5I {x y:D} {s:SV} {off:Nat} (h:b1I x off=some y) (h1:d8 ok w R x s):∃t,b0a s off=some t∧d8 ok w R y t∧y≠ .bad:=by
 unfold b1I at h;split at h
 · cases h;simp only [d8]at h1;obtain⟨rfl,h1⟩:=h1;exact⟨_,rfl,by simp only [d8];exact⟨trivial,h1⟩,by simp⟩
 · cases h;simp only [d8]at h1;obtain⟨rfl,h1⟩:=h1;exact⟨_,rfl,by simp only [d8];exact⟨trivial,h1⟩,by simp⟩
 · cases h;simp only [d8,Rep]at h1;obtain⟨y,rfl,b,p,xs,rfl,h2,h3,h4,h5⟩:=h1;refine⟨_,rfl, ?_,by simp⟩;simp only [d8,Rep];exact⟨_,rfl,b,p,xs,by rw [Nat.add_assoc],h2,h3,h4,h5⟩
 · cases h
theorem d9.one1 {d:D} {s:List SV} (h:d9 ok w R [d] s):∃s1,s= [s1]∧d8 ok w R d s1:=by
 match s,h with
 | [s1],h=>exact⟨s1,rfl,h.1⟩
theorem d9.three {a b c:D} {s:List SV} (h:d9 ok w R [a,b,c] s):∃s1 s2 s3,s= [s1,s2,s3]∧d8 ok w R a s1∧d8 ok w R b s2∧d8 ok w R c s3:=by
 match s,h with
 | [s1,s2,s3],h=>exact⟨s1,s2,s3,rfl,h.1,h.2.1,h.2.2.1⟩
theorem d9.two {d e:D} {s:List SV} (h:d9 ok w R [d,e] s):∃s1 s2,s= [s1,s2]∧d8 ok w R d s1∧d8 ok w R e s2:=by
 match s,h with
 | [s1,s2],h=>exact⟨s1,s2,rfl,h.1,h.2.1⟩
theorem c5V {l:List D} {z n b o:Nat} {i:Int} {xs:List Value} (hlen:l.length=n*z) (hfl:u7 l=true) (hok:ok b) (hrep:j1 ok w l xs) (hcell:∀j,j<n*z→w.cell? ⟨b,o+j,none⟩=xs[j]?) (h0:0≤i) (hlt:i<n):
 Rep ok w (.ptr (el l z i.toNat) 0) (.pointer (some ⟨b,o+i.toNat*z,none⟩)):=by
 have hj:i.toNat<n:=by omega
 have hel:=b8F hlen hj;have hjz:(i.toNat+1)*z≤n*z:=Z6 z hj;rw [J3]at hjz;simp only [Rep];refine⟨b,o+i.toNat*z,(xs.drop (i.toNat*z)).take z,rfl,hok,a5M hfl fun d hd=>b8S hd,(hrep.drop _).take _,fun j hj=> ?_⟩;rw [hel]at hj;rw [show o+i.toNat*z+j=o+(i.toNat*z+j) from by omega,hcell _ (by omega),a2v,e9 hj,a6B]
theorem b9l {l:List D} {z n p q c':Nat} {a a':Option Addr} {m:Nat} {xs:List Value} (hlen:l.length=n*z) (hmx:(n:Int)≤9223372036854775807) (hfl:u7 l=true)
 (hmem:c'=0∨∃b o xs,a=some ⟨b,o,none⟩∧ok b∧j1 ok w l xs∧∀j,j<n*z→w.cell? ⟨b,o+j,none⟩=xs[j]?) (hpq:p≤q) (hqn:q≤n) (hqc:q≤c') (ha':a'=c2m a p c' z):
 Rep ok w (.lst z (q-p) ((l.drop (p*z)).take ((q-p)*z))) (.slice a' (q-p) (c'-p)):=by
 simp only [Rep];have hqz:q*z≤n*z:=Z6 z hqn;have hpz:p*z≤q*z:=Z6 z hpq;refine⟨a',c'-p,rfl,by omega,by omega,by simp [hlen,Nat.sub_mul];omega,a5M hfl fun d hd=>a4w (a3k hd), ?_⟩;rcases hmem with rfl|⟨b,o,xs,rfl,hok,hrep,hcell⟩
 · left;omega
 · right;have hq:(q-p)*z=q*z-p*z:=Nat.sub_mul ..;by_cases hpc:c'=p
   · refine⟨b,o,(xs.drop (p*z)).take ((q-p)*z), ?_,hok,(hrep.drop _).take _,fun j hj=> ?_⟩
     · rw [ha'];unfold c2m;rw [e9 hpc]
     · have:q=p:=by omega
       subst this;simp at hj
   · refine⟨b,o+p*z,(xs.drop (p*z)).take ((q-p)*z), ?_,hok,(hrep.drop _).take _,fun j hj=> ?_⟩
     · rw [ha'];unfold c2m;rw [i6 hpc];simp [G0]
     · rw [show o+p*z+j=o+(p*z+j) from by omega,hcell _ (by omega),a2v,e9 hj,a6B]
theorem c0O {X:Cx} {st:St} {x y:Operand} {s t:SV} {op:BinOp} {ty yt:TypeId} {K:Out→Prop} {n:Nat} {agg:Bool} {z:List Value} {ks:List CK} {d:TD} {l m:List SV} {e:Bool} (hs:ev st x=some s) (ht:ev st y=some t)
 (n1:∀k a,s≠ .v (.int k a)) (n2:∀a,s≠ .v (.string a)) (hi:A5 X.tt ty=some ⟨n,agg,z,some ks,d⟩) (hl:a4e agg s=some l) (hm:a4e agg t=some m) (he:a4l ks l m=some e) (h:a2b op e K):ev1 X st (.binOp op ty x y yt) K:=by
 simp only [ev1,hs,ht];split
 · rename_i e1 _;cases e1;exact absurd rfl (n1 _ _)
 · rename_i e1 _;cases e1;exact absurd rfl (n2 _)
 · rename_i e1 e2;cases e1;cases e2;rw [hi];simp only [hl,hm,he];exact h
 · rename_i hno;exact hno _ _ rfl rfl
theorem b3U {z:Nat} {st:Sy}:∀ {ps:List (Nat×Operand)} {l l':List D},a2S z st ps l=some l'→l'.length=l.length
 | [],l,l',h=>by simp only [a2S]at h;cases h;rfl
 |(i,x)::ps,l,l',h=>by
  simp only [a2S]at h;split at h
  · split at h
    · split at h
      · split at h
        · rename_i q hq;rw [b3U h,a9u hq]
        · cases h
      · cases h
    · cases h
  · cases h
theorem c1B (l:List Value):(vD l).length=l.length:=by
 induction l with
 |nil=>rfl
 |cons x l ih=>simp [vD,ih]
theorem b6t (n:Nat) (l:List D):(a9O n l).length=n*l.length:=by
 induction n with
 |zero=>simp [a9O]
 |succ n ih=>simp [a9O,ih,J3,Nat.add_comm]
theorem c6A (l:List Value):N2 (vD l)=true:=by
 induction l with
 |nil=>rfl
 |cons x l ih=>simp only [vD,N2,b4l];exact ih
theorem c0K {l r:List D} (h:N2 l=true) (h':N2 r=true):N2 (l++r)=true:=by
 induction l with
 |nil=>exact h'
 |cons x l ih=>
  simp only [N2]at h;simp only [S0,N2];cases hx:b4l x with
  |true=>rw [hx]at h;exact ih h
  |false=>rw [hx]at h;cases h
theorem c4r (n:Nat) {l:List D} (h:N2 l=true):N2 (a9O n l)=true:=by
 induction n with
 |zero=>rfl
 |succ n ih=>exact c0K h ih
theorem a5E {l:List D} (h:N2 l=true):u7 l=true:=F0 fun d hd=>by
 have:=b8v h hd;cases d<;>simp [b4l]at this<;>rfl
theorem b5Q {l:List D} {r:List SV} (h:d9 ok w R l r) (n:Nat):d9 ok w R (a9O n l) (a2W n r):=by
 induction n with
 |zero=>trivial
 |succ n ih=>exact h.app ih
end
section
variable {A : Nat → Prop} {X : Cy} {w0 : World} {bor : List Nat} {st : St} {sy : Sy} {KY : a4D → Prop} {K : Out → Prop}
theorem b3h (hs:Sim A st sy) {fs:List (Nat×Nat×Nat)}:∀ {ps:List (Nat×Operand)} {l l':List D} {r:List SV},b0G fs sy ps l=some l'→d9 (okS A st) st.w (u6 st) l r→
 ∃r',b0H fs st ps r=some r'∧d9 (okS A st) st.w (u6 st) l' r'
 | [],l,l',r,h,hr=>by simp only [b0G]at h;cases h;exact⟨r,rfl,hr⟩
 |(i,x)::ps,l,l',r,h,hr=>by
  simp only [b0G]at h;split at h
  · rename_i a off n d hn hd;obtain⟨s,h1,h2,_⟩:=j9 hs hd;split at h
    · rename_i cs hc;obtain⟨cs',h3,h4⟩:=h2.cells hc;split at h
      · rename_i hl hf;split at h
        · rename_i q hq;obtain⟨q',h5,h6⟩:=hr.over h4 hq;obtain⟨r',h7,h8⟩:=b3h hs h h6;refine⟨r', ?_,h8⟩;simp only [b0H,hn,h1,h3,←h4.length,hl,h4.one (b3p st) hf,h5];exact h7
        · cases h
      · cases h
    · cases h
  · cases h
theorem a8p (hs:Sim A st sy) {z:Nat}:∀ {ps:List (Nat×Operand)} {l l':List D} {r:List SV},a2S z sy ps l=some l'→d9 (okS A st) st.w (u6 st) l r→
 ∃r',a8b z st ps r=some r'∧d9 (okS A st) st.w (u6 st) l' r'
 | [],l,l',r,h,hr=>by simp only [a2S]at h;cases h;exact⟨r,rfl,hr⟩
 |(i,x)::ps,l,l',r,h,hr=>by
  simp only [a2S]at h;split at h
  · rename_i d hd;obtain⟨s,h1,h2,_⟩:=j9 hs hd;split at h
    · rename_i cs hc;obtain⟨cs',h3,h4⟩:=h2.cells hc;split at h
      · rename_i hl hf;split at h
        · rename_i q hq;obtain⟨q',h5,h6⟩:=hr.over h4 hq;obtain⟨r',h7,h8⟩:=a8p hs h h6;refine⟨r', ?_,h8⟩;simp only [a8b,h1,h3,←h4.length,hl,h4.one (b3p st) hf,h5];exact h7
        · cases h
      · cases h
    · cases h
  · cases h
theorem b4W (hs:Sim A st sy) {len cap cap':Nat} {lo hi mx:Option Operand} {B:Nat→Nat→Nat→Prop} {B':Nat→Nat→Nat→Prop} (hc:cap≤cap') (hlc:len≤cap) (h:b8b sy len cap lo hi mx B)
 (hB:∀a b m,a≤b→b≤cap→B a b m→B' a b cap'):bnd st len cap' lo hi mx B':=by
 unfold b8b at h;split at h
 · split at h
   · split at h
     · exact hB _ _ _ (J4 _) hlc h
     · split at h
       · rename_i hl;obtain⟨s,h1,h2,_⟩:=j9 hs hl;have:=h2.sc;subst this;simp only [bnd,h1];refine⟨h.1,hB _ _ _ (by omega) hlc h.2⟩
       · exact h.elim
   · split at h
     · rename_i hl;obtain⟨s,h1,h2,_⟩:=j9 hs hl;have:=h2.sc;subst this;simp only [bnd,h1];refine⟨⟨h.1.1,by omega⟩, ?_⟩;replace h:=h;obtain⟨h0,h⟩:=h;split at h
       · exact hB _ _ _ (J4 _) (by omega) h
       · split at h
         · rename_i hl2;obtain⟨s,h3,h4,_⟩:=j9 hs hl2;have:=h4.sc;subst this;simp only [h3];exact⟨h.1,hB _ _ _ (by omega) (by omega) h.2⟩
         · exact h.elim
     · exact h.elim
 · exact h.elim
theorem c3k (hs:Sim A st sy) {len cap cap':Nat} {lo hi:Option Operand} {m:Operand} {B:Nat→Nat→Prop} {B':Nat→Nat→Nat→Prop} (hc:cap≤cap') (h:c5I sy cap lo hi m B)
 (hB:∀a b x,a≤b→b≤x→x≤cap→B a b→B' a b x):bnd st len cap' lo hi (some m) B':=by
 unfold c5I at h;split at h
 · rename_i hm;obtain⟨s,h1,h2,_⟩:=j9 hs hm;have:=h2.sc;subst this;obtain⟨h0,h⟩:=h;simp only [bnd,h1];refine⟨⟨h0.1,by omega⟩, ?_⟩;split at h
   · rename_i hh;obtain⟨s,h3,h4,_⟩:=j9 hs hh;have:=h4.sc;subst this;obtain⟨h5,h⟩:=h;simp only [h3];refine⟨h5, ?_⟩;split at h
     · exact hB _ _ _ (J4 _) (by omega) (by omega) h
     · split at h
       · rename_i hl;obtain⟨s,h6,h7,_⟩:=j9 hs hl;have:=h7.sc;subst this;simp only [h6];exact⟨h.1,hB _ _ _ (by omega) (by omega) (by omega) h.2⟩
       · exact h.elim
   · exact h.elim
 · exact h.elim
variable (hK : ∀ oy o, a6Q st.H (okS A st) st.w (u6 st) oy o → KY oy → K o)
include hK
theorem a0H {x:Value} (h:KY (.val (.v x))) (ho:a0K x=true):K (.val (.v x)):=C5 hK h (by simp only [d8];exact⟨trivial,ho⟩) (by simp)
theorem b6y (hs:Sim A st sy) {b:Builtin} {args:List Operand} {tys:List TypeId} (h:b2j X sy b args tys KY):H9 (cx X w0 bor) st b args tys K:=by
 unfold b2j at h;split at h
 · split at h
   · rename_i ht he;obtain⟨s,h1,h2⟩:=M8 hs he;obtain⟨s1,rfl,h3⟩:=h2.one1;have:=h3.sc;subst this;simp only [H9,cx,ht,h1];exact a0H hK h rfl
   · rename_i ht he;obtain⟨s,h1,h2⟩:=M8 hs he;obtain⟨s1,rfl,h3⟩:=h2.one1;simp only [d8,Rep]at h3;obtain⟨y,rfl,a,c,rfl,_⟩:=h3;simp only [H9,cx,ht,h1];exact a0H hK h rfl
   · rename_i ht he;obtain⟨s,h1,h2⟩:=M8 hs he;obtain⟨s1,rfl,h3⟩:=h2.one1;simp only [d8]at h3;obtain⟨rfl,_⟩:=h3;simp only [H9,cx,ht,h1];exact a0H hK h rfl
   · rename_i ht he;obtain⟨s,h1,h2⟩:=M8 hs he;obtain⟨s1,rfl,h3⟩:=h2.one1;simp only [d8]at h3;obtain⟨rfl,_⟩:=h3;split at h
     · rename_i hf;obtain⟨e',hf',he⟩:=hs.H _ _ hf;cases e' with
       |blk=>exact he.elim
       |mp=>exact he.elim
       |row v n' xs z' ty'=>
        obtain⟨rfl,_⟩:=he;simp only [H9,cx,ht,h1,hf'];exact a0H hK h rfl
     · exact h.elim
   · rename_i ht he;obtain⟨s,h1,h2⟩:=M8 hs he;obtain⟨s1,rfl,h3⟩:=h2.one1;have:=h3.sc;subst this;simp only [H9,cx,ht,h1];exact a0H hK h rfl
   · exact h.elim
 · split at h
   · rename_i he;obtain⟨s,h1,h2⟩:=M8 hs he;obtain⟨s1,s2,rfl,h3,h4⟩:=h2.two;have:=h3.sc;subst this;have:=h4.sc;subst this;simp only [H9,h1];exact a0H hK h rfl
   · rename_i he;obtain⟨s,h1,h2⟩:=M8 hs he;obtain⟨s1,s2,s3,rfl,h3,h4,h5⟩:=h2.three;have:=h3.sc;subst this;have:=h4.sc;subst this;have:=h5.sc;subst this;simp only [H9,h1];exact a0H hK h rfl
   · exact h.elim
 · split at h
   · rename_i he;obtain⟨s,h1,h2⟩:=M8 hs he;obtain⟨s1,s2,rfl,h3,h4⟩:=h2.two;have:=h3.sc;subst this;have:=h4.sc;subst this;simp only [H9,h1];exact a0H hK h rfl
   · exact h.elim
 · split at h
   · rename_i hb ht he;obtain⟨s,h1,h2⟩:=M8 hs he;obtain⟨s1,s2,rfl,h3,h4⟩:=h2.two;split at h
     · rename_i i hi;split at h
       · rename_i hn;simp only [H9,cx,hb,ht,h1,hi,hn];exact hK _ _ (by exact⟨rfl,rfl,rfl,h3,h4⟩) h
       · exact h.elim
     · exact h.elim
   · exact h.elim
 · exact h.elim
theorem c0B {fs:List (Nat×Nat×Nat)} {f:Nat} {x:D} {s:SV} (h:b7W X fs f x KY) (hr:d8 (okS A st) st.w (u6 st) x s):a7p (cx X w0 bor) fs f s K:=by
 unfold b7W at h;split at h
 · rename_i hn ha;obtain⟨r,h1,h2⟩:=b5Z ha hr;split at h
   · rename_i hi hq;obtain⟨q,h3,h4⟩:=(h2.dropD _).takeD hq;split at h
     · rename_i hb;simp only [a7p,cx,hn,h1,hi,h3,hb];exact b1n hK h h4
     · exact h.elim
   · exact h.elim
 · exact h.elim
theorem b2p (hz:∀t i,A5 X.tt t=some i→(∀x,x∈i.z→a0K x=true)∧i.z.length=i.n) (hs:Sim A st sy) {t:TypeId} {l c:Operand} (h:y1 X sy (.makeSlice t l c) KY):ev1 (cx X w0 bor) st (.makeSlice t l c) K:=by
 simp only [y1]at h;split at h
 · rename_i n0 agg0 z0 eq0 e esz bytes k1 p k2 q hi hl hc;obtain⟨s,h1,h2,_⟩:=j9 hs hl;obtain⟨u,h3,h4,_⟩:=j9 hs hc;have:=h2.sc;subst this;have:=h4.sc;subst this;split at h
   · rename_i i hie;split at h
     · rename_i hn;obtain⟨h0,l',n',⟨rfl,rfl⟩,h⟩:=h;simp only [ev1,cx,hi,h1,h3,hie,hn];have hzi:=hz _ _ hie;have hrel:d9 (okS A st) st.w (u6 st) (a9O p.toNat (vD i.z)) (a2W p.toNat (vs i.z)):=b5Q (b1l hzi.1) _;have hno:N2 (a9O p.toNat (vD i.z))=true:=c4r _ (c6A i.z);obtain⟨xs,hx,h5⟩:=hrel.vals hno;refine⟨h0,hK (.newR (a9O p.toNat (vD i.z)) e esz p.toNat) _ (by exact⟨rfl,rfl,by rw [b6t,c1B,hzi.2,r6 hn],by simp only [maxLen];omega,a5E hno,xs,hx,h5⟩) h⟩
     · exact h.elim
   · exact h.elim
 · exact h.elim
theorem b7a (hs:Sim A st sy) {x:Operand} {n:Nat} (h:y1 X sy (.extract x n) KY):ev1 (cx X w0 bor) st (.extract x n) K:=by
 simp only [y1]at h;cases hx:evY sy x with
 |none=>rw [hx]at h;exact h.elim
 |some d=>
  rw [hx]at h;obtain⟨s,h1,h2,_⟩:=j9 hs hx;cases d with
  |tup l=>
   simp only at h;simp only [d8]at h2;cases hq:dropD n l with
   |nil=>rw [hq]at h;exact h.elim
   |cons d r=>
    rw [hq]at h;have hne:d≠ .bad:=fun e=>by subst e;exact h.elim
    have hk:KY (.val d):=by cases d<;>first|exact h|exact absurd rfl hne
    rcases h2 with⟨cs,rfl,h2⟩|⟨a,rfl,h2⟩
    · have h3:=h2.dropD n;rw [hq]at h3;simp only [ev1,h1];cases hq2:Y2 n cs with
      |nil=>rw [hq2]at h3;simp [d9]at h3
      |cons q qs=>
       rw [hq2]at h3;have hqb:=h3.1.ne hne;have:=C5 hK hk h3.1 hne;cases q<;>first|exact this|exact absurd rfl hqb
    · have h3:=h2.dropD n;rw [hq]at h3;simp only [ev1,h1];cases hq2:Y2 n (vs a.toList)with
      |nil=>rw [hq2]at h3;simp [d9]at h3
      |cons q qs=>rw [hq2]at h3;exact C5 hK hk h3.1 hne
  |_=>exact h.elim
theorem b1i (hz:∀t i,A5 X.tt t=some i→(∀x,x∈i.z→a0K x=true)∧i.z.length=i.n) (hs:Sim A st sy) {t:TypeId} {n:Nat} {ps:Array (Nat×Operand)} (h:y1 X sy (.buildSlice t n ps) KY):ev1 (cx X w0 bor) st (.buildSlice t n ps) K:=by
 simp only [y1]at h;cases hi:A5 X.tt t with
 |none=>rw [hi]at h;exact h.elim
 |some i=>
  rw [hi]at h;obtain⟨in_,agg,iz,ieq,d⟩:=i;cases d with
  |slice e esz bytes=>
   simp only at h;cases hie:A5 X.tt e with
   |none=>rw [hie]at h;exact h.elim
   |some i=>
    rw [hie]at h;simp only at h;cases hb:Nat.ble (n*esz) 16777216 with
    |false=>rw [hb]at h;exact h.elim
    |true=>
     rw [hb]at h;cases hn:Nat.beq i.n esz with
     |false=>rw [hn]at h;exact h.elim
     |true=>
      rw [hn]at h;cases hl:a2S esz sy ps.toList (a9O n (vD i.z))with
      |none=>rw [hl]at h;exact h.elim
      |some l=>
       rw [hl]at h;simp only at h;obtain⟨r,h1,h2⟩:=a8p hs hl (b5Q (b1l (hz _ _ hie).1) _);simp only [ev1,cx,hi,hie,hb,hn,h1];have hlen:l.length=n*esz:=by rw [b3U hl,b6t,c1B,(hz _ _ hie).2,r6 hn]
       cases hno:N2 l with
       |false=>rw [hno]at h;exact hK (.new l e (some (esz,n))) _ (by exact⟨rfl,h2,rfl⟩) (by cases Nat.ble n 16777216<;>exact h)
       |true=>
        rw [hno]at h;cases hbn:Nat.ble n 16777216 with
        |false=>rw [hbn]at h;exact hK (.new l e (some (esz,n))) _ (by exact⟨rfl,h2,rfl⟩) h
        |true=>
         rw [hbn]at h;obtain⟨l',n',⟨rfl,rfl⟩,h⟩:=h;obtain⟨xs,rfl,h3⟩:=h2.vals hno;exact hK (.newR l e esz n) _ (by exact⟨rfl,rfl,hlen,(by have:=F7 hbn;simp only [maxLen];omega),a5E hno,xs,rfl,h3⟩) h
  |_=>exact h.elim
theorem b7T (hs:Sim A st sy) {t:TypeId} {x ix:Operand} {ok:Bool} (h:y1 X sy (.lookup t x ix ok) KY):ev1 (cx X w0 bor) st (.lookup t x ix ok) K:=by
 simp only [y1]at h;split at h
 · rename_i l hx;obtain⟨s,h1,h2,_⟩:=j9 hs hx;split at h
   · rename_i i hi;obtain⟨hT,f,hf,hk⟩:=h;obtain⟨s',h3,h4,_⟩:=j9 hs hi;have:=h4.sc;subst this;simp only [d8,Rep]at h2;obtain⟨y,rfl,r,es,c,rfl,hok,hb,he⟩:=h2;obtain⟨j,hj⟩:=b3L l es.toList 0 he hf;simp only [ev1,h1,h3];exact⟨hT,es,c,j,_, .inr ⟨hok.2.2,hb⟩,hj,C5 hK hk (by simp only [d8];exact .inr ⟨#[], #[],rfl,trivial,trivial⟩) (by simp)⟩
   · exact h.elim
 · rename_i k z0 hx;obtain⟨s,h1,h2,_⟩:=j9 hs hx;simp only [d8]at h2;obtain⟨rfl,_⟩:=h2;split at h
   · rename_i kd es m hi hf;obtain⟨hm,kc,v,b,⟨hkc,hty,hv,hb,hpl⟩,hk⟩:=h;obtain⟨s',h3,h4,_⟩:=j9 hs hi;obtain⟨e',hf',he⟩:=hs.H _ _ hf;cases e' with
     |blk=>exact he.elim
     |row=>exact he.elim
     |mp bl es' m'=>
      obtain⟨rfl,rfl⟩:=he;simp only [ev1,h1,h3,hf'];have h1v:a0K v=true:=by cases v<;>first|rfl|simp [plV]at hpl
      refine⟨hm,kc,v,b,⟨a7F hkc h4,hty,hv,hb⟩,C5 hK hk ?_ (by cases ok<;>simp)⟩;cases ok with
      |true=>
       simp only [d8];exact .inl ⟨_,rfl,by simp only [d9,d8];exact⟨⟨trivial,h1v⟩,⟨trivial,rfl⟩,trivial⟩⟩
      |false=>simp only [d8];exact⟨trivial,h1v⟩
   · exact h.elim
 · exact h.elim
theorem c2s (hs:Sim A st sy) {c:Call} (h:y1 X sy (.call c) KY):ev1 (cx X w0 bor) st (.call c) K:=by
 obtain⟨callee,args,tys⟩:=c;cases callee with
 |value f=>
  simp only [y1]at h;cases hf:evY sy f with
  |none=>rw [hf]at h;exact h.elim
  |some d=>
   rw [hf]at h;cases d with
   |fn g l caps=>
    try simp only at h
    cases ha:a6N sy args.toList with
    |none=>rw [ha]at h;exact h.elim
    |some as=>
     rw [ha]at h
     try simp only at h
     obtain⟨s,h1,h2,_⟩:=j9 hs hf;obtain⟨t,h3,h4⟩:=M8 hs ha;simp only [d8]at h2;rcases h2 with⟨p,q,rfl,h5,h6⟩|⟨p,q,rfl,h5,h6⟩
     · simp only [ev1,h1,h3];exact hK (.call g _) _ (by exact⟨rfl,h5.app (h4.app h6)⟩) h
     · simp only [ev1,h1,h3];exact hK (.call g _) _ (by exact⟨rfl,h5.app (h4.app h6)⟩) h
   |_=>exact h.elim
 |builtin b=>
  simp only [y1]at h;simp only [ev1];exact b6y hK hs h
 |_=>exact h.elim
theorem b8A (hz:∀t i,A5 X.tt t=some i→(∀x,x∈i.z→a0K x=true)∧i.z.length=i.n) (hs:Sim A st sy) {op:Op} (h:y1 X sy op KY):ev1 (cx X w0 bor) st op K:=by
 unfold y1 at h;split at h
 · exact b4T hK hs h
 · exact b4T hK hs h
 · split at h
   · rename_i hc;obtain⟨s,h1,h2,_⟩:=j9 hs hc;have:=h2.sc;subst this;simp only [ev1,h1];rename_i t _;cases t
     · exact b4T hK hs h
     · exact b4T hK hs h
   · exact h.elim
 · split at h
   · rename_i i hi;simp only [ev1,cx,hi];exact hK _ _ (by exact⟨rfl,b1l (hz _ _ hi).1,rfl⟩) h
   · exact h.elim
 · split at h
   · rename_i i d hi hd;obtain⟨s,h1,h2,_⟩:=j9 hs hd;split at h
     · rename_i l hl;obtain⟨r,h3,h4⟩:=h2.cells hl;split at h
       · rename_i hf;simp only [ev1,cx,hi,h1,h3,h4.one (b3p st) hf];exact hK _ _ (by exact⟨rfl,h4,rfl⟩) h
       · exact h.elim
     · exact h.elim
   · exact h.elim
 · split at h
   · rename_i i d hi hd;obtain⟨s,h1,h2,_⟩:=j9 hs hd;simp only [ev1,h1];simp only [cx,hi];exact c0M (X:=X) (w0:=w0) (bor:=bor) hK hs h h2
   · exact h.elim
 · split at h
   · rename_i i d e hi hd he;obtain⟨s,h1,h2,_⟩:=j9 hs hd;obtain⟨t,h3,h4,_⟩:=j9 hs he;simp only [ev1,cx,hi,h1,h3];exact b8x hK hs h h2 h4
   · exact h.elim
 · split at h
   · rename_i hd;obtain⟨s,h1,h2,h3⟩:=j9 hs hd;have h2':=h2;simp only [d8]at h2;obtain⟨rfl,_⟩:=h2;simp only [ev1,h1];exact C5 hK h h2' h3
   · rename_i hd;obtain⟨s,h1,h2,h3⟩:=j9 hs hd;have h2':=h2;simp only [d8]at h2;obtain⟨rfl,_⟩:=h2;simp only [ev1,h1];exact C5 hK h h2' h3
   · rename_i hd;obtain⟨s,h1,h2,h3⟩:=j9 hs hd;have h2':=h2;simp only [d8]at h2;obtain⟨rfl,_⟩:=h2;simp only [ev1,h1];exact C5 hK h h2' h3
   · rename_i hd;obtain⟨s,h1,h2,h3⟩:=j9 hs hd;have h2':=h2;simp only [d8,Rep]at h2;obtain⟨y,rfl,b,p,xs,rfl,_⟩:=h2;simp only [ev1,h1];exact C5 hK h h2' h3
   · exact h.elim
 · split at h
   · rename_i hi hd;obtain⟨s,h1,h2,_⟩:=j9 hs hd;split at h
     · rename_i hn;obtain⟨y,h3,h4⟩:=a0G h;obtain⟨t,h5,h6,h7⟩:=b1j h3 h2;simp only [ev1,cx,hi,h1,hn,h5];exact C5 hK h4 h6 h7
     · exact h.elim
   · exact h.elim
 · split at h
   · rename_i hi hd;obtain⟨s,h1,h2,_⟩:=j9 hs hd;simp only [ev1,h1];simp only [cx,hi];exact c0B (X:=X) (w0:=w0) (bor:=bor) hK h h2
   · exact h.elim
 · --indexAddr
   split at h
   · rename_i hi hd hx;obtain⟨s,h1,h2,_⟩:=j9 hs hd;obtain⟨t,h3,h4,_⟩:=j9 hs hx;have:=h4.sc;subst this;split at h
     · rename_i hz;obtain rfl:=r6 hz;obtain⟨cs,⟨rfl,h0,hlt⟩,h⟩:=h;simp only [d8,Rep]at h2;obtain⟨y,rfl,a,c,rfl,hnc,hmx,hlen,hfl,hmem⟩:=h2;simp only [ev1,cx,hi,h1,h3];rcases hmem with rfl|⟨b,o,xs,rfl,hok,hrep,hcell⟩
       · omega
       · refine⟨b,o,⟨rfl,h0,hlt⟩,C5 hK h ?_ (by simp)⟩;simp only [d8];exact⟨_,rfl,c5V hlen hfl hok hrep hcell h0 hlt⟩
     · exact h.elim
   · rename_i hi hd hx;obtain⟨s,h1,h2,_⟩:=j9 hs hd;obtain⟨t,h3,h4,_⟩:=j9 hs hx;have:=h4.sc;subst this;simp only [d8]at h2;obtain⟨rfl,h2⟩:=h2;split at h
     · rename_i hz;obtain rfl:=r6 hz;simp only [ev1,cx,hi,h1,h3];exact⟨h.1,C5 hK h.2 (by simp only [d8];exact⟨trivial,h2⟩) (by simp)⟩
     · exact h.elim
   · rename_i hi hd hx;obtain⟨s,h1,h2,_⟩:=j9 hs hd;obtain⟨t,h3,h4,_⟩:=j9 hs hx;have:=h4.sc;subst this;simp only [d8]at h2;obtain⟨rfl,h2⟩:=h2;split at h
     · rename_i hz hf;obtain rfl:=r6 hz;obtain⟨e',hf',he⟩:=hs.H _ _ hf;cases e' with
       |blk=>exact he.elim
       |mp=>exact he.elim
       |row v n' xs z' ty'=>
        obtain⟨rfl,_⟩:=he;split at h
        · rename_i hz2;simp only [ev1,cx,hi,h1,h3,hf'];exact⟨h.1,C5 hK h.2 (by simp only [d8];exact⟨rfl,h2⟩) (by simp)⟩
        · exact h.elim
     · exact h.elim
   · omega
   · rename_i hi hd hx;obtain⟨s,h1,h2,_⟩:=j9 hs hd;obtain⟨t,h3,h4,_⟩:=j9 hs hx;have:=h4.sc;subst this;obtain⟨h0,h⟩:=h;obtain⟨y,h5,h6⟩:=a0G h;simp only [ev1,cx,hi,h1,h3];refine⟨h0, ?_⟩;split at h5
     · obtain⟨u,h7,h8,h9⟩:=b1j h5 h2;rename_i hc;simp only [hc,h7];exact C5 hK h6 h8 h9
     · obtain⟨u,h7,h8,h9⟩:=b5I h5 h2;rename_i hc;simp only [hc,h7];exact C5 hK h6 h8 h9
   · exact h.elim
 · --index
   split at h
   · rename_i hi hd hx;obtain⟨s,h1,h2,_⟩:=j9 hs hd;obtain⟨t,h3,h4,_⟩:=j9 hs hx;have:=h4.sc;subst this;have:=h2.sc;subst this;obtain⟨c,h0,h⟩:=h;simp only [ev1,cx,hi,h1,h3];exact⟨c,h0,a0H hK h rfl⟩
   · rename_i hi hd hx;obtain⟨s,h1,h2,_⟩:=j9 hs hd;obtain⟨t,h3,h4,_⟩:=j9 hs hx;have:=h4.sc;subst this;split at h
     · rename_i ha hti;obtain⟨r,h5,h6⟩:=b5Z ha h2;obtain⟨h0,h⟩:=h;simp only [ev1,cx,hi,h1,h3,h5,hti];refine⟨h0, ?_⟩;split at h
       · rename_i _ hb;split at h
         · rename_i hq;obtain⟨q,h7,h8⟩:=(h6.dropD _).takeD hq;simp only [hb,h7];exact b1n hK h h8
         · exact h.elim
       · rename_i _ hb;obtain⟨r,hq,h⟩:=h;obtain⟨q,h7,h8⟩:=(h6.dropD _).takeD hq;simp only [hb,h7];exact b1n hK h h8
       · exact h.elim
     · exact h.elim
   · exact h.elim
 · --binOp
   split at h
   · rename_i hx hy;obtain⟨s,h1,h2,_⟩:=j9 hs hx;obtain⟨t,h3,h4,_⟩:=j9 hs hy;have:=h2.sc;subst this;have:=h4.sc;subst this;simp only [ev1,h1,h3];generalize hb1:c5A _=b1 at h⊢;generalize hb2:kEq _ _=b2 at h⊢;cases b1<;>cases b2<;>simp only at h⊢
     · exact b7s (fun o ho=>a0z hK ho) h
     · exact b4o (fun o ho=>a0z hK ho) h
     · exact b4o (fun o ho=>a0z hK ho) h
   · rename_i hx hy;obtain⟨s,h1,h2,_⟩:=j9 hs hx;obtain⟨t,h3,h4,_⟩:=j9 hs hy;have:=h2.sc;subst this;have:=h4.sc;subst this;simp only [ev1,h1,h3];exact b8e (fun o ho=>a0z hK ho) h
   · rename_i hx hy;obtain⟨s,h1,h2,_⟩:=j9 hs hx;obtain⟨t,h3,h4,_⟩:=j9 hs hy;split at h
     · rename_i hi;split at h
       · rename_i hl hm;obtain⟨⟨l',h5,h6⟩,h7⟩:=b2d hl h2;obtain⟨⟨m',h8,h9⟩,h10⟩:=b2d hm h4;split at h
         · rename_i e he;have he':=c3y he h6 h9
           have nots:(∀k a,s≠ .v (.int k a))∧(∀a,s≠ .v (.string a)):=by
            rcases h7 with⟨_,cs,hcs⟩|⟨c,rfl⟩
            · exact⟨fun k a e=>by subst e;simp [a1S]at hcs,fun a e=>by subst e;simp [a1S]at hcs⟩
            · exact⟨fun k a e=>(by cases e),fun a e=>(by cases e)⟩
           exact c0O h1 h3 nots.1 nots.2 hi h5 h8 he' (a5l (fun o ho=>a0z hK ho) h)
         · exact h.elim
       · exact h.elim
     · rename_i hi;split at h
       · simp only [d8,Rep]at h2;obtain⟨y,rfl,a,c,rfl,hnc,hmx,hlen,hfl,hmem⟩:=h2;have:=h4.sc;subst this;simp only [ev1,cx,h1,h3,hi];refine a5l (fun o ho=>a0z hK ho) (h a.isNone fun hb=> ?_);rcases hmem with rfl|⟨b,o,xs,rfl,_⟩
         · omega
         · cases hb
       · have:=h2.sc;subst this;have:=h4.sc;subst this;simp only [ev1,cx,h1,h3,hi];exact a5l (fun o ho=>a0z hK ho) h
       · exact h.elim
     · exact h.elim
   · exact h.elim
 · split at h
   · rename_i hx;obtain⟨s,h1,h2,_⟩:=j9 hs hx;have:=h2.sc;subst this;simp only [ev1,h1];exact a0H hK h rfl
   · rename_i hx;obtain⟨s,h1,h2,_⟩:=j9 hs hx;have:=h2.sc;subst this;simp only [ev1,h1];exact a0H hK h rfl
   · exact h.elim
 · split at h
   · rename_i h1 h2 hx;obtain⟨s,g1,g2,_⟩:=j9 hs hx;have:=g2.sc;subst this;simp only [ev1,cx,h1,h2,g1];exact a0H hK h rfl
   · exact h.elim
 · exact b7a hK hs (by simpa only [y1]using h)
 · split at h
   · rename_i hl hc;obtain⟨l',h1,h2⟩:=M8 hs hl;obtain⟨c',h3,h4⟩:=M8 hs hc;simp only [ev1,h1,h3];exact C5 hK h (by simp only [d8];exact .inl ⟨_,_,rfl,h2,h4⟩) (by simp)
   · exact h.elim
 · split at h
   · rename_i hi;split at h
     · rename_i l hl;have hzz:=(hz _ _ hi).1;obtain⟨r,h1,h2⟩:=b3h hs hl (b1l hzz);split at h
       · rename_i hf;simp only [ev1,cx,hi,h1];exact C5 hK h (by simp only [d8];exact⟨r,rfl,h2,hf⟩) (by simp)
       · exact h.elim
     · exact h.elim
   · rename_i hi;split at h
     · rename_i l hl;have hzz:=(hz _ _ hi).1;obtain⟨r,h1,h2⟩:=a8p hs hl (b1l hzz);split at h
       · rename_i hf;simp only [ev1,cx,hi,h1];exact C5 hK h (by simp only [d8];exact⟨r,rfl,h2,hf⟩) (by simp)
       · exact h.elim
     · exact h.elim
   · exact h.elim
 · exact b1i hK hz hs (by simpa only [y1]using h)
 · exact b2p hK hz hs (by simpa only [y1]using h)
 · split at h
   · rename_i hi hd;obtain⟨s,h1,h2,_⟩:=j9 hs hd;split at h
     · rename_i hzz;obtain rfl:=r6 hzz;simp only [d8,Rep]at h2;obtain⟨y,rfl,a,c,rfl,hnc,hmx,hlen,hfl,hmem⟩:=h2;simp only [ev1,cx,hi,h1];split at h
       · refine b4W hs hnc (u0 _) h fun p q m hpq hqn hk a' ha'=> ?_
         obtain⟨r,rfl,hk⟩:=hk;refine C5 hK hk ?_ (by simp);simp only [d8];exact⟨_,rfl,b9l (xs:= []) (m:=0) hlen hmx hfl hmem hpq hqn (r7 hqn hnc) ha'⟩
       · refine c3k hs hnc h fun p q x hpq hqx hxn hk a' ha'=> ?_
         obtain⟨r,rfl,hk⟩:=hk;refine C5 hK hk ?_ (by simp);simp only [d8];exact⟨_,rfl,b9l (xs:= []) (m:=0) hlen hmx hfl (hmem.imp (fun e=>by omega) id) hpq (r7 hqx hxn) hqx ha'⟩
     · exact h.elim
   · rename_i mx _ _ _ _ _ _ _ esz _ k z hi hd;obtain⟨s,h1,h2,_⟩:=j9 hs hd;simp only [d8]at h2;obtain⟨rfl,hkey⟩:=h2;split at h
     · rename_i hzz hf;obtain rfl:=r6 hzz;obtain⟨h0,h⟩:=h
       have hmx:mx=none:=by
        cases mx with
        |none=>rfl
        |some m=>simp [b8b]at h
       subst hmx;obtain⟨e',hf',he⟩:=hs.H _ _ hf;cases e' with
       |blk=>exact he.elim
       |mp=>exact he.elim
       |row v n' xs z' ty'=>
        obtain⟨rfl,rfl,rfl,_⟩:=he;simp only [ev1,cx,hi,h1,hf'];refine⟨h0,fun c hnc=>b4W hs hnc (u0 _) h fun p q m hpq hqn hk=> ?_⟩;refine C5 hK (hk (if c=p then 0 else p*z) ⟨?_,fun hp=>by subst hp;simp⟩) ?_ (by simp)
        · by_cases hc:c=p
          · left;omega
          · right;rw [i6 hc]
        · simp only [d8];exact⟨trivial,hkey.1,by simp⟩
     · exact h.elim
   · rename_i hi hd;obtain⟨s,h1,h2,_⟩:=j9 hs hd;have:=h2.sc;subst this;simp only [ev1,cx,hi,h1];rename_i mx _ _ _ _ _ _ _ _
     have hmx:mx=none:=by
      cases mx with
      |none=>rfl
      |some m=>simp [b8b]at h
     subst hmx;exact b4W hs (u0 _) (u0 _) h fun p q m _ _ hk=>a0H hK hk rfl
   · rename_i len ety esz k hi hd;obtain⟨s,h1,h2,_⟩:=j9 hs hd;simp only [d8]at h2;obtain⟨rfl,hkey⟩:=h2;split at h
     · split at h
       · rename_i hf;obtain⟨e',hf',he⟩:=hs.H _ _ hf;cases e' with
         |row=>exact he.elim
         |mp=>exact he.elim
         |blk b cs ty=>
          simp only [ev1,cx,hi,h1,hf'];exact C5 hK h (by simp only [d8];exact⟨trivial,hkey⟩) (by simp)
       · exact h.elim
     · exact h.elim
   · exact h.elim
 · exact b7T hK hs (by simpa only [y1]using h)
 · exact c2s hK hs (by simpa only [y1]using h)
 · exact h.elim
end
mutual
def a0v (k:Nat):D→Bool
 | .own j _=>Nat.beq j k
 | .ownx j _=>Nat.beq j k
 | .row j _=>Nat.beq j k
 | .elr j _ _ _=>Nat.beq j k
 | .osl j _ _ _ _=>Nat.beq j k
 | .agg l=>a5x k l
 | .tup l=>a5x k l
 | .fn _ f c=>match a5x k f with|true=>true|false=>a5x k c
 |_=>false
def a5x (k:Nat):List D→Bool
 | []=>false
 |s::l=>match a0v k s with|true=>true|false=>a5x k l
end
def a6v (k:Nat) (s:D):D:=match a0v k s with|true=> .bad|false=>s
def b0K (k:Nat):List D→List D
 | []=> []
 |s::l=>a6v k s::b0K k l
def b0O (k:Nat):E→E
 | .blk cs ty=> .blk (b0K k cs) ty
 |e=>e
def a3I (k:Nat):Hy→Hy
 | []=> []
 |(j,e)::H=>(j,b0O k e)::a3I k H
def b1C (k:Nat):List D→(List D→Prop)→Prop
 | [],K=>K []
 |s::l,K=>match a0v k s with
  |true=>b1C k l fun l'=>K (.bad::l')
  |false=>b1C k l fun l'=>K (s::l')
def a6R (k:Nat):Hy→(Hy→Prop)→Prop
 | [],K=>K []
 |(j, .blk cs ty)::H,K=>b1C k cs fun cs'=>a6R k H fun H'=>K ((j, .blk cs' ty)::H')
 |(j,e)::H,K=>a6R k H fun H'=>K ((j,e)::H')
theorem b3t {k:Nat}:∀(l:List D) (K:List D→Prop),b1C k l K=K (b0K k l)
 | [],K=>rfl
 |s::l,K=>by
  simp only [b1C,b0K,a6v];cases a0v k s<;>simp only [b3t l]
theorem a6a {k:Nat}:∀(H:Hy) (K:Hy→Prop),a6R k H K=K (a3I k H)
 | [],K=>rfl
 |(j,e)::H,K=>by
  cases e<;>simp only [a6R,a3I,b0O,b3t,a6a H]
def a6G (k:Nat) (T:List (Nat×D)) (K:List (Nat×D)→Prop):Prop:=match T with
 | []=>K []
 |(d,s)::T=>match a0v k s with
  |true=>a6G k T fun T'=>K ((d, .bad)::T')
  |false=>a6G k T fun T'=>K ((d,s)::T')
def b2u:Hy→Nat→E→(Hy→Prop)→Prop
 | [],_,_,_=>False
 |(k',e')::H,k,e,K=>match Nat.beq k' k with
  |true=>K ((k',e)::H)
  |false=>b2u H k e fun H'=>K ((k',e')::H')
mutual
def fzO (k:Nat) (e:E):D→Option D
 | .own j o=>match Nat.beq j k with
  |false=>some (.own j o)
  |true=>match e with| .blk cs _=>some (.ptr cs o)|_=>none
 | .ownx j o=>match Nat.beq j k with|false=>some (.ownx j o)|true=>none
 | .row j z=>match Nat.beq j k with
  |false=>some (.row j z)
  |true=>match e with| .row z' n l _=>some (.lst z' n l)|_=>none
 | .elr j z i o=>match Nat.beq j k with|false=>some (.elr j z i o)|true=>none
 | .osl j o z n c=>match Nat.beq j k with
  |false=>some (.osl j o z n c)
  |true=>match e with
   | .blk cs _=>match takeD (n*z) (dropD o cs),Nat.ble n c,Nat.ble n 9223372036854775807 with|some l,true,true=>some (.lst z n l)|_,_,_=>none
   |_=>none
 | .agg l=>match fzL k e l with|some l'=>some (.agg l')|none=>none
 | .tup l=>match fzL k e l with|some l'=>some (.tup l')|none=>none
 | .fn f a b=>match fzL k e a,fzL k e b with|some a',some b'=>some (.fn f a' b')|_,_=>none
 | .v x=>some (.v x)
 | .lst z n l=>some (.lst z n l)
 | .ptr l o=>some (.ptr l o)
 | .mp l=>some (.mp l)
 | .und=>some .und
 | .bad=>none
def fzL (k:Nat) (e:E):List D→Option (List D)
 | []=>some []
 |x::l=>match fzO k e x,fzL k e l with|some y,some r=>some (y::r)|_,_=>none
end
def fzG (k:Nat) (e:E) (x:D):D:=match fzO k e x with|some y=>y|none=> .bad
def fzT (k:Nat) (e:E):List (Nat×D)→List (Nat×D)
 | []=> []
 |(d,x)::T=>(d,fzG k e x)::fzT k e T
def fzC (k:Nat) (e:E):List D→List D
 | []=> []
 |x::l=>fzG k e x::fzC k e l
def fzE (k:Nat) (e:E):E→E
 | .blk cs ty=> .blk (fzC k e cs) ty
 |x=>x
def fzH (k:Nat) (e:E):Hy→Hy
 | []=> []
 |(j,x)::H=>match Nat.beq j k with
  |true=>fzH k e H
  |false=>(j,fzE k e x)::fzH k e H
mutual
def Q5:D→Bool
 | .v _=>true
 | .lst _ _ _=>true
 | .ptr _ _=>true
 | .mp _=>true
 | .agg l=>match J7 l with|true=>u7 l|false=>false
 | .tup l=>J7 l
 | .fn _ a b=>match J7 a with|true=>J7 b|false=>false
 |_=>false
def J7:List D→Bool
 | []=>true
 |x::l=>match Q5 x with|true=>J7 l|false=>false
end
def okE:E→Bool
 | .blk cs _=>match J7 cs with|true=>u7 cs|false=>false
 | .row _ _ _ _=>true
 | .mp _ _=>false
def c2n (k:Nat) (e:E):List (Nat×D)→Option (List (Nat×D))
 | []=>some []
 |(d,x)::T=>match fzO k e x with
  |some y=>match c2n k e T with
   |some T'=>some ((d,y)::T')
   |none=>none
  |none=>match c2n k e T with
   |some T'=>some ((d, .bad)::T')
   |none=>none
def c2D (k:Nat) (e:E):List D→Option (List D)
 | []=>some []
 |x::l=>match fzO k e x with
  |some y=>match c2D k e l with
   |some l'=>some (y::l')
   |none=>none
  |none=>match c2D k e l with
   |some l'=>some (.bad::l')
   |none=>none
def b7w (k:Nat) (e:E):Hy→Option Hy
 | []=>some []
 |(j,x)::H=>match Nat.beq j k with
  |true=>b7w k e H
  |false=>match x with
   | .blk cs ty=>match c2D k e cs with
    |some cs'=>match b7w k e H with
     |some H'=>some ((j, .blk cs' ty)::H')
     |none=>none
    |none=>none
   | .row t c n m=>match b7w k e H with
    |some H'=>some ((j, .row t c n m)::H')
    |none=>none
   | .mp es ty=>match b7w k e H with
    |some H'=>some ((j, .mp es ty)::H')
    |none=>none
theorem b9A (k:Nat) (e:E):∀T,c2n k e T=some (fzT k e T)
 | []=>rfl
 |(d,x)::T=>by
  simp only [c2n,b9A k e T,fzT,fzG];cases fzO k e x<;>rfl
theorem b9V (k:Nat) (e:E):∀l,c2D k e l=some (fzC k e l)
 | []=>rfl
 |x::l=>by
  simp only [c2D,b9V k e l,fzC,fzG];cases fzO k e x<;>rfl
theorem b9S (k:Nat) (e:E):∀H,b7w k e H=some (fzH k e H)
 | []=>rfl
 |(j,x)::H=>by
  simp only [b7w,b9S k e H,fzH];cases Nat.beq j k with
  |true=>rfl
  |false=>cases x<;>simp only [b9V,fzE]
def a2F:List Nat→Sy→List D→Option (Sy×List D)
 | [],st,l=>some (st,l)
 |k::ks,⟨T,H,nk⟩,l=>match j7 H k with
  |some e=>match okE e,fzL k e l with
   |true,some l'=>match c2n k e T with
    |some T'=>match b7w k e H with
     |some H'=>a2F ks ⟨T',H',nk⟩ l'
     |none=>none
    |none=>none
   |_,_=>none
  |none=>none
mutual
def c7F:Nat→Hy→List Nat→D→List Nat
 |0,_,acc,_=>acc
 |n+1,H,acc, .own j _=>b2e n H acc j
 |n+1,H,acc, .ownx j _=>b2e n H acc j
 |n+1,H,acc, .row j _=>b2e n H acc j
 |n+1,H,acc, .elr j _ _ _=>b2e n H acc j
 |n+1,H,acc, .osl j _ _ _ _=>b2e n H acc j
 |n+1,H,acc, .agg l=>a4b n H acc l
 |n+1,H,acc, .tup l=>a4b n H acc l
 |n+1,H,acc, .fn _ a b=>match a4b n H acc a with
  | []=>a4b n H [] b
  |y::r=>a4b n H (y::r) b
 |_,_,acc,_=>acc
def b2e:Nat→Hy→List Nat→Nat→List Nat
 |0,_,acc,_=>acc
 |n+1,H,acc,j=>match F2 j acc with
  |true=>acc
  |false=>match j7 H j with
   |some (.blk cs _)=>match a4b n H acc cs with
    | []=> [j]
    |y::r=>j::y::r
   |_=>j::acc
def a4b:Nat→Hy→List Nat→List D→List Nat
 |0,_,acc,_=>acc
 |_+1,_,acc, []=>acc
 |n+1,H,acc,x::l=>match c7F n H acc x with
  | []=>a4b n H [] l
  |y::r=>a4b n H (y::r) l
end
def c6D:List Nat→List Nat→List Nat
 | [],acc=>acc
 |x::l,acc=>c6D l (x::acc)
def b9j (H:Hy) (l:List D):List Nat:=c6D (a4b 40 H [] l) []
mutual
def a3c:D→Bool
 | .v _=>true
 | .agg l=>b6H l
 | .tup l=>b6H l
 |_=>false
def b6H:List D→Bool
 | []=>true
 |x::l=>match a3c x with|true=>b6H l|false=>false
end
def GN (nm:String) (o:Option Obj):Prop:=
 (nm= "internal/strconv.uint64pow10" →∃ty fr,o=some (.cells ((List.range 20).map fun i=>Value.int .u64 ((10^i:Nat):Int)).toArray ty fr))∧
 (nm= "strconv.ErrSyntax" ∨nm= "strconv.ErrRange" →∃tp p ty fr,o=some (.cells #[.iface tp p] ty fr))
structure GIW (P:Program) (w:World):Prop where
 size:P.globals.size≤w.heap.size
 var:∀(b:Nat) (g:Global),P.globals[b]?=some g→GN g.name w.heap[b]?
theorem GIW.pow10 {P:Program} {w:World} (h:GIW P w) {b:Nat} {g:Global} (hb:P.globals[b]?=some g) (hn:g.name= "internal/strconv.uint64pow10") (hg:P.globalNamed "internal/strconv.uint64pow10" =some b):
 w.var? P "internal/strconv.uint64pow10" =some ((List.range 20).map fun i=>Value.int .u64 ((10^i:Nat):Int)).toArray:=by
 obtain⟨ty,fr,h⟩:=(h.var b g hb).1 hn;unfold World.var?;rw [hg,j3,h]
theorem GIW.err {P:Program} {w:World} (h:GIW P w) {b:Nat} {g:Global} (hb:P.globals[b]?=some g) (hn:g.name= "strconv.ErrSyntax" ∨g.name= "strconv.ErrRange"):∃tp p,w.cell? ⟨b,0,none⟩=some (.iface tp p):=by
 obtain⟨tp,p,ty,fr,h⟩:=(h.var b g hb).2 hn;exact⟨tp,p,by simp [World.cell?,h]⟩
theorem GIW.same {P:Program} {w w':World} (h:GIW P w) (hs:w.heap.size≤w'.heap.size) (hb:∀b,b<P.globals.size→w'.heap[b]?=w.heap[b]?):GIW P w':=
 ⟨r7 h.size hs,fun b g hg=>by rw [hb b (O1.1 hg).1];exact h.var b g hg⟩
theorem GIW.below {P:Program} {w w':World} (h:GIW P w) (hb:Below w.heap.size w w'):GIW P w':=h.same hb.size fun b hg=>hb.block b (E3 hg h.size)
structure AG (A:Nat→Prop) (P:Program) (w0:World) (bor:List Nat):Prop where
 a:∀b,(w0.heap.size≤b∨b∈bor)→A b
 g:GIW P w0
 n:∀b,b∈bor→P.globals.size≤b
theorem AG.fx {A:Nat→Prop} {P:Program} {w0 w:World} {bor:List Nat} (h:AG A P w0 bor) (hf:Fx bor w0 w):GIW P w:=
 h.g.same hf.size fun b hb=>hf.block b (E3 hb h.g.size) fun c hc e=>by have:=h.n c hc;omega
theorem AG.giw {A:Nat→Prop} {X:Cy} {w0 wc w:World} {bor:List Nat} {H:Hp} {nk:Nat} (h:AG A X.P w0 bor) (hc:Cls (cx X w0 bor) H nk w wc):GIW X.P wc:=h.fx hc.fx0
theorem AG.nil {P:Program} {w:World} (ok:Nat→Prop) (h:GIW P w):AG (fun b=>b<w.heap.size→ok b) P w []:=
 ⟨fun b hb hl=>(by
  rcases hb with hb|hb
  · omega
  · cases hb),h,fun b hb=>by cases hb⟩
theorem AG.lent {P:Program} {w:World} {v:Value} {ok:Nat→Prop} (h:GIW P w) (hn:∀b,b∈n9 v→¬ok b∧P.globals.size≤b):AG (fun b=>b<w.heap.size→ok b∨b∈n9 v) P w (n9 v):=
 ⟨fun b hb hl=>(by
  rcases hb with hb|hb
  · omega
  · exact .inr hb),h,fun b hb=>(hn b hb).2⟩
theorem AG.lb {A:Nat→Prop} {X:Cy} {w0 wc w:World} {bor:List Nat} {H:Hp} {nk b:Nat} (h:AG A X.P w0 bor) (hc:Cls (cx X w0 bor) H nk w wc) (hb:b∈bs H):X.P.globals.size≤b:=
 (hc.lb b hb).elim (h.n b) fun hb=>r7 h.g.size hb
def q8 (P:Program) (f:FuncId) (args:List D) (Q:D→Prop):Prop:=
 ∀(ok:Nat→Prop) (w:World) (vs:List Value),j1 ok w args vs→(∀b,ok b→b<w.heap.size)→GIW P w→
  Calls P f vs.toArray w fun e w'=>∃v r,e= .returned v∧Q r∧Rep (fun b=>ok b∨(w.heap.size≤b∧b<w'.heap.size)) w' r v∧Below w.heap.size w w'
def F8 (X:Cy) (st:Sy) (dst:Option Nat) (s:D) (K:Sy→Prop):Prop:=
 match dst with
 |none=>K st
 |some d=>match Nat.blt d X.nt,st with
  |true,⟨T,H,nk⟩=>K ⟨(d,s)::T,H,nk⟩
  |false,_=>False
mutual
def leD:D→D→Prop
 | .v x,y=>y= .v x∨(x= .slice none 0 0∧∃z,y= .lst z 0 [])
 | .agg l,y=>∃r,y= .agg r∧a1P l r
 | .tup l,y=>∃r,y= .tup r∧a1P l r
 |x,y=>x=y
def a1P:List D→List D→Prop
 | [], []=>True
 |x::l,y::r=>leD x y∧a1P l r
 |_,_=>False
end
mutual
def a0i (n:Nat):D→D
 | .row k z=>match Nat.blt k n with|true=> .row k z|false=> .v (.slice none 0 0)
 | .agg l=> .agg (a0s n l)
 | .tup l=> .tup (a0s n l)
 | .fn f a b=> .fn f (a0s n a) (a0s n b)
 |x=>x
def a0s (n:Nat):List D→List D
 | []=> []
 |x::l=>a0i n x::a0s n l
end
mutual
def inK (n:Nat) (ks:List Nat):D→Bool
 | .own j _=>match Nat.blt j n with|true=>F2 j ks|false=>false
 | .ownx j _=>match Nat.blt j n with|true=>F2 j ks|false=>false
 | .row j _=>F2 j ks
 | .elr j _ _ _=>match Nat.blt j n with|true=>F2 j ks|false=>false
 | .osl j _ _ _ _=>match Nat.blt j n with|true=>F2 j ks|false=>false
 | .agg l=>b8V n ks l
 | .tup l=>b8V n ks l
 | .fn _ a b=>match b8V n ks a with|true=>b8V n ks b|false=>false
 | .bad=>false
 |_=>true
def b8V (n:Nat) (ks:List Nat):List D→Bool
 | []=>true
 |x::l=>match inK n ks x with|true=>b8V n ks l|false=>false
end
def c4s (n:Nat) (ks:List Nat):List (Nat×D)→Bool
 | []=>true
 |(_,x)::T=>match inK n ks x with|true=>c4s n ks T|false=>false
def b5j (n:Nat) (ks:List Nat):List D→Bool
 | []=>true
 | .bad::l=>b5j n ks l
 |x::l=>match inK n ks x,a2U x with|true,true=>b5j n ks l|_,_=>false
def a9T (n:Nat) (ks:List Nat):Hy→Bool
 | []=>true
 |(k, .blk cs _)::H=>match Nat.blt k n,b5j n ks cs with|true,true=>a9T n ks H|_,_=>false
 |(_, .row _ _ _ _)::H=>a9T n ks H
 |(k, .mp _ _)::H=>match Nat.blt k n with|true=>a9T n ks H|false=>false
def P7:Hy→List Nat
 | []=> []
 |(k,_)::H=>k::P7 H
def ltY (n:Nat):Hy→Bool
 | []=>true
 |(k,_)::H=>match Nat.blt k n with|true=>ltY n H|false=>false
def a7U (n:Nat) (st:Sy):Bool:=match ndB (P7 st.H),ltY st.nk st.H,c4s n (P7 st.H) st.T,a9T n (P7 st.H) st.H with|true,true,true,true=>true|_,_,_,_=>false
def a7O:List D→List D→Prop
 | [], []=>True
 |_::l, .bad::r=>a7O l r
 |x::l,y::r=>leD x y∧a7O l r
 |_,_=>False
def b1q (n:Nat) (T:List (Nat×D)):List (Nat×D)→Prop
 | []=>True
 |(d,s)::r=>(∃y,o4 T d=some y∧leD y (a0i n s))∧b1q n T r
def b3K (n:Nat) (H:Hy) (k:Nat):E→Prop
 | .blk cs ty=>∃cs0,j7 H k=some (.blk cs0 ty)∧a7O cs0 (a0s n cs)
 | .row z m l ty=>match Nat.blt k n with
  |true=>∃m0 l0,j7 H k=some (.row z m0 l0 ty)∧m0=m∧l0=l
  |false=>m=0∧l= []
 | .mp es ty=>∃es0,j7 H k=some (.mp es0 ty)∧es0=es
def a9r (n:Nat) (H:Hy):Hy→Prop
 | []=>True
 |(k,e)::r=>b3K n H k e∧a9r n H r
structure c2t (st st':Sy):Prop where
 ex:∃n,a7U n st'=true∧b1q n st.T st'.T∧a9r n st.H st'.H
def swN (a b k:Nat):Nat:=match Nat.beq k a with|true=>b|false=>(match Nat.beq k b with|true=>a|false=>k)
mutual
def swD (a b:Nat):D→D
 | .own k o=> .own (swN a b k) o
 | .ownx k o=> .ownx (swN a b k) o
 | .row k z=> .row (swN a b k) z
 | .elr k z i o=> .elr (swN a b k) z i o
 | .osl k o z n c=> .osl (swN a b k) o z n c
 | .agg l=> .agg (a8J a b l)
 | .tup l=> .tup (a8J a b l)
 | .fn f p q=> .fn f (a8J a b p) (a8J a b q)
 |x=>x
def a8J (a b:Nat):List D→List D
 | []=> []
 |x::l=>swD a b x::a8J a b l
end
def swE (a b:Nat):E→E
 | .blk cs ty=> .blk (a8J a b cs) ty
 |e=>e
def b5G (a b:Nat):List (Nat×D)→List (Nat×D)
 | []=> []
 |(d,x)::T=>(d,swD a b x)::b5G a b T
def b5N (a b:Nat):Hy→Hy
 | []=> []
 |(k,e)::H=>(swN a b k,swE a b e)::b5N a b H
structure c6m (st st':Sy):Prop where
 ex:c2t st st'∨∃a b m,(Nat.blt a m=true∧Nat.blt b m=true)∧c2t st ⟨b5G a b st'.T,b5N a b st'.H,m⟩∧c2t ⟨st'.T,st'.H,m⟩ st'
structure F6 (st st':Sy):Prop where
 ex:∃ks st1,a2F ks st []=some (st1, [])∧c6m st1 st'
def V5 (X:Cy) (st:Sy):List ResultVar→Option (List D)
 | []=>some []
 | .tmp t::r=>match a8j st.T t,V5 X st r with
  |some .bad,_=>none
  |some s,some l=>some (s::l)
  |_,_=>none
 | .cell a t::r=>match A5 X.tt t,a8j st.T a,V5 X st r with
  |some i,some (.own k o),some l=>match j7 st.H k with
   |some (.blk cs _)=>match takeD i.n (dropD o cs)with
    |some c=>match mkD i.agg c with
     |some s=>some (s::l)
     |none=>none
    |none=>none
   |_=>none
  |_,_,_=>none
def a0t:Nat→List D→List (Nat×D)
 |_, []=> []
 |n,s::l=>(n,s)::a0t (n+1) l
def O6 {α:Type} (nt:Nat):List (Nat×α)→List (Nat×α)
 | []=> []
 |(d,x)::T=>match Nat.blt d nt with
  |true=>(Nat.add 1000000 d,x)::O6 nt T
  |false=>match Nat.blt d 1000000 with
   |true=>O6 nt T
   |false=>(Nat.add d nt,x)::O6 nt T
def F4 {α:Type} (nt:Nat):List (Nat×α)→List (Nat×α)
 | []=> []
 |(d,x)::T=>match Nat.blt d 1000000 with
  |true=>F4 nt T
  |false=>match Nat.blt d (Nat.add 1000000 nt)with
   |true=>(Nat.mod d 1000000,x)::F4 nt T
   |false=>(Nat.sub d nt,x)::F4 nt T
def c0y:List D→D
 | [x]=>x
 |l=> .tup l
def c3r (X X':Cy) (rs:List ResultVar) (dst:Option Nat) (K:Sy→Prop) (e:Exit) (st:Sy):Prop:=
 match e,st with
 | .normal,⟨T,H,nk⟩=>match V5 X' ⟨T,H,nk⟩ rs with
  |some l=>F8 X ⟨F4 X.nt T,H,nk⟩ dst (c0y l) K
  |none=>False
 | .ret,⟨T,H,nk⟩=>match V5 X' ⟨T,H,nk⟩ rs with
  |some l=>F8 X ⟨F4 X.nt T,H,nk⟩ dst (c0y l) K
  |none=>False
 |_,_=>False
def c3N (X:Cy) (c:Code) (st0:Sy) (K:Exit→Sy→Prop):Prop:=
 ∀(A:Nat→Prop) (w0:World) (bor:List Nat) (sv:List Value) (st:St) (a:Act) (w:World) (Q:Exit→Act→World→Prop),AG A X.P w0 bor→Sim A st st0→Rel (cx { X with sv:=sv} w0 bor) st a w→
  (∀e st' sy' a' w',plain e→K e sy'→Sim A st' sy'→Lv (cx { X with sv:=sv} w0 bor) st.H w st' a' w'→Q e a' w')→c.wp X.P Q a w
structure a6F (X:Cy) (f:FuncId) (args:List D) (dst:Option Nat) (st:Sy) (K:Sy→Prop):Prop where
 ex:∃(nt:Nat) (pl:List (Nat×PT)) (ln un inl:List Nat) (fn:Func) (c:Code) (st0 st1:Sy),
  (X.P.funcs[f]?=some fn∧fn.body=some c∧nt=fn.ntmps∧Nat.ble nt 1000000=true∧Nat.ble args.length nt=true)∧
  F6 ⟨a0t 0 args++O6 X.nt st.T,st.H,st.nk⟩ st0∧c3N ⟨X.P,X.tt,nt,pl,ln,un, [],inl, []⟩ c st0 (c3r X ⟨X.P,X.tt,nt,pl,ln,un, [],inl, []⟩ fn.results.toList dst fun sy=>F6 sy st1)∧K st1
structure a7o (P:Program) (seq:Bool) (f:FuncId) (fa:List D) (st st':Sy) (K:Sy→D→Prop):Prop where
 ex:∃Q,q8 P f fa Q∧∀r,Q r→match a3c r,seq with
  |true,_=>K st r
  |false,true=>K st' r
  |false,false=>False
structure a6l (P:Program) (f:FuncId) (args:List D) (st:Sy) (K:Sy→D→Prop):Prop where
 ex:∃Q,q8 P f args Q∧∀r,Q r→K st r
def a7N (ok:Nat→Prop) (w:World) (z n:Nat) (l:List D) (ty:TypeId) (v:Value):Prop:=
 ∃xs,w.ownsRow 0 ty z v n xs∧j1 ok w l xs∧u7 l=true∧l.length=n*z
def b3j (P:Program) (f:FuncId) (args:List D) (z n:Nat) (l:List D) (ty:TypeId):Prop:=
 ∀(ok:Nat→Prop) (w:World) (vs:List Value),j1 ok w args vs→(∀b,ok b→b<w.heap.size)→GIW P w→
  Calls P f vs.toArray w fun e w'=>∃v,e= .returned v∧(∀b,b∈n9 v→w.heap.size≤b)∧a7N (fun b=>(ok b∨(w.heap.size≤b∧b<w'.heap.size))∧b∉n9 v) w' z n l ty v∧Below w.heap.size w w'
def b8Z (P:Program) (f:FuncId) (z n:Nat) (l:List D) (ty:TypeId) (args:List D) (z' n':Nat) (l':List D):Prop:=
 ∀(ok:Nat→Prop) (w:World) (v:Value) (vs:List Value),a7N ok w z n l ty v→(∀b,b∈n9 v→¬ok b∧P.globals.size≤b)→j1 ok w args vs→(∀b,ok b→b<w.heap.size)→GIW P w→
  Calls P f (v::vs).toArray w fun e w'=>∃v',e= .returned v'∧(∀b,b∈n9 v'→b∈n9 v∨w.heap.size≤b)∧
   a7N (fun b=>(ok b∨b∈n9 v∨(w.heap.size≤b∧b<w'.heap.size))∧b∉n9 v') w' z' n' l' ty v'∧Fx (n9 v) w w'
structure a5s (P:Program) (f:FuncId) (args:List D) (st:Sy) (K:Sy→D→Prop):Prop where
 ex:∃z n l ty,b3j P f args z n l ty∧K ⟨st.T,(st.nk, .row z n l ty)::st.H,st.nk+1⟩ (.row st.nk z)
def M2 (ok:Nat→Prop) (w:World) (rv:List Value):List D→List Value→Prop
 | [], []=>True
 | .row i _::l,y::r=>rv[i]?=some y∧M2 ok w rv l r
 |d::l,y::r=>Rep ok w d y∧M2 ok w rv l r
 |_,_=>False
def a1f (ok:Nat→Prop) (w:World):List (Nat×Nat×List D×TypeId)→List Value→Prop
 | [], []=>True
 |(z,n,l,ty)::rs,v::vs=>a7N ok w z n l ty v∧a1f ok w rs vs
 |_,_=>False
def b6O (P:Program) (f:FuncId) (args:List D) (rows:List (Nat×Nat×List D×TypeId)) (cells:List D):Prop:=
 u7 cells=true∧∀(ok:Nat→Prop) (w:World) (vs:List Value),j1 ok w args vs→(∀b,ok b→b<w.heap.size)→GIW P w→
  Calls P f vs.toArray w fun e w'=>∃(a rv:List Value),e= .returned (.agg a.toArray)∧(∀b,b∈rv.flatMap n9→w.heap.size≤b∧b<w'.heap.size)∧(rv.flatMap n9).Nodup∧
   a1f (fun b=>(ok b∨(w.heap.size≤b∧b<w'.heap.size))∧b∉rv.flatMap n9) w' rows rv∧M2 (fun b=>(ok b∨(w.heap.size≤b∧b<w'.heap.size))∧b∉rv.flatMap n9) w' rv cells a∧Below w.heap.size w w'
def b6P:Nat→List (Nat×Nat×List D×TypeId)→Hy→Hy
 |_, [],H=>H
 |k,(z,n,l,ty)::rs,H=>b6P (k+1) rs ((k, .row z n l ty)::H)
def shC (nk:Nat):List D→List D
 | []=> []
 | .row i z::l=> .row (nk+i) z::shC nk l
 |d::l=>d::shC nk l
structure b5H (P:Program) (f:FuncId) (args:List D) (st:Sy) (K:Sy→D→Prop):Prop where
 ex:∃rows cells,b6O P f args rows cells∧K ⟨st.T,b6P st.nk rows st.H,st.nk+rows.length⟩ (.agg (shC st.nk cells))
structure c1X (P:Program) (f:FuncId) (k:Nat) (e:E) (fa:List D) (st:Sy) (K:Sy→D→Prop):Prop where
 ex:∃z n l ty z' n' l',e= .row z n l ty∧b8Z P f z n l ty fa z' n' l'∧a6R k st.H fun H0=>b2u H0 k (.row z' n' l' ty) fun H'=>a6G k st.T fun T'=>K ⟨T',H',st.nk⟩ (.row k z')
def c7Z (P:Program) (f:FuncId) (z n:Nat) (l:List D) (ty:TypeId) (args:List D) (n':Nat) (l':List D):Prop:=
 n'=n∧∀(ok:Nat→Prop) (w:World) (v:Value) (vs:List Value),a7N ok w z n l ty v→(∀b,b∈n9 v→¬ok b∧P.globals.size≤b)→j1 ok w args vs→(∀b,ok b→b<w.heap.size)→GIW P w→
  Calls P f (v::vs).toArray w fun e w'=>e= .returned (.tuple #[])∧a7N (fun b=>ok b∧b∉n9 v) w' z n l' ty v∧Fx (n9 v) w w'
structure c5l (P:Program) (f:FuncId) (k:Nat) (e:E) (fa:List D) (st:Sy) (K:Sy→D→Prop):Prop where
 ex:∃z n l ty n' l',e= .row z n l ty∧c7Z P f z n l ty fa n' l'∧b2u st.H k (.row z n' l' ty) fun H'=>K ⟨st.T,H',st.nk⟩ (.tup [])
def a9z (X:Cy) (seq:Bool) (f:FuncId) (args:List D) (st:Sy) (K:Sy→D→Prop):Prop:=
 match F2 f X.ln,F2 f X.un with
 |true,_=>match seq,args with
  |true,x::rest=>match a2F (b9j st.H rest) st (x::rest)with
   |some (st', .row k _::fa)=>match J7 fa,j7 st'.H k with
    |true,some e=>c1X X.P f k e fa st' K∨c5l X.P f k e fa st' K
    |_,_=>False
   |_=>False
  |_,_=>False
 |false,true=>match seq,J7 args with
  |true,true=>a5s X.P f args st K∨b5H X.P f args st K
  |_,_=>False
 |false,false=>match J7 args with
  |true=>a6l X.P f args st K
  |false=>match a2F (b9j st.H args) st args with
   |some (st',fa)=>match J7 fa with
    |true=>a7o X.P seq f fa st st' K
    |false=>False
   |none=>False
def c2l (st:Sy) (esz:Nat) (x:D) (K:Nat→List D→Prop):Prop:=
 match x with
 | .osl k o z n _=>match Nat.beq z esz,j7 st.H k with
  |true,some (.blk cs _)=>match takeD (n*z) (dropD o cs)with
   |some l=>match N2 l with|true=>K n l|false=>False
   |none=>False
  |true,some (.row z' N r _)=>match Nat.beq z' z with
   |true=>(n=0∨o+n*z≤N*z)∧K n ((r.drop o).take (n*z))
   |false=>False
  |_,_=>False
 | .row k _=>match j7 st.H k with
  |some (.row z n l _)=>match Nat.beq z esz with|true=>K n l|false=>False
  |_=>False
 | .v (.slice none 0 0)=>K 0 []
 | .lst z n l=>match Nat.beq z esz with|true=>K n l|false=>False
 |_=>False
def c5L (e esz bytes:Nat) (s x:D) (st:Sy) (K:Sy→D→Prop):Prop:=
 match Nat.ble 1 esz with
 |false=>False
 |true=>c2l st esz x fun m l=>match s,st with
  | .v (.slice none 0 0),⟨T,H,nk⟩=>(m*bytes≤140737488355328∧m≤9223372036854775807)∧∃r' n',(l=r'∧m=n')∧K ⟨T,(nk, .row esz n' r' e)::H,nk+1⟩ (.row nk esz)
  | .row k _,⟨T,H,nk⟩=>match j7 H k with
   |some (.row z n r ty)=>match Nat.beq z esz,Nat.beq ty e with
    |true,true=>((n+m)*bytes≤140737488355328∧n+m≤9223372036854775807)∧∃r' n',(r++l=r'∧n+m=n')∧a6R k H fun H0=>b2u H0 k (.row esz n' r' e) fun H'=>a6G k T fun T'=>K ⟨T',H',nk⟩ (.row k esz)
    |_,_=>False
   |_=>False
  | .osl k o z0 n c,⟨T,H,nk⟩=>match Nat.beq o 0,Nat.beq c 0,Nat.beq z0 esz,j7 H k with
   |true,true,true,some (.row z N r ty)=>match Nat.beq z esz,Nat.beq ty e with
    |true,true=>(0<N∧n≤N∧(n+m)*bytes≤140737488355328∧n+m≤9223372036854775807)∧∃r' n',(r.take (n*z)++l=r'∧n+m=n')∧a6R k H fun H0=>b2u H0 k (.row esz n' r' e) fun H'=>a6G k T fun T'=>K ⟨T',H',nk⟩ (.row k esz)
    |_,_=>False
   |_,_,_,_=>False
  |_,_=>False
def a4J (X:Cy) (seq:Bool) (st:Sy) (dst:Option Nat) (K:Sy→Prop) (o:a4D):Prop:=
 match o with
 | .val s=>F8 X st dst s K
 | .new cs ty sl=>match st with
  |⟨T,H,nk⟩=>F8 X ⟨T,(nk, .blk cs ty)::H,nk+1⟩ dst (match sl with|none=> .own nk 0|some (z,n)=> .osl nk 0 z n n) K
 | .newR l ty z n=>match st with
  |⟨T,H,nk⟩=>F8 X ⟨T,(nk, .row z n l ty)::H,nk+1⟩ dst (.row nk z) K
 | .call f args=>match F2 f X.inl with
  |true=>match seq with
   |true=>a6F X f args dst st K
   |false=>False
  |false=>a9z X seq f args st fun st' s=>F8 X st' dst s K
 | .upd k cs=>match st,j7 st.H k with
  |⟨T,H,nk⟩,some (.blk _ ty)=>b2u H k (.blk cs ty) fun H'=>F8 X ⟨T,H',nk⟩ dst .und K
  |_,_=>False
 | .updR k l=>match st,j7 st.H k with
  |⟨T,H,nk⟩,some (.row z n _ ty)=>b2u H k (.row z n l ty) fun H'=>F8 X ⟨T,H',nk⟩ dst .und K
  |_,_=>False
 | .app e esz bytes s x=>c5L e esz bytes s x st fun st' s=>F8 X st' dst s K
def a0D (ops:List Oper) (g:Option (Nat×Bool)) (st:Sy) (yes no:Sy→Prop):Prop:=
 match g with
 |none=>yes st
 |some (j,want)=>match b1E ops j with
  |some d=>match a8j st.T d with
   |some (.v (.bool b))=>match st with
    |⟨T,H,nk⟩=>VIf b
     (match want with|true=>yes ⟨(d, .v (.bool true))::T,H,nk⟩|false=>no ⟨(d, .v (.bool true))::T,H,nk⟩)
     (match want with|true=>no ⟨(d, .v (.bool false))::T,H,nk⟩|false=>yes ⟨(d, .v (.bool false))::T,H,nk⟩)
   |some .und=>no st
   |_=>False
  |none=>False
def a8K (s:ByteArray):List D:=s.data.toList.map fun b=> .v (.int .u8 b.toNat)
def a1x (xs:List Int):ByteArray:=⟨(xs.map fun n=>UInt8.ofNat n.toNat).toArray⟩
def xk (st:Sy):Op→Bool
 | .makeMap _ _=>true
 | .mapUpdate _ _ _ _=>true
 | .convert _ _ x=>match evY st x with|some (.v (.string _))=>true|some (.lst _ _ _)=>true|some (.row _ _)=>true|_=>false
 |_=>false
def xop (X:Cy) (st:Sy) (dst:Option Nat) (op:Op) (K:Sy→Prop):Prop:=
 match op with
 | .makeMap t r=>match r,st with
  |none,⟨T,H,nk⟩=>∃m:MTy,(m.t=t∧a7R X.P X.tt m)∧F8 X ⟨T,(nk, .mp [] m)::H,nk+1⟩ dst (.row nk 0) K
  |_,_=>False
 | .mapUpdate t m k x=>match evY st m,evY st k,evY st x with
  |some (.row j _),some kd,some (.v xv)=>match j7 st.H j with
   |some (.mp es mt)=>(a7R X.P X.tt mt∧mt.t=t∧plV xv=true)∧∃kc es',(a5q mt.ag kd=some kc∧m8 mt.ks kc∧a4N (B9 mt.ag kc) xv es kc=es')∧
    b2u st.H j (.mp es' mt) fun H'=>match st with|⟨T,_,nk⟩=>F8 X ⟨T,H',nk⟩ dst .und K
   |_=>False
  |_,_,_=>False
 | .convert src dt x=>match evY st x with
  |some (.v (.string s))=>(∃e u,X.P.underlying src=some u∧X.P.underlying dt=some (.slice e)∧X.P.underlying e=some (.int .u8))∧s.size≤9223372036854775807∧∃l n,(a8K s=l∧s.size=n)∧F8 X st dst (.lst 1 n l) K
  |some (.lst z n l)=>(z=1∧∃e,X.P.underlying src=some (.slice e)∧X.P.underlying e=some (.int .u8)∧X.P.underlying dt=some .string)∧∃xs:List Int,l=xs.map (fun x=> .v (.int .u8 x))∧F8 X st dst (.v (.string (a1x xs))) K
  |some (.row j _)=>match j7 st.H j with
   |some (.row z n l _)=>(z=1∧∃e,X.P.underlying src=some (.slice e)∧X.P.underlying e=some (.int .u8)∧X.P.underlying dt=some .string)∧∃xs:List Int,l=xs.map (fun x=> .v (.int .u8 x))∧F8 X st dst (.v (.string (a1x xs))) K
   |_=>False
  |_=>False
 |_=>False
def slR (st:Sy):Op→Option Nat
 | .slice _ x _ _ _=>match evY st x with|some (.row k _)=>some k|_=>none
 |_=>none
def a9d (X:Cy) (st:Sy) (o:Oper) (K:Sy→Prop):Prop:=
 match xk st o.op with
 |true=>xop X st o.dst o.op K
 |false=>match slR st o.op with
  |none=>y1 X st o.op (a4J X true st o.dst K)
  |some k=>y1 X st o.op (a4J X true st o.dst K)∨∃st1,a2F [k] st []=some (st1, [])∧y1 X st1 o.op (a4J X true st1 o.dst K)
def b5b (X:Cy) (ops:List Oper):List Oper→Sy→(Sy→Prop)→Prop
 | [],st,K=>K st
 |o::rest,st,K=>a0D ops o.guard st
  (fun st=>a9d X st o fun st=>b5b X ops rest st K)
  (fun st=>F8 X st o.dst .und fun st=>b5b X ops rest st K)
def c7N:D→Option Nat
 | .own k _=>some k
 | .ownx k _=>some k
 | .elr k _ _ _=>some k
 |_=>none
def b0E:a4D→Option Nat
 | .upd k _=>some k
 | .updR k _=>some k
 | .app _ _ _ (.row k _) _=>some k
 | .app _ _ _ (.osl k _ _ _ _) _=>some k
 |_=>none
def rdY (fl:Bool) (i:Nat) (op:Op) (st:Sy) (pr:List (Nat×Option Nat)) (K:List (Nat×Option Nat)→Prop):Prop:=
 match op with
 | .load _ p=>match evY st p with
  |some s=>match c7N s with
   |some k=>K ((i,some k)::pr)
   |none=>match s with
    | .ptr _ _=>K ((i,none)::pr)
    |_=>False
  |none=>False
 | .lookup _ m _ _=>match evY st m with
  |some (.row k _)=>K ((i,some k)::pr)
  |_=>False
 |_=>K pr
def b5P (X:Cy) (i:Nat) (S:List Nat) (fl:Bool) (pr:List (Nat×Option Nat)) (o:Oper) (st:Sy) (K:Sy→List (Nat×Option Nat)→Prop) (out:a4D):Prop:=
 match a2K o with
 |true=>(match out with| .val s=>rdY fl i o.op st pr fun pr=>F8 X st o.dst s fun st=>K st pr|_=>False)
 |false=>match s8 o with
  |true=>(match out with| .new _ _ none=>a4J X false st o.dst (fun st=>K st pr) out| .newR _ _ _ _=>a4J X false st o.dst (fun st=>K st pr) out|_=>False)
  |false=>match X3 o with
   |true=>(match out with| .call _ _=>a4J X false st o.dst (fun st=>K st pr) out|_=>False)
   |false=>(match out with
    | .call _ _=>False
    |out=>match b0E out with
     |some k=>match b6N pr S k with|true=>a4J X false st o.dst (fun st=>K st pr) out|false=>False
     |none=>a4J X false st o.dst (fun st=>K st pr) out)
def b6x (X:Cy) (S:List Nat) (st:Sy) (dst:Option Nat) (K:Sy→Prop) (o:a4D):Prop:=
 match S with
 | []=>a4J X true st dst K o
 |_::_=>match o with
  | .call f args=>match F2 f X.inl,F2 f X.ln with
   |false,false=>a9z X true f args st fun st' s=>F8 X st' dst s K
   |_,_=>False
  |_=>False
def b3e (ops:List Oper):List Nat→List (Nat×D)→(List (Nat×D)→Prop)→Prop
 | [],T,K=>K T
 |i::r,T,K=>match a9S ops i with
  |some o=>match s8 o,o.dst with
   |true,some d=>b3e ops r T fun T'=>K ((d, .bad)::T')
   |_,_=>b3e ops r T K
  |none=>b3e ops r T K
theorem b0w {ops:List Oper} {T:List (Nat×D)}:∀(l:List Nat) (K:List (Nat×D)→Prop),b3e ops l T K=K (Z5 .bad ops l T)
 | [],K=>rfl
 |i::r,K=>by
  simp only [b3e,Z5];cases a9S ops i with
  |none=>exact b0w r K
  |some o=>
   simp only;cases s8 o<;>cases o.dst<;>simp only [b0w r]
def b3k (X:Cy) (ops:List Oper) (rest:PT) (i:Nat) (S:List Nat) (fl:Bool) (pr:List (Nat×Option Nat)) (o:Oper) (st:Sy) (K:Sy→List (Nat×Option Nat)→Prop):Prop:=
 match X3 o,fl with
 |true,true=>y1 X st o.op (b6x X S st o.dst fun st=>match st with|⟨T,H,nk⟩=>b3e ops (b2H rest) T fun T'=>K ⟨T',H,nk⟩ pr)
 |_,_=>y1 X st o.op (b5P X i S fl pr o st K)
def a4o (X:Cy) (ops:List Oper):PT→Sy→List (Nat×Option Nat)→(Sy→Prop)→Prop
 | .nil,st,_,K=>K st
 | .op i S fl rest,st,pr,K=>match a9S ops i with
  |some o=>a0D ops o.guard st
   (fun st=>b3k X ops rest i S fl pr o st fun st pr=>a4o X ops rest st pr K)
   (fun st=>F8 X st o.dst .und fun st=>a4o X ops rest st pr K)
  |none=>False
 | .fork a b,st,pr,K=>a4o X ops a st pr K∧a4o X ops b st pr K
def a7H:List Oper→List (Nat×D)→List (Nat×D)
 | [],T=>T
 |o::l,T=>match s8 o,o.dst with
  |true,some d=>(d, .bad)::a7H l T
  |_,_=>a7H l T
def a4Y:List Oper→List (Nat×D)→(List (Nat×D)→Prop)→Prop
 | [],T,K=>K T
 |o::l,T,K=>match s8 o,o.dst with
  |true,some d=>a4Y l T fun T'=>K ((d, .bad)::T')
  |_,_=>a4Y l T K
theorem a8B {T:List (Nat×D)}:∀(l:List Oper) (K:List (Nat×D)→Prop),a4Y l T K=K (a7H l T)
 | [],K=>rfl
 |o::l,K=>by
  simp only [a4Y,a7H];cases s8 o<;>cases o.dst<;>simp only [a8B l]
structure E5 (body:Sy→(Exit→Sy→Prop)→Prop) (st:Sy) (K:Exit→Sy→Prop):Prop where
 ex:∃(α:Type) (f:α→Sy) (inv:α→Prop) (μ:α→Nat),
  (∃x,F6 st (f x)∧inv x)∧
  ∀x,inv x→body (f x) fun e st2=>match e with
   | .normal=>∃y,F6 st2 (f y)∧inv y∧μ y<μ x
   |e=>K e st2
def I9 (X:Cy):Code→Sy→(Exit→Sy→Prop)→Prop
 | .skip,st,K=>K .normal st
 | .region id ops draw,st,K=>match draw with
  |false=>b5b X ops.toList ops.toList st (K .normal)
  |true=>match b7R X.pl id with
   |some p=>a4R X.tt X.nt ops p=true∧(match st with|⟨T,H,nk⟩=>a4o X ops.toList p ⟨a7H ops.toList T,H,nk⟩ [] (K .normal))
   |none=>False
 | .seq a b,st,K=>I9 X a st fun e st'=>match e with
  | .normal=>I9 X b st' K
  |e=>K e st'
 | .cond c t e,st,K=>match evY st c with
  |some (.v (.bool b))=>VIf b (I9 X t st K) (I9 X e st K)
  |_=>False
 | .block id c,st,K=>I9 X c st fun e st'=>match e with
  | .exit j=>match Nat.beq j id with
   |true=>K .normal st'
   |false=>K (.exit j) st'
  |e=>K e st'
 | .loop c,st,K=>E5 (I9 X c) st K
 | .exit id,st,K=>K (.exit id) st
 | .ret,st,K=>K .ret st
 | .scope c,st,K=>I9 X c st K
 | .label _,st,K=>K .normal st
 |_,_,_=>False
structure y0 (r:D) (Q:D→Prop):Prop where
 ex:∃r',leD r r'∧Q r'
def a1b (st:Sy) (r:D) (Q:D→Prop):Prop:=
 match Q5 r with
 |true=>y0 r Q
 |false=>match a2F (b9j st.H [r]) st [r]with
  |some (_, [r'])=>match Q5 r' with
   |true=>y0 r' Q
   |false=>False
  |_=>False
def c0x (X:Cy) (rs:List ResultVar) (Q:D→Prop) (e:Exit) (st:Sy):Prop:=
 match e with
 | .normal=>match V5 X st rs with
  |some [s]=>a1b st s Q
  |some l=>a1b st (.tup l) Q
  |none=>False
 | .ret=>match V5 X st rs with
  |some [s]=>a1b st s Q
  |some l=>a1b st (.tup l) Q
  |none=>False
 |_=>False
mutual
theorem d8.mentE {ok:Nat→Prop} {w:World} {R:Bool→Nat→Prop} (k:Nat):∀(d:D) (s:SV),d8 ok w R d s→ment k s=a0v k d
 | .v x,s,h=>by simp only [d8]at h;rw [h.1];rfl
 | .agg l,s,h=>by
  simp only [d8]at h;obtain⟨cs,h1,h2,_⟩:=h;have:=d9.mentE k l _ h2;cases s<;>simp [a1S]at h1
  · rename_i x;cases x<;>simp at h1;subst h1;rw [b0k]at this;simp only [a0v,←this];rfl
  · subst h1;simpa [ment,a0v]using this
 | .lst z n l,s,h=>by simp only [d8]at h;obtain⟨y,rfl,_⟩:=h;rfl
 | .ptr l o,s,h=>by simp only [d8]at h;obtain⟨y,rfl,_⟩:=h;rfl
 | .own j o,s,h=>by simp only [d8]at h;rw [h.1];rfl
 | .ownx j o,s,h=>by simp only [d8]at h;rw [h.1];rfl
 | .row j z,s,h=>by simp only [d8]at h;rw [h.1];rfl
 | .elr j z i o,s,h=>by simp only [d8]at h;rw [h.1];rfl
 | .osl j o z n c,s,h=>by simp only [d8]at h;rw [h.1];rfl
 | .tup l,s,h=>by
  simp only [d8]at h;rcases h with⟨cs,rfl,h2⟩|⟨a,rfl,h2⟩
  · have:=d9.mentE k l _ h2;simpa [ment,a0v]using this
  · have:=d9.mentE k l _ h2;rw [b0k]at this;simp only [a0v,←this];rfl
 | .fn f a b,s,h=>by
  simp only [d8]at h;rcases h with⟨p,q,rfl,h2,h3⟩|⟨p,q,rfl,h2,h3⟩
  · have e1:=d9.mentE k a _ h2;have e2:=d9.mentE k b _ h3;simp only [ment,a0v,e1,e2];cases a5x k a<;>rfl
  · have e1:=d9.mentE k a _ h2;have e2:=d9.mentE k b _ h3;rw [b0k]at e1 e2;simp only [a0v,←e1,←e2];rfl
 | .mp l,s,h=>by simp only [d8]at h;obtain⟨y,rfl,_⟩:=h;rfl
 | .und,s,h=>by simp only [d8]at h;rw [h];rfl
 | .bad,s,h=>by simp only [d8]at h;rw [h];rfl
theorem d9.mentE {ok:Nat→Prop} {w:World} {R:Bool→Nat→Prop} (k:Nat):∀(l:List D) (r:List SV),d9 ok w R l r→C9 k r=a5x k l
 | [], [],_=>rfl
 |d::l,y::r,h=>by
  simp only [d9]at h;simp only [C9,a5x,d8.mentE k d y h.1,d9.mentE k l r h.2];cases a0v k d<;>rfl
 | [],_::_,h=>by simp [d9]at h
 |_::_, [],h=>by simp [d9]at h
end
theorem b0v {ok:Nat→Prop} {w:World} {R:Bool→Nat→Prop} {k:Nat} {l:List D} {r:List SV} (h:d9 ok w R l r):d9 ok w R (b0K k l) (a9v k r):=by
 induction l generalizing r with
 |nil=>cases r with
  |nil=>trivial
  |cons=>simp [d9]at h
 |cons d l ih=>cases r with
  |nil=>simp [d9]at h
  |cons s r=>
   simp only [d9]at h;refine⟨?_,ih h.2⟩;simp only [a6v,a8k,h.1.mentE k];cases a0v k d
   · exact h.1
   · simp only [d8]
theorem b0R {k:Nat} {T:List (Nat×SV)} {d:Nat} {s:SV} (h:u1 T d=some s):u1 (V3 k T) d=some (a8k k s):=by
 induction T with
 |nil=>simp [u1]at h
 |cons x T ih=>
  obtain⟨d',s'⟩:=x;simp only [u1,V3]at h⊢;split at h
  · cases h;rfl
  · exact ih h
def a3R (k:Nat):List (Nat×D)→List (Nat×D)
 | []=> []
 |(d,s)::T=>(d,a6v k s)::a3R k T
theorem a8G {k:Nat} {T:List (Nat×D)} {K:List (Nat×D)→Prop}:a6G k T K=K (a3R k T):=by
 induction T generalizing K with
 |nil=>rfl
 |cons x T ih=>
  obtain⟨d,s⟩:=x;simp only [a6G,a3R,a6v];split<;>rw [ih]
theorem b1M {k:Nat} {T:List (Nat×D)} {d:Nat} {x:D} (h:o4 (a3R k T) d=some x):∃y,o4 T d=some y∧x=a6v k y:=by
 induction T with
 |nil=>simp [o4,a3R]at h
 |cons q T ih=>
  obtain⟨d',s'⟩:=q;simp only [o4,a3R]at h⊢;split at h
  · cases h;exact⟨_,rfl,rfl⟩
  · exact ih h
theorem a9o {j k:Nat} {T:List (Nat×SV)} (h:o7 j T=true):o7 j (V3 k T)=true:=by
 induction T with
 |nil=>rfl
 |cons x T ih=>
  obtain⟨d,s⟩:=x;simp only [o7,V3]at h⊢;split at h
  · cases h
  · rename_i hm;have:ment j (a8k k s)=false:=by unfold a8k;split;rfl;exact hm
    rw [this];exact ih h
theorem b8p {j k:Nat} {l:List SV} (h:C9 j l=false):C9 j (a9v k l)=false:=by
 induction l with
 |nil=>rfl
 |cons s l ih=>
  simp only [C9,a9v]at h⊢;split at h
  · cases h
  · rename_i hm;have:ment j (a8k k s)=false:=by unfold a8k;split;rfl;exact hm
    rw [this];exact ih h
theorem a9i {j k:Nat} {H:Hp} (h:u3 j H=true):u3 j (w5 k H)=true:=by
 induction H with
 |nil=>rfl
 |cons x H ih=>
  obtain⟨i,e⟩:=x;cases e with
  |blk b cs ty=>
   simp only [u3,w5,U9]at h⊢;split at h
   · cases h
   · rename_i hm;rw [b8p hm];exact ih h
  |row v n xs sz ty=>simp only [u3,w5,U9]at h⊢;exact ih h
  |mp b es ty=>simp only [u3,w5,U9]at h⊢;exact ih h
def U5:Hp→Nat→Ent→Hp
 | [],_,_=> []
 |(k',e')::H,k,e=>match Nat.beq k' k with|true=>(k',e)::H|false=>(k',e')::U5 H k e
def a7z:Hy→Nat→E→Hy
 | [],_,_=> []
 |(k',e')::H,k,e=>match Nat.beq k' k with|true=>(k',e)::H|false=>(k',e')::a7z H k e
theorem a3U {H:Hp} {k:Nat} {e e0:Ent} {K:Hp→Prop} (h:e8 H k=some e0) (hK:K (U5 H k e)):a8f H k e K:=by
 induction H generalizing K with
 |nil=>simp [e8]at h
 |cons x H ih=>
  obtain⟨k',e'⟩:=x;simp only [e8,a8f,U5]at h hK⊢;split
  · rename_i hb;rw [hb]at hK;exact hK
  · rename_i hb;rw [hb]at hK h;exact ih h hK
theorem a0A {H:Hy} {k:Nat} {e:E} {K:Hy→Prop} (h:b2u H k e K):K (a7z H k e):=by
 induction H generalizing K with
 |nil=>exact h.elim
 |cons x H ih=>
  obtain⟨k',e'⟩:=x;simp only [b2u,a7z]at h⊢;split at h
  · rename_i hb
    try rw [hb]
    exact h
  · rename_i hb
    try rw [hb]
    exact ih h
theorem U2 {H:Hp} {k j:Nat} {e e0:Ent} (h:e8 H k=some e0):e8 (U5 H k e) j=if j=k then some e else e8 H j:=by
 induction H with
 |nil=>simp [e8]at h
 |cons x H ih=>
  obtain⟨k',e'⟩:=x;simp only [e8,U5]at h⊢;cases hb:Nat.beq k' k with
  |true=>
   have:=r6 hb;subst this;simp only [e8];by_cases hj:j=k'
   · subst hj;simp
   · rw [i6 hj,J2 (Ne.symm hj)]
  |false=>
   rw [hb]at h;simp only [e8];by_cases hj:j=k
   · subst hj;rw [hb];simp only;rw [ih h];simp
   · cases hb2:Nat.beq k' j with
     |true=>simp [hj]
     |false=>simp only;rw [ih h]
theorem a8I {H:Hy} {k j:Nat} {e x:E} (h:j7 (a7z H k e) j=some x):(j=k∧x=e)∨(j≠k∧j7 H j=some x):=by
 induction H with
 |nil=>simp [j7,a7z]at h
 |cons q H ih=>
  obtain⟨k',e'⟩:=q;simp only [a7z]at h;cases hb:Nat.beq k' k with
  |true=>
   have:=r6 hb;subst this;rw [hb]at h;simp only [j7]at h⊢;cases hb2:Nat.beq k' j with
   |true=>rw [hb2]at h;cases h;exact .inl ⟨(r6 hb2).symm,rfl⟩
   |false=>rw [hb2]at h;exact .inr ⟨fun e=>a0L hb2 e.symm,h⟩
  |false=>
   rw [hb]at h;simp only [j7]at h⊢;cases hb2:Nat.beq k' j with
   |true=>rw [hb2]at h;cases h;exact .inr ⟨fun e=>by subst e;exact a0L hb (r6 hb2),rfl⟩
   |false=>rw [hb2]at h;exact ih h
theorem a8y {H:Hp} {k c:Nat} {e:Ent} (h:c∈bs (U5 H k e)):c∈bs H∨c∈bsE e:=by
 induction H with
 |nil=>simp [U5,bs]at h
 |cons x H ih=>
  obtain⟨k',e'⟩:=x;simp only [U5]at h;split at h
  · simp only [bs,B2]at h⊢;rcases h with h|h
    · exact .inr h
    · exact .inl (.inr h)
  · simp only [bs,B2]at h⊢;rcases h with h|h
    · exact .inl (.inl h)
    · rcases ih h with h|h
      · exact .inl (.inr h)
      · exact .inr h
def a4k (j:Nat):Ent→Bool
 | .blk _ cs _=> !C9 j cs
 | .row _ _ _ _ _=>true
 | .mp _ _ _=>true
theorem H7 {j k:Nat} {e:Ent} {H:Hp} (he:a4k j e=true) (h:u3 j H=true):u3 j ((k,e)::H)=true:=by
 cases e with
 |blk b cs ty=>simp only [a4k,a4p]at he;simp only [u3,he];exact h
 |row v n xs sz ty=>exact h
 |mp b es ty=>exact h
theorem b7O {j k:Nat} {e:Ent} {H:Hp} (h:u3 j ((k,e)::H)=true):a4k j e=true∧u3 j H=true:=by
 cases e with
 |blk b cs ty=>
  simp only [u3]at h;split at h
  · cases h
  · rename_i hm;exact⟨by simp [a4k,hm],h⟩
 |row v n xs sz ty=>exact⟨rfl,h⟩
 |mp b es ty=>exact⟨rfl,h⟩
theorem a6P {j k:Nat} {e:Ent} {H:Hp} (he:a4k j e=true) (h:u3 j H=true):u3 j (U5 H k e)=true:=by
 induction H with
 |nil=>rfl
 |cons x H ih=>
  obtain⟨k',e'⟩:=x;obtain⟨h1,h2⟩:=b7O h;simp only [U5];split
  · exact H7 he h2
  · exact H7 h1 (ih h2)
theorem b1N {H:Hy} {k j:Nat} {x:E} (h:j7 (a3I k H) j=some x):∃y,j7 H j=some y∧x=b0O k y:=by
 induction H with
 |nil=>simp [j7,a3I]at h
 |cons q H ih=>
  obtain⟨k',e'⟩:=q;simp only [j7,a3I]at h⊢;split at h
  · cases h;exact⟨_,rfl,rfl⟩
  · exact ih h
section
variable {A : Nat → Prop} {X : Cy} {w0 : World} {bor : List Nat} {st : St} {sy : Sy} {KY : Sy → Prop}
theorem a7V {st:St} {j:Nat} (h:st.nk≤j) (q:Bool):¬u6 st q j:=fun hk=>by have:=hk.1;omega
theorem Sim.mono {st st':St} {T:List (Nat×D)} {H:Hy} {nk:Nat} (hs:Sim A st ⟨T,H,nk⟩) (hok:∀b,okS A st b→okS A st' b∧st'.w.heap[b]?=st.w.heap[b]?) (hk:∀q k,u6 st q k→u6 st' q k)
 (hT:∀d s,u1 st.T d=some s→u1 st'.T d=some s) (hH:∀k e,e8 st.H k=some e→e8 st'.H k=some e) (hn:st'.nk=st.nk) (fT:∀j,st'.nk≤j→o7 j st'.T=true) (fH:∀j,st'.nk≤j→u3 j st'.H=true):Sim A st' ⟨T,H,nk⟩:=by
 refine⟨fun d x hx=> ?_,fun k e he=> ?_,by rw [hn];exact hs.nk,fT,fH⟩
 · rcases hs.T d x hx with h|⟨s,h1,h2⟩
   · exact .inl h
   · exact .inr ⟨s,hT d s h1,d8.mono hok hk _ _ h2⟩
 · obtain⟨e',h1,h2⟩:=hs.H k e he;refine⟨e',hH k e' h1, ?_⟩;cases e<;>cases e'<;>simp only [a0I]at h2⊢
   · exact⟨h2.1,d9.mono hok hk _ _ h2.2⟩
   · exact⟨h2.1,h2.2.1,h2.2.2.1,j1.mono hok _ _ h2.2.2.2.1,h2.2.2.2.2⟩
   · exact h2
theorem a0I.mono {ok ok':Nat→Prop} {w w':World} {R R':Bool→Nat→Prop} (hok:∀b,ok b→ok' b∧w'.heap[b]?=w.heap[b]?) (hk:∀q k,R q k→R' q k) {e:E} {e':Ent} (h:a0I ok w R e e'):a0I ok' w' R' e e':=by
 cases e<;>cases e'<;>simp only [a0I]at h⊢
 · exact⟨h.1,d9.mono hok hk _ _ h.2⟩
 · exact⟨h.1,h.2.1,h.2.2.1,j1.mono hok _ _ h.2.2.2.1,h.2.2.2.2⟩
 · exact h
theorem y4 {dst:Option Nat} {x:D} {s:SV} (h:F8 X sy dst x KY) (hs:Sim A st sy) (hr:d8 (okS A st) st.w (u6 st) x s):put (cx X w0 bor) st dst s fun st'=>∃sy',KY sy'∧Sim A st' sy':=by
 unfold F8 at h;cases dst with
 |none=>exact⟨sy,h,hs⟩
 |some d=>
  obtain⟨T,H,nk⟩:=sy;obtain⟨T',H',nk',w,lo,iv⟩:=st;simp only at h;simp only [put,cx];split at h
  · rename_i hd heq;cases heq;rw [hd];refine⟨_,h,fun d' x' hx'=> ?_,hs.H,hs.nk,fun j hj=> ?_,hs.fH⟩
    · simp only [o4]at hx';simp only [u1];cases hb:Nat.beq d d' with
      |true=>rw [hb]at hx';cases hx';exact .inr ⟨s,rfl,hr⟩
      |false=>rw [hb]at hx';exact hs.T d' x' hx'
    · simp only [o7,hr.ment (fun q=>a7V hj q)];exact hs.fT j hj
  · exact h.elim
theorem c3X {T:List (Nat×D)} {H:Hy} {nk:Nat} {T':List (Nat×SV)} {H':Hp} {nk':Nat} {w:World} {lo:Nat} {iv:List (Nat×Nat)} {b:Nat} {cs:List D} {cs':List SV} {ty:TypeId}
 (hs:Sim A ⟨T',H',nk',w,lo,iv⟩ ⟨T,H,nk⟩) (hr:d9 (okS A ⟨T',H',nk',w,lo,iv⟩) w (u6 ⟨T',H',nk',w,lo,iv⟩) cs cs') (hb:lo≤b) (hiv:a3s iv b):
 Sim A ⟨T',(nk', .blk b cs' ty)::H',nk'+1,w,lo,iv⟩ ⟨T,(nk, .blk cs ty)::H,nk+1⟩:=by
 have hnk:nk=nk':=hs.nk;subst hnk
 have hok:∀c,okS A ⟨T',H',nk,w,lo,iv⟩ c→okS A ⟨T',(nk, .blk b cs' ty)::H',nk+1,w,lo,iv⟩ c∧w.heap[c]?=w.heap[c]?:=by
  intro c ⟨h1,h2,h3⟩;refine⟨⟨h1,h2,fun x hx=> ?_⟩,rfl⟩;simp only [bs,bsE,B2,a1n]at hx;rcases hx with rfl|hx
  · intro e;subst e;rcases h1 with h1|⟨p,hp,h4,h5⟩
    · simp only at h1;omega
    · simp only at hp;clear hr hs h2 h3
      induction iv with
      |nil=>cases hp
      |cons y l ih=>
       simp only [a3s]at hiv;rcases o5.1 hp with rfl|hp
       · omega
       · exact ih hiv.2 hp
  · exact h3 x hx
 have hk:∀q k,u6 ⟨T',H',nk,w,lo,iv⟩ q k→u6 ⟨T',(nk, .blk b cs' ty)::H',nk+1,w,lo,iv⟩ q k:=by
  intro q k ⟨h1,h2⟩;simp only at h1;refine⟨by simp only;omega,fun hq=> ?_⟩;simp only;rw [H5 (by omega)];exact h2 hq
 refine⟨fun d x hx=> ?_,fun k e he=> ?_,rfl,fun j hj=>hs.fT j (by simp only at hj⊢;omega),fun j hj=> ?_⟩
 · rcases hs.T d x hx with h|⟨s,h1,h2⟩
   · exact .inl h
   · exact .inr ⟨s,h1,d8.mono hok hk _ _ h2⟩
 · simp only [j7]at he;simp only [e8];cases hb:Nat.beq nk k with
   |true=>
    rw [hb]at he;cases he;exact⟨_,rfl,by exact⟨rfl,d9.mono hok hk _ _ hr⟩⟩
   |false=>
    rw [hb]at he;obtain⟨e',h1,h2⟩:=hs.H k e he;exact⟨e',h1,a0I.mono hok hk h2⟩
 · simp only at hj;refine H7 ?_ (hs.fH j (by simp only;omega));simp only [a4k,a4p];exact d9.ment (fun q=>a7V (st:=⟨T',H',nk,w,lo,iv⟩) (by simp only;omega) q) _ _ hr
theorem c2A {T:List (Nat×D)} {H:Hy} {nk:Nat} {T':List (Nat×SV)} {H':Hp} {nk':Nat} {w:World} {lo:Nat} {iv:List (Nat×Nat)} {b:Nat} {l:List D} {xs:List Value} {z n:Nat} {ty:TypeId}
 (hs:Sim A ⟨T',H',nk',w,lo,iv⟩ ⟨T,H,nk⟩) (hr:j1 (okS A ⟨T',H',nk',w,lo,iv⟩) w l xs) (hfl:u7 l=true) (hlen:l.length=n*z) (hb:lo≤b) (hiv:a3s iv b):
 Sim A ⟨T',(nk', .row (.slice (some ⟨b,0,none⟩) n n) n xs z ty)::H',nk'+1,w,lo,iv⟩ ⟨T,(nk, .row z n l ty)::H,nk+1⟩:=by
 have hnk:nk=nk':=hs.nk;subst hnk
 have hok:∀c,okS A ⟨T',H',nk,w,lo,iv⟩ c→okS A ⟨T',(nk, .row (.slice (some ⟨b,0,none⟩) n n) n xs z ty)::H',nk+1,w,lo,iv⟩ c∧w.heap[c]?=w.heap[c]?:=by
  intro c ⟨h1,h2,h3⟩;refine⟨⟨h1,h2,fun x hx=> ?_⟩,rfl⟩;simp only [bs,bsE,n9,B2,a1n]at hx;rcases hx with rfl|hx
  · intro e;subst e;rcases h1 with h1|⟨p,hp,h4,h5⟩
    · simp only at h1;omega
    · simp only at hp;clear hr hs h2 h3
      induction iv with
      |nil=>cases hp
      |cons y l ih=>
       simp only [a3s]at hiv;rcases o5.1 hp with rfl|hp
       · omega
       · exact ih hiv.2 hp
  · exact h3 x hx
 have hk:∀q k,u6 ⟨T',H',nk,w,lo,iv⟩ q k→u6 ⟨T',(nk, .row (.slice (some ⟨b,0,none⟩) n n) n xs z ty)::H',nk+1,w,lo,iv⟩ q k:=by
  intro q k ⟨h1,h2⟩;simp only at h1;refine⟨by simp only;omega,fun hq=> ?_⟩;simp only;rw [H5 (by omega)];exact h2 hq
 refine⟨fun d x hx=> ?_,fun k e he=> ?_,rfl,fun j hj=>hs.fT j (by simp only at hj⊢;omega),fun j hj=> ?_⟩
 · rcases hs.T d x hx with h|⟨s,h1,h2⟩
   · exact .inl h
   · exact .inr ⟨s,h1,d8.mono hok hk _ _ h2⟩
 · simp only [j7]at he;simp only [e8];cases hb:Nat.beq nk k with
   |true=>
    rw [hb]at he;cases he;exact⟨_,rfl,by exact⟨rfl,rfl,rfl,j1.mono hok _ _ hr,hfl,hlen⟩⟩
   |false=>
    rw [hb]at he;obtain⟨e',h1,h2⟩:=hs.H k e he;exact⟨e',h1,a0I.mono hok hk h2⟩
 · simp only at hj;exact H7 rfl (hs.fH j (by simp only;omega))
theorem b0l {T:List (Nat×D)} {H:Hy} {nk:Nat} {T':List (Nat×SV)} {H':Hp} {nk':Nat} {w:World} {lo:Nat} {iv:List (Nat×Nat)} {k:Nat} {e:E} {e0 e':Ent}
 (hs:Sim A ⟨T',H',nk',w,lo,iv⟩ ⟨T,H,nk⟩) (hf:e8 H' k=some e0) (hr:a0I (okS A ⟨T',H',nk',w,lo,iv⟩) w (u6 ⟨T',H',nk',w,lo,iv⟩) e e') (hb:bsE e'=bsE e0)
 (hrow:isR e0=true→isR e'=true) (hfe:∀j,nk'≤j→a4k j e'=true):
 Sim A ⟨T',U5 H' k e',nk',w,lo,iv⟩ ⟨T,a7z H k e,nk⟩:=by
 have hok:∀c,okS A ⟨T',H',nk',w,lo,iv⟩ c→okS A ⟨T',U5 H' k e',nk',w,lo,iv⟩ c∧w.heap[c]?=w.heap[c]?:=by
  intro c ⟨h1,h2,h3⟩;refine⟨⟨h1,h2,fun x hx=> ?_⟩,rfl⟩;rcases a8y hx with hx|hx
  · exact h3 x hx
  · rw [hb]at hx;exact h3 x (u2.2 ⟨k,e0,l5 hf,hx⟩)
 have hk:∀q j,u6 ⟨T',H',nk',w,lo,iv⟩ q j→u6 ⟨T',U5 H' k e',nk',w,lo,iv⟩ q j:=by
  intro q j ⟨h1,h2⟩;refine⟨h1,fun hq=> ?_⟩;simp only;rw [U2 hf];obtain⟨e1,h3,h4⟩:=h2 hq;split
  · rename_i hjk;subst hjk;simp only at h3;rw [hf]at h3;cases h3;exact⟨_,rfl,hrow h4⟩
  · exact⟨_,h3,h4⟩
 refine⟨fun d x hx=> ?_,fun j x hx=> ?_,hs.nk,hs.fT,fun j hj=>a6P (hfe j hj) (hs.fH j hj)⟩
 · rcases hs.T d x hx with h|⟨s,h1,h2⟩
   · exact .inl h
   · exact .inr ⟨s,h1,d8.mono hok hk _ _ h2⟩
 · simp only;rw [U2 hf];rcases a8I hx with⟨rfl,rfl⟩|⟨hne,hx⟩
   · exact⟨e',by simp,a0I.mono hok hk hr⟩
   · obtain⟨e1,h1,h2⟩:=hs.H j x hx;exact⟨e1,by rw [i6 hne];exact h1,a0I.mono hok hk h2⟩
end
section
variable {A : Nat → Prop} {X : Cy} {w0 : World} {bor : List Nat} {st : St} {sy : Sy} {KY : Sy → Prop}
theorem c3x {esz:Nat} {x:D} {s:SV} {Kn:Nat→List D→Prop} (h:c2l sy esz x Kn) (hs:Sim A st sy) (hr:d8 (okS A st) st.w (u6 st) x s):
 ∃m l news,Kn m l∧a2x (cx X w0 bor) st esz s m news∧j1 (okS A st) st.w l news∧u7 l=true∧l.length=m*esz:=by
 unfold c2l at h;split at h
 · rename_i k o z n c;simp only [d8]at hr;obtain⟨rfl,_⟩:=hr;split at h
   · rename_i cs ty hz hf;obtain rfl:=r6 hz;obtain⟨e',hf',he⟩:=hs.H _ _ hf;cases e' with
     |row=>exact he.elim
     |mp=>exact he.elim
     |blk b cs' ty'=>
      split at h
      · rename_i l hl;split at h
        · rename_i hno;obtain⟨r,h1,h2⟩:=(he.2.dropD o).takeD hl;obtain⟨xs,rfl,h3⟩:=h2.vals hno;refine⟨n,l,xs,h, ?_,h3,a5E hno,(b1X hl).1⟩;simp only [a2x,hf'];exact⟨trivial,vs xs,h1,h2.one (b3p st) (a5E hno),(C8 _ _).symm⟩
        · exact h.elim
      · exact h.elim
   · rename_i z' N r ty hz hf;obtain rfl:=r6 hz;obtain⟨e',hf',he⟩:=hs.H _ _ hf;cases e' with
     |blk=>exact he.elim
     |mp=>exact he.elim
     |row v n' xs z2 ty'=>
      obtain⟨rfl,rfl,rfl,hrep,hfl,hlen⟩:=he;split at h
      · rename_i hzz;obtain rfl:=r6 hzz;obtain⟨hb,h⟩:=h;refine⟨n,_,(xs.drop o).take (n*z'),h, ?_,(hrep.drop _).take _,a5M hfl fun d hd=>a4w (a3k hd), ?_⟩
        · simp only [a2x,hf'];exact⟨trivial,trivial,hb,trivial,hrep.one hfl⟩
        · rcases hb with rfl|hb
          · simp
          · simp only [a1G,List.length_drop];omega
      · exact h.elim
   · exact h.elim
 · rename_i k z0;simp only [d8]at hr;obtain⟨rfl,_⟩:=hr;split at h
   · rename_i z n l ty hf;obtain⟨e',hf',he⟩:=hs.H _ _ hf;cases e' with
     |blk=>exact he.elim
     |mp=>exact he.elim
     |row v n' xs z' ty'=>
      obtain⟨rfl,rfl,rfl,hrep,hfl,hlen⟩:=he;split at h
      · rename_i hz;obtain rfl:=r6 hz;refine⟨n,l,xs,h, ?_,hrep,hfl,hlen⟩;simp only [a2x,hf'];exact⟨trivial,trivial,trivial,hrep.one hfl⟩
      · exact h.elim
   · exact h.elim
 · have:=hr.sc;subst this;exact⟨0, [], [],h,by simp [a2x],trivial,rfl,by simp⟩
 · rename_i z n l;simp only [d8,Rep]at hr;obtain⟨y,rfl,a,c,rfl,hnc,hmx,hlen,hfl,hmem⟩:=hr;split at h
   · rename_i hz;obtain rfl:=r6 hz;rcases hmem with rfl|⟨b,o,xs,rfl,hok,hrep,hcell⟩
     · have hn:n=0:=by omega
       subst hn;have hl:l= []:=a2r (by simpa using hlen)
       subst hl;refine⟨0, [], [],h, ?_,trivial,rfl,by simp⟩;cases a with
       |none=>simp [a2x]
       |some ad=>obtain⟨b,o,sp⟩:=ad;simp [a2x]
     · refine⟨n,l,xs,h, ?_,hrep,hfl,hlen⟩;simp only [a2x];have hxl:=hrep.length;exact .inr ⟨trivial,trivial,hrep.one hfl,by omega, .inr ⟨hok.2.2,fun j hj=>hcell j hj⟩⟩
   · exact h.elim
 · exact h.elim
theorem b5y {T:List (Nat×D)} {H:Hy} {nk:Nat} {T':List (Nat×SV)} {H':Hp} {nk':Nat} {w w1:World} {lo lo1:Nat} {iv iv1:List (Nat×Nat)} {k:Nat} {e0:Ent} {v':Value} {n z:Nat} {l:List D} {xs:List Value} {ty:TypeId}
 (hs:Sim A ⟨T',H',nk',w,lo,iv⟩ ⟨T,H,nk⟩) (hf:e8 H' k=some e0) (hv:∀b,b∈n9 v'→b∈bs H'∨w.heap.size≤b) (hfx:Fx (bs H') w w1) (hlo:(lo1=w1.heap.size)∨(lo1=lo∧iv1=iv))
 (hrep:j1 (okS A ⟨T',H',nk',w,lo,iv⟩) w l xs) (hfl:u7 l=true) (hlen:l.length=n*z):
 Sim A ⟨V3 k T',U5 (w5 k H') k (.row v' n xs z ty),nk',w1,lo1,iv1⟩ ⟨a3R k T,a7z (a3I k H) k (.row z n l ty),nk⟩:=by
 have hf2:e8 (w5 k H') k=some (U9 k e0):=by rw [E4,hf];rfl
 have hok:∀c,okS A ⟨T',H',nk',w,lo,iv⟩ c→okS A ⟨V3 k T',U5 (w5 k H') k (.row v' n xs z ty),nk',w1,lo1,iv1⟩ c∧w1.heap[c]?=w.heap[c]?:=by
  intro c ⟨h1,h2,h3⟩;refine⟨⟨⟨?_,h1.2⟩,E3 h2 hfx.size,fun x hx=> ?_⟩,hfx.block c h2 h3⟩
  · rcases hlo with rfl|⟨rfl,rfl⟩
    · exact .inl (E3 h2 hfx.size)
    · exact h1.1
  · rcases a8y hx with hx|hx
    · rw [a2G]at hx;exact h3 x hx
    · rcases hv x hx with hx|hx
      · exact h3 x hx
      · intro e;simp only at h2;omega
 have hk:∀q j,u6 ⟨T',H',nk',w,lo,iv⟩ q j→u6 ⟨V3 k T',U5 (w5 k H') k (.row v' n xs z ty),nk',w1,lo1,iv1⟩ q j:=by
  intro q j ⟨h1,h2⟩;refine⟨h1,fun hq=> ?_⟩;simp only;rw [U2 hf2,E4];obtain⟨e1,h3,h4⟩:=h2 hq;split
  · exact⟨_,rfl,rfl⟩
  · simp only at h3;rw [h3];exact⟨_,rfl,by cases e1<;>first|exact h4|rfl⟩
 refine⟨fun d x hx=> ?_,fun j x hx=> ?_,hs.nk,fun j hj=>a9o (hs.fT j hj),fun j hj=>a6P rfl (a9i (hs.fH j hj))⟩
 · obtain⟨y,hy,rfl⟩:=b1M hx;rcases hs.T d y hy with h|⟨s,h1,h2⟩
   · subst h;exact .inl (by simp [a6v,a0v])
   · unfold a6v;cases hm:a0v k y with
     |true=>exact .inl rfl
     |false=>
      refine .inr ⟨s, ?_,d8.mono hok hk _ _ h2⟩;have:=b0R (k:=k) h1;simp only [a8k,h2.mentE k,hm]at this;exact this
 · simp only;rw [U2 hf2,E4];rcases a8I hx with⟨rfl,rfl⟩|⟨hne,hx⟩
   · exact⟨.row v' n xs z ty,by simp,by exact⟨rfl,rfl,rfl,j1.mono hok _ _ hrep,hfl,hlen⟩⟩
   · obtain⟨y,hy,rfl⟩:=b1N hx;obtain⟨e1,h1,h2⟩:=hs.H j y hy;refine⟨U9 k e1,by rw [i6 hne];simp only at h1;rw [h1];rfl, ?_⟩;have h3:=a0I.mono hok hk h2;cases y<;>cases e1<;>simp only [b0O,U9,a0I]at h3⊢
     · exact⟨h3.1,b0v h3.2⟩
     · exact h3
     · exact h3
theorem b8r {T:List (Nat×D)} {H:Hy} {nk:Nat} {T':List (Nat×SV)} {H':Hp} {nk':Nat} {w w1:World} {lo lo1:Nat} {iv iv1:List (Nat×Nat)} {v':Value} {n z:Nat} {l:List D} {xs:List Value} {ty:TypeId}
 (hs:Sim A ⟨T',H',nk',w,lo,iv⟩ ⟨T,H,nk⟩) (hv:∀b,b∈n9 v'→b∈bs H'∨w.heap.size≤b) (hfx:Fx (bs H') w w1) (hlo:(lo1=w1.heap.size)∨(lo1=lo∧iv1=iv))
 (hrep:j1 (okS A ⟨T',H',nk',w,lo,iv⟩) w l xs) (hfl:u7 l=true) (hlen:l.length=n*z):
 Sim A ⟨T',(nk', .row v' n xs z ty)::H',nk'+1,w1,lo1,iv1⟩ ⟨T,(nk, .row z n l ty)::H,nk+1⟩:=by
 have hnk:nk=nk':=hs.nk;subst hnk
 have hok:∀c,okS A ⟨T',H',nk,w,lo,iv⟩ c→okS A ⟨T',(nk, .row v' n xs z ty)::H',nk+1,w1,lo1,iv1⟩ c∧w1.heap[c]?=w.heap[c]?:=by
  intro c ⟨h1,h2,h3⟩;refine⟨⟨⟨?_,h1.2⟩,E3 h2 hfx.size,fun x hx=> ?_⟩,hfx.block c h2 h3⟩
  · rcases hlo with rfl|⟨rfl,rfl⟩
    · exact .inl (E3 h2 hfx.size)
    · exact h1.1
  · simp only [bs,bsE,B2]at hx;rcases hx with hx|hx
    · rcases hv x hx with hx|hx
      · exact h3 x hx
      · intro e;simp only at h2;omega
    · exact h3 x hx
 have hk:∀q k,u6 ⟨T',H',nk,w,lo,iv⟩ q k→u6 ⟨T',(nk, .row v' n xs z ty)::H',nk+1,w1,lo1,iv1⟩ q k:=by
  intro q k ⟨h1,h2⟩;simp only at h1;refine⟨by simp only;omega,fun hq=> ?_⟩;simp only;rw [H5 (by omega)];exact h2 hq
 refine⟨fun d x hx=> ?_,fun k e he=> ?_,rfl,fun j hj=>hs.fT j (by simp only at hj⊢;omega),fun j hj=>H7 rfl (hs.fH j (by simp only at hj⊢;omega))⟩
 · rcases hs.T d x hx with h|⟨s,h1,h2⟩
   · exact .inl h
   · exact .inr ⟨s,h1,d8.mono hok hk _ _ h2⟩
 · simp only [j7]at he;simp only [e8];cases hb:Nat.beq nk k with
   |true=>
    rw [hb]at he;cases he;exact⟨_,rfl,by exact⟨rfl,rfl,rfl,j1.mono hok _ _ hrep,hfl,hlen⟩⟩
   |false=>
    rw [hb]at he;obtain⟨e',h1,h2⟩:=hs.H k e he;exact⟨e',h1,a0I.mono hok hk h2⟩
theorem c0A {T:List (Nat×D)} {H:Hy} {nk:Nat} {T':List (Nat×SV)} {H':Hp} {nk':Nat} {w w1:World} {lo lo1:Nat} {iv iv1:List (Nat×Nat)} {k:Nat} {e0:Ent} {v':Value} {n z:Nat} {l:List D} {xs:List Value} {ty:TypeId}
 (hs:Sim A ⟨T',H',nk',w,lo,iv⟩ ⟨T,H,nk⟩) (hf:e8 H' k=some e0) (hv:∀b,b∈n9 v'→b∈bs H'∨w.heap.size≤b) (hfx:Fx (bs H') w w1) (hlo:(lo1=w1.heap.size)∨(lo1=lo∧iv1=iv))
 (hrep:j1 (okS A ⟨V3 k T',U5 (w5 k H') k (.row v' n xs z ty),nk',w1,lo1,iv1⟩) w1 l xs) (hfl:u7 l=true) (hlen:l.length=n*z):
 Sim A ⟨V3 k T',U5 (w5 k H') k (.row v' n xs z ty),nk',w1,lo1,iv1⟩ ⟨a3R k T,a7z (a3I k H) k (.row z n l ty),nk⟩:=by
 have hf2:e8 (w5 k H') k=some (U9 k e0):=by rw [E4,hf];rfl
 have hok:∀c,okS A ⟨T',H',nk',w,lo,iv⟩ c→okS A ⟨V3 k T',U5 (w5 k H') k (.row v' n xs z ty),nk',w1,lo1,iv1⟩ c∧w1.heap[c]?=w.heap[c]?:=by
  intro c ⟨h1,h2,h3⟩;refine⟨⟨⟨?_,h1.2⟩,E3 h2 hfx.size,fun x hx=> ?_⟩,hfx.block c h2 h3⟩
  · rcases hlo with rfl|⟨rfl,rfl⟩
    · exact .inl (E3 h2 hfx.size)
    · exact h1.1
  · rcases a8y hx with hx|hx
    · rw [a2G]at hx;exact h3 x hx
    · rcases hv x hx with hx|hx
      · exact h3 x hx
      · intro e;simp only at h2;omega
 have hk:∀q j,u6 ⟨T',H',nk',w,lo,iv⟩ q j→u6 ⟨V3 k T',U5 (w5 k H') k (.row v' n xs z ty),nk',w1,lo1,iv1⟩ q j:=by
  intro q j ⟨h1,h2⟩;refine⟨h1,fun hq=> ?_⟩;simp only;rw [U2 hf2,E4];obtain⟨e1,h3,h4⟩:=h2 hq;split
  · exact⟨_,rfl,rfl⟩
  · simp only at h3;rw [h3];exact⟨_,rfl,by cases e1<;>first|exact h4|rfl⟩
 refine⟨fun d x hx=> ?_,fun j x hx=> ?_,hs.nk,fun j hj=>a9o (hs.fT j hj),fun j hj=>a6P rfl (a9i (hs.fH j hj))⟩
 · obtain⟨y,hy,rfl⟩:=b1M hx;rcases hs.T d y hy with h|⟨s,h1,h2⟩
   · subst h;exact .inl (by simp [a6v,a0v])
   · unfold a6v;cases hm:a0v k y with
     |true=>exact .inl rfl
     |false=>
      refine .inr ⟨s, ?_,d8.mono hok hk _ _ h2⟩;have:=b0R (k:=k) h1;simp only [a8k,h2.mentE k,hm]at this;exact this
 · simp only;rw [U2 hf2,E4];rcases a8I hx with⟨rfl,rfl⟩|⟨hne,hx⟩
   · exact⟨.row v' n xs z ty,by simp,by exact⟨rfl,rfl,rfl,hrep,hfl,hlen⟩⟩
   · obtain⟨y,hy,rfl⟩:=b1N hx;obtain⟨e1,h1,h2⟩:=hs.H j y hy;refine⟨U9 k e1,by rw [i6 hne];simp only at h1;rw [h1];rfl, ?_⟩;have h3:=a0I.mono hok hk h2;cases y<;>cases e1<;>simp only [b0O,U9,a0I]at h3⊢
     · exact⟨h3.1,b0v h3.2⟩
     · exact h3
     · exact h3
theorem b5S {T:List (Nat×D)} {H:Hy} {nk:Nat} {T':List (Nat×SV)} {H':Hp} {nk':Nat} {w w1:World} {lo lo1:Nat} {iv iv1:List (Nat×Nat)} {v':Value} {n z:Nat} {l:List D} {xs:List Value} {ty:TypeId}
 (hs:Sim A ⟨T',H',nk',w,lo,iv⟩ ⟨T,H,nk⟩) (hv:∀b,b∈n9 v'→b∈bs H'∨w.heap.size≤b) (hfx:Fx (bs H') w w1) (hlo:(lo1=w1.heap.size)∨(lo1=lo∧iv1=iv))
 (hrep:j1 (okS A ⟨T',(nk', .row v' n xs z ty)::H',nk'+1,w1,lo1,iv1⟩) w1 l xs) (hfl:u7 l=true) (hlen:l.length=n*z):
 Sim A ⟨T',(nk', .row v' n xs z ty)::H',nk'+1,w1,lo1,iv1⟩ ⟨T,(nk, .row z n l ty)::H,nk+1⟩:=by
 have hnk:nk=nk':=hs.nk;subst hnk
 have hok:∀c,okS A ⟨T',H',nk,w,lo,iv⟩ c→okS A ⟨T',(nk, .row v' n xs z ty)::H',nk+1,w1,lo1,iv1⟩ c∧w1.heap[c]?=w.heap[c]?:=by
  intro c ⟨h1,h2,h3⟩;refine⟨⟨⟨?_,h1.2⟩,E3 h2 hfx.size,fun x hx=> ?_⟩,hfx.block c h2 h3⟩
  · rcases hlo with rfl|⟨rfl,rfl⟩
    · exact .inl (E3 h2 hfx.size)
    · exact h1.1
  · simp only [bs,bsE,B2]at hx;rcases hx with hx|hx
    · rcases hv x hx with hx|hx
      · exact h3 x hx
      · intro e;simp only at h2;omega
    · exact h3 x hx
 have hk:∀q k,u6 ⟨T',H',nk,w,lo,iv⟩ q k→u6 ⟨T',(nk, .row v' n xs z ty)::H',nk+1,w1,lo1,iv1⟩ q k:=by
  intro q k ⟨h1,h2⟩;simp only at h1;refine⟨by simp only;omega,fun hq=> ?_⟩;simp only;rw [H5 (by omega)];exact h2 hq
 refine⟨fun d x hx=> ?_,fun k e he=> ?_,rfl,fun j hj=>hs.fT j (by simp only at hj⊢;omega),fun j hj=>H7 rfl (hs.fH j (by simp only at hj⊢;omega))⟩
 · rcases hs.T d x hx with h|⟨s,h1,h2⟩
   · exact .inl h
   · exact .inr ⟨s,h1,d8.mono hok hk _ _ h2⟩
 · simp only [j7]at he;simp only [e8];cases hb:Nat.beq nk k with
   |true=>
    rw [hb]at he;cases he;exact⟨_,rfl,by exact⟨rfl,rfl,rfl,hrep,hfl,hlen⟩⟩
   |false=>
    rw [hb]at he;obtain⟨e',h1,h2⟩:=hs.H k e he;exact⟨e',h1,a0I.mono hok hk h2⟩
theorem c4g {seq:Bool} {e esz bytes:Nat} {s x:D} {s' x':SV} {dst:Option Nat} (h:c5L e esz bytes s x sy fun st' d=>F8 X st' dst d KY) (hs:Sim A st sy) (h1:d8 (okS A st) st.w (u6 st) s s') (h2:d8 (okS A st) st.w (u6 st) x x'):
 b3A (cx X w0 bor) seq e esz bytes s' x' st fun st' d=>put (cx X w0 bor) st' dst d fun st'=>∃sy',KY sy'∧Sim A st' sy':=by
 unfold c5L at h;split at h
 · exact h.elim
 rename_i hez;have hez:=F7 hez;have hnews:=h;clear h;obtain⟨m,l,news,h,hn,hrep,hfl,hlen⟩:=c3x (X:=X) (w0:=w0) (bor:=bor) hnews hs h2;clear hnews;obtain⟨T',H',nk',w,lo,iv⟩:=st
 have reW_of:∀ {w1:World} {K:List (Nat×SV)→Hp→Nat→World→Nat→List (Nat×Nat)→Prop},(∀lo1 iv1,(lo1=w1.heap.size∨(lo1=lo∧iv1=iv))→K T' H' nk' w1 lo1 iv1)→reW seq ⟨T',H',nk',w,lo,iv⟩ w1 K:=by
  intro w1 K hh;cases seq with
  |true=>exact hh _ _ (.inl rfl)
  |false=>exact hh _ _ (.inr ⟨rfl,rfl⟩)
 split at h
 · rename_i T H nk;have:=h1.sc;subst this;obtain⟨hb,r',n',⟨rfl,rfl⟩,h⟩:=h;have hnk:nk=nk':=hs.nk;subst hnk;refine⟨0,0,m, .slice none 0 0, [],news,⟨hez,hn,by simpa using hb.1,by simpa [maxLen]using hb.2⟩, .inl ⟨rfl,rfl,fun v' w1 hv hz hf=>reW_of fun lo1 iv1 hlo=> ?_⟩⟩
   have hsim:=b8r (ty:=e) hs hz hf hlo hrep hfl hlen;refine⟨hs.fT nk (u0 _),hs.fH nk (u0 _),y4 h hsim ?_⟩;simp only [d8];exact⟨trivial,by simp only;omega,fun _=>⟨_,by simp only [e8,Nat.beq_refl];rfl,rfl⟩⟩
 · rename_i k z0 T H nk;have h1':=h1;simp only [d8]at h1;obtain⟨rfl,hkey⟩:=h1;split at h
   · rename_i z n r ty hfy;split at h
     · rename_i hzz hty;obtain rfl:=r6 hzz;obtain rfl:=r6 hty;obtain⟨hb,r',n',⟨rfl,rfl⟩,h⟩:=h;obtain⟨e',hf',he⟩:=hs.H _ _ hfy;cases e' with
       |blk=>exact he.elim
       |mp=>exact he.elim
       |row v n' xs z' ty'=>
        obtain⟨rfl,rfl,rfl,hrep0,hfl0,hlen0⟩:=he;refine⟨k,n,m,v,xs,news,⟨hez,hn,hb.1,by simpa [maxLen]using hb.2⟩, .inr (.inl ⟨rfl,hf',fun v' w1 hv hz hf=>reW_of fun lo1 iv1 hlo=> ?_⟩)⟩
        rw [a6a]at h;have h:=a0A h;rw [a8G]at h
        have hsim:=b5y (k:=k) (v':=v') (n:=n+m) (z:=z) (ty:=ty) (l:=r++l) (xs:=xs++news) hs hf' hz hf hlo (hrep0.app hrep) (F0 fun d hd=>by
         rcases B2.1 hd with hd|hd
         · exact u4 hfl0 hd
         · exact u4 hfl hd) (by simp [hlen0,hlen,J3])
        refine a3U (e0:=U9 k _) (by rw [E4];simp only at hf';rw [hf'];rfl) ?_;rw [a1Y];refine y4 h hsim ?_;simp only [d8];exact⟨trivial,hkey.1,fun _=>⟨_,by simp only;rw [U2 (e0:=U9 k _) (by rw [E4];simp only at hf';rw [hf'];rfl),e9 rfl],rfl⟩⟩
     · exact h.elim
   · exact h.elim
 · rename_i k o z0 n c T H nk;simp only [d8]at h1;obtain⟨rfl,hkey⟩:=h1;split at h
   · rename_i z N r ty ho hc hz0 hfy;obtain rfl:=r6 ho;obtain rfl:=r6 hc;split at h
     · rename_i hzz hty;obtain rfl:=r6 hzz;obtain rfl:=r6 hty;obtain⟨⟨hN0,hnN,hb⟩,r',n',⟨rfl,rfl⟩,h⟩:=h;obtain⟨e',hf',he⟩:=hs.H _ _ hfy;cases e' with
       |blk=>exact he.elim
       |mp=>exact he.elim
       |row v N' xs z' ty'=>
        obtain⟨rfl,rfl,rfl,hrep0,hfl0,hlen0⟩:=he;have hle:n*z≤N*z:=Z6 _ hnN;refine⟨k,n,m,v,xs.take (n*z),news,⟨hez,hn,hb.1,by simpa [maxLen]using hb.2⟩, .inr (.inr (.inl ⟨rfl,⟨v,N,xs,hf',hN0,hnN,rfl⟩,fun v' w1 hv hz hf=>reW_of fun lo1 iv1 hlo=> ?_⟩))⟩
        rw [a6a]at h;have h:=a0A h;rw [a8G]at h
        have hsim:=b5y (k:=k) (v':=v') (n:=n+m) (z:=z) (ty:=ty) (l:=r.take (n*z)++l) (xs:=xs.take (n*z)++news) hs hf' hz hf hlo ((hrep0.take _).app hrep) (F0 fun d hd=>by
         rcases B2.1 hd with hd|hd
         · exact u4 hfl0 (a3k hd)
         · exact u4 hfl hd) (by simp only [N0,a1G,hlen0,hlen,a1j hle,J3])
        refine a3U (e0:=U9 k _) (by rw [E4];simp only at hf';rw [hf'];rfl) ?_;rw [a1Y];refine y4 h hsim ?_;simp only [d8];exact⟨trivial,hkey.1,fun _=>⟨_,by simp only;rw [U2 (e0:=U9 k _) (by rw [E4];simp only at hf';rw [hf'];rfl),e9 rfl],rfl⟩⟩
     · exact h.elim
   · exact h.elim
 · exact h.elim
end
def H6 (k:Nat):Hp→Hp
 | []=> []
 |(j,e)::H=>match Nat.beq j k with|true=>H6 k H|false=>(j,e)::H6 k H
theorem a3J {H:Hp} {k j:Nat} (h:j≠k):e8 (H6 k H) j=e8 H j:=by
 induction H with
 |nil=>rfl
 |cons x H ih=>
  obtain⟨i,e⟩:=x;simp only [H6,e8];cases hb:Nat.beq i k with
  |true=>
   have:=r6 hb;subst this;rw [J2 (Ne.symm h)];exact ih
  |false=>simp only [e8];rw [ih]
theorem a2u {H:Hp} {k j:Nat} {e:Ent} (h:(j,e)∈H6 k H):(j,e)∈H∧j≠k:=by
 induction H with
 |nil=>cases h
 |cons x H ih=>
  obtain⟨i,e'⟩:=x;simp only [H6]at h;cases hb:Nat.beq i k with
  |true=>rw [hb]at h;obtain⟨h1,h2⟩:=ih h;exact⟨A9 _ h1,h2⟩
  |false=>
   rw [hb]at h;rcases o5.1 h with h|h
   · cases h;exact⟨F5,a0L hb⟩
   · obtain⟨h1,h2⟩:=ih h;exact⟨A9 _ h1,h2⟩
theorem b7c {k:Nat} (H:Hp):(H6 k H).Sublist H:=by
 induction H with
 |nil=>exact List.Sublist.slnil
 |cons x H ih=>
  obtain⟨i,e⟩:=x;simp only [H6];cases hb:Nat.beq i k with
  |true=>exact List.Sublist.cons _ ih
  |false=>exact List.Sublist.cons_cons _ ih
theorem c5O {H H':Hp} (h:H.Sublist H'):(bs H).Sublist (bs H'):=by
 induction h with
 |slnil=>exact List.Sublist.slnil
 |cons x _ ih=>obtain⟨i,e⟩:=x;exact ih.trans (List.sublist_append_right _ _)
 |cons_cons x _ ih=>obtain⟨i,e⟩:=x;exact List.Sublist.append (List.Sublist.refl _) ih
def Z8 (g:Nat→List SV→List SV):Hp→Hp
 | []=> []
 |(j, .blk b cs ty)::H=>(j, .blk b (g j cs) ty)::Z8 g H
 |(j,e)::H=>(j,e)::Z8 g H
theorem a8Q {g:Nat→List SV→List SV} {H:Hp} {j:Nat}:e8 (Z8 g H) j=(e8 H j).map (fun| .blk b cs ty=> .blk b (g j cs) ty|e=>e):=by
 induction H with
 |nil=>rfl
 |cons x H ih=>
  obtain⟨i,e⟩:=x;cases e<;>simp only [Z8,e8]<;>cases hb:Nat.beq i j
  · exact ih
  · have:=r6 hb;subst this;rfl
  · exact ih
  · rfl
  · exact ih
  · rfl
theorem mem_map {g:Nat→List SV→List SV} {H:Hp} {j:Nat} {e:Ent} (h:(j,e)∈Z8 g H):(∃b cs ty,(j, .blk b cs ty)∈H∧e= .blk b (g j cs) ty)∨((j,e)∈H∧isR e=true):=by
 induction H with
 |nil=>cases h
 |cons x H ih=>
  obtain⟨i,e'⟩:=x;cases e' with
  |blk b cs ty=>
   simp only [Z8]at h;rcases o5.1 h with h|h
   · cases h;exact .inl ⟨b,cs,ty,F5,rfl⟩
   · rcases ih h with⟨b,cs,ty,h1,h2⟩|⟨h1,h2⟩
     · exact .inl ⟨b,cs,ty,A9 _ h1,h2⟩
     · exact .inr ⟨A9 _ h1,h2⟩
  |row v n xs sz ty=>
   simp only [Z8]at h;rcases o5.1 h with h|h
   · cases h;exact .inr ⟨F5,rfl⟩
   · rcases ih h with⟨b,cs,ty,h1,h2⟩|⟨h1,h2⟩
     · exact .inl ⟨b,cs,ty,A9 _ h1,h2⟩
     · exact .inr ⟨A9 _ h1,h2⟩
  |mp b es ty=>
   simp only [Z8]at h;rcases o5.1 h with h|h
   · cases h;exact .inr ⟨F5,rfl⟩
   · rcases ih h with⟨b,cs,ty,h1,h2⟩|⟨h1,h2⟩
     · exact .inl ⟨b,cs,ty,A9 _ h1,h2⟩
     · exact .inr ⟨A9 _ h1,h2⟩
theorem b7X {g:Nat→List SV→List SV} {H:Hp}:bs (Z8 g H)=bs H:=by
 induction H with
 |nil=>rfl
 |cons x H ih=>obtain⟨i,e⟩:=x;cases e<;>simp [Z8,bs,bsE,ih]
theorem c1C {g:Nat→List SV→List SV} {H:Hp}:(Z8 g H).map (·.1)=H.map (·.1):=by
 induction H with
 |nil=>rfl
 |cons x H ih=>obtain⟨i,e⟩:=x;cases e<;>simp [Z8,ih]
theorem c4p {g:Nat→List SV→List SV} {H:Hp} (j:Nat):bOf (Z8 g H) j=bOf H j∧l3 (Z8 g H) j=l3 H j:=by
 simp only [bOf,l3,a8Q];cases e8 H j with
 |none=>exact⟨rfl,rfl⟩
 |some e=>cases e<;>exact⟨rfl,rfl⟩
section
variable {A : Nat → Prop} {Xx : Cx} {w : World}
structure c4t (ok ok':Nat→Prop) (R R':Bool→Nat→Prop) (H:Hp) (w:World) (k:Nat) (e:E):Prop where
 ok:∀b,ok b→ok' b
 R:∀q j,j≠k→R q j→R' q j
 blk:∀cs ty,e= .blk cs ty→u7 cs=true∧l3 H k=undef∧∃b xs,bOf H k=b∧ok' b∧j1 ok' w cs xs∧∀j,j<cs.length→w.cell? ⟨b,j,none⟩=xs[j]?
 row:∀z n l ty,e= .row z n l ty→Rep ok' w (.lst z n l) (l3 H k)
variable {ok ok' : Nat → Prop} {R R' : Bool → Nat → Prop} {H : Hp} {k : Nat} {e : E}
theorem a4P {s:SV} (h:ment k s=false):den (H6 k H) s=den H s:=a6b k (fun j hj=>⟨by simp [bOf,a3J hj],by simp [l3,a3J hj]⟩) s h
theorem c4f {x x':D} (h:fzO k e x=some x') (ho:a2U x=true):a2U x'=true:=by
 cases x<;>simp [a2U]at ho<;>simp only [fzO]at h
 · cases h;rfl
 · cases h;rfl
 · cases h;rfl
 · split at h
   · cases h;rfl
   · split at h<;>cases h;rfl
 · split at h<;>cases h;rfl
 · split at h
   · cases h;rfl
   · split at h<;>cases h;rfl
 · split at h<;>cases h;rfl
 · split at h
   · cases h;rfl
   · split at h
     · split at h<;>cases h;rfl
     · cases h
 · split at h<;>cases h;rfl
 · cases h;rfl
theorem c3u {l l':List D} (h:fzL k e l=some l') (ho:u7 l=true):u7 l'=true:=by
 induction l generalizing l' with
 |nil=>simp [fzL]at h;subst h;rfl
 |cons x l ih=>
  simp only [fzL]at h;split at h
  · rename_i y r hy hr;cases h;simp only [u7];rw [c4f hy (u4 ho F5)];exact ih hr (F0 fun d hd=>u4 ho (A9 _ hd))
  · cases h
mutual
theorem b8i (hz:c4t ok ok' R R' H w k e):∀(x:D) (s:SV) (x':D),d8 ok w R x s→fzO k e x=some x'→∃s',d8 ok' w R' x' s'∧den (H6 k H) s'=den H s∧ment k s'=false
 | .v x,s,x',h,hx=>by
  simp only [d8]at h;simp only [fzO]at hx;cases hx;obtain⟨rfl,h⟩:=h;exact⟨.v x,by simp only [d8];exact⟨trivial,h⟩,rfl,rfl⟩
 | .lst z n l,s,x',h,hx=>by
  simp only [fzO]at hx;cases hx;simp only [d8]at h;obtain⟨y,rfl,h⟩:=h;exact⟨.v y,by simp only [d8];exact⟨y,rfl,Rep.mono (fun b hb=>⟨hz.ok b hb,rfl⟩) _ _ h⟩,rfl,rfl⟩
 | .ptr l o,s,x',h,hx=>by
  simp only [fzO]at hx;cases hx;simp only [d8]at h;obtain⟨y,rfl,h⟩:=h;exact⟨.v y,by simp only [d8];exact⟨y,rfl,Rep.mono (fun b hb=>⟨hz.ok b hb,rfl⟩) _ _ h⟩,rfl,rfl⟩
 | .own j o,s,x',h,hx=>by
  simp only [d8]at h;obtain⟨rfl,h⟩:=h;simp only [fzO]at hx;cases hb:Nat.beq j k with
  |false=>
   rw [hb]at hx;cases hx;exact⟨_,by simp only [d8];exact⟨trivial,hz.R _ _ (a0L hb) h⟩,a4P (by simpa [ment]using hb),by simpa [ment]using hb⟩
  |true=>
   have:=r6 hb;subst this;rw [hb]at hx;simp only at hx;split at hx
   · cases hx;obtain⟨hfl,hrv,b,xs,h1,h2,h3,h4⟩:=hz.blk _ _ rfl;refine⟨.v (.pointer (some ⟨b,o,none⟩)), ?_,by simp [den,h1],rfl⟩;simp only [d8,Rep];exact⟨_,rfl,b,0,xs,by rw [R6],h2,hfl,h3,fun i hi=>by rw [R6];exact h4 i hi⟩
   · cases hx
 | .ownx j o,s,x',h,hx=>by
  simp only [d8]at h;obtain⟨rfl,h⟩:=h;simp only [fzO]at hx;cases hb:Nat.beq j k with
  |false=>rw [hb]at hx;cases hx;exact⟨_,by simp only [d8];exact⟨trivial,hz.R _ _ (a0L hb) h⟩,a4P (by simpa [ment]using hb),by simpa [ment]using hb⟩
  |true=>rw [hb]at hx;cases hx
 | .elr j z i o,s,x',h,hx=>by
  simp only [d8]at h;obtain⟨rfl,h⟩:=h;simp only [fzO]at hx;cases hb:Nat.beq j k with
  |false=>rw [hb]at hx;cases hx;exact⟨_,by simp only [d8];exact⟨trivial,hz.R _ _ (a0L hb) h⟩,a4P (by simpa [ment]using hb),by simpa [ment]using hb⟩
  |true=>rw [hb]at hx;cases hx
 | .row j z,s,x',h,hx=>by
  simp only [d8]at h;obtain⟨rfl,h⟩:=h;simp only [fzO]at hx;cases hb:Nat.beq j k with
  |false=>rw [hb]at hx;cases hx;exact⟨_,by simp only [d8];exact⟨trivial,hz.R _ _ (a0L hb) h⟩,a4P (by simpa [ment]using hb),by simpa [ment]using hb⟩
  |true=>
   have:=r6 hb;subst this;rw [hb]at hx;simp only at hx;split at hx
   · cases hx;exact⟨.v (l3 H j),by simp only [d8];exact⟨_,rfl,hz.row _ _ _ _ rfl⟩,rfl,rfl⟩
   · cases hx
 | .osl j o z n c,s,x',h,hx=>by
  simp only [d8]at h;obtain⟨rfl,h⟩:=h;simp only [fzO]at hx;cases hb:Nat.beq j k with
  |false=>rw [hb]at hx;cases hx;exact⟨_,by simp only [d8];exact⟨trivial,hz.R _ _ (a0L hb) h⟩,a4P (by simpa [ment]using hb),by simpa [ment]using hb⟩
  |true=>
   have:=r6 hb;subst this;rw [hb]at hx;simp only at hx;split at hx
   · split at hx
     · rename_i l hl hnc hnm;cases hx;obtain⟨hfl,hrv,b,xs,h1,h2,h3,h4⟩:=hz.blk _ _ rfl;obtain⟨g1,g2,g3⟩:=h3.part hl;refine⟨.v (.slice (some ⟨b,o,none⟩) n c), ?_,by simp [den,h1,hrv,a7y,undef],rfl⟩;simp only [d8,Rep];have hll:=(b1X hl).2.1;rw [b7l]at hll;refine⟨_,rfl,_,c,rfl,F7 hnc,by have:=F7 hnm;omega,g2,a5M hfl fun d hd=>a4w (a3k (hll▸hd)), .inr ⟨b,o,_,rfl,h2,g1,fun i hi=> ?_⟩⟩;rw [h4 (o+i) (by omega),a2v,e9 hi,a6B]
     · cases hx
   · cases hx
 | .agg l,s,x',h,hx=>by
  simp only [d8]at h;obtain⟨cs,h1,h2,h3⟩:=h;simp only [fzO]at hx;split at hx
  · rename_i l' hl;cases hx;obtain⟨cs',g1,g2,g3⟩:=a1J hz l cs l' h2 hl;refine⟨.agg cs',by simp only [d8];exact⟨cs',rfl,g1,c3u hl h3⟩, ?_,by simpa [ment]using g3⟩
    cases s<;>simp [a1S]at h1
    · rename_i y;cases y<;>simp at h1;subst h1;rw [C8]at g2;simp [den,g2]
    · subst h1;simp [den,g2]
  · cases hx
 | .tup l,s,x',h,hx=>by
  simp only [d8]at h;simp only [fzO]at hx;split at hx
  · rename_i l' hl;cases hx;rcases h with⟨cs,rfl,h2⟩|⟨a,rfl,h2⟩
    · obtain⟨cs',g1,g2,g3⟩:=a1J hz l cs l' h2 hl;exact⟨.tup cs',by simp only [d8];exact .inl ⟨cs',rfl,g1⟩,by simp [den,g2],by simpa [ment]using g3⟩
    · obtain⟨cs',g1,g2,g3⟩:=a1J hz l _ l' h2 hl;rw [C8]at g2;exact⟨.tup cs',by simp only [d8];exact .inl ⟨cs',rfl,g1⟩,by simp [den,g2],by simpa [ment]using g3⟩
  · cases hx
 | .fn f a b,s,x',h,hx=>by
  simp only [d8]at h;simp only [fzO]at hx;split at hx
  · rename_i a' b' ha hb;cases hx;rcases h with⟨p,q,rfl,h2,h3⟩|⟨p,q,rfl,h2,h3⟩
    · obtain⟨p',g1,g2,g3⟩:=a1J hz a p a' h2 ha;obtain⟨q',g4,g5,g6⟩:=a1J hz b q b' h3 hb;exact⟨.fn f p' q',by simp only [d8];exact .inl ⟨p',q',rfl,g1,g4⟩,by simp [den,g2,g5],by simp only [ment,g3,g6]⟩
    · obtain⟨p',g1,g2,g3⟩:=a1J hz a _ a' h2 ha;obtain⟨q',g4,g5,g6⟩:=a1J hz b _ b' h3 hb;rw [C8]at g2 g5;exact⟨.fn f p' q',by simp only [d8];exact .inl ⟨p',q',rfl,g1,g4⟩,by simp [den,g2,g5],by simp only [ment,g3,g6]⟩
  · cases hx
 | .mp l,s,x',h,hx=>by
  simp only [fzO]at hx;cases hx;simp only [d8]at h⊢;obtain⟨y,rfl,h⟩:=h;exact⟨.v y,⟨y,rfl,Rep.mono (fun b hb=>⟨hz.ok b hb,rfl⟩) _ _ h⟩,rfl,rfl⟩
 | .und,s,x',h,hx=>by
  simp only [fzO]at hx;cases hx;simp only [d8]at h;subst h;exact⟨.v undef,by simp only [d8],rfl,rfl⟩
 | .bad,_,_,_,hx=>by simp [fzO]at hx
theorem a1J (hz:c4t ok ok' R R' H w k e):∀(l:List D) (r:List SV) (l':List D),d9 ok w R l r→fzL k e l=some l'→∃r',d9 ok' w R' l' r'∧l4 (H6 k H) r'=l4 H r∧C9 k r'=false
 | [], [],l',_,hx=>by simp only [fzL]at hx;cases hx;exact⟨[],trivial,rfl,rfl⟩
 |d::l,y::r,l',h,hx=>by
  simp only [d9]at h;simp only [fzL]at hx;split at hx
  · rename_i d' l'' hd hl;cases hx;obtain⟨s',g1,g2,g3⟩:=b8i hz d y d' h.1 hd;obtain⟨r',g4,g5,g6⟩:=a1J hz l r l'' h.2 hl;exact⟨s'::r',⟨g1,g4⟩,by simp [l4,g2,g5],by simp only [C9,g3,g6]⟩
  · cases hx
 | [],_::_,_,h,_=>by simp [d9]at h
 |_::_, [],_,h,_=>by simp [d9]at h
end
theorem b9m (hz:c4t ok ok' R R' H w k e):∀(l:List D) (r:List SV),d9 ok w R l r→∃r',d9 ok' w R' (fzC k e l) r'∧C9 k r'=false∧∀xs,l6 H r xs→l6 (H6 k H) r' xs
 | [], [],_=>⟨[],trivial,rfl,fun xs h=>by cases xs with
  |nil=>trivial
  |cons=>simp [l6]at h⟩
 |d::l,y::r,h=>by
  simp only [d9]at h;obtain⟨r',g4,g5,g6⟩:=b9m hz l r h.2;simp only [fzC,fzG];cases hd:fzO k e d with
  |none=>exact⟨.bad::r',⟨by simp only [d8],g4⟩,by simp only [C9,ment,g5],fun xs hc=>by
   cases xs with
   |nil=>simp [l6]at hc
   |cons x xs=>simp only [l6]at hc;exact⟨.inl rfl,g6 xs hc.2⟩⟩
  |some d'=>
   obtain⟨s',g1,g2,g3⟩:=b8i hz d y d' h.1 hd;have hne:d≠ .bad:=fun e=>by subst e;simp [fzO]at hd
   have hy:=h.1.ne hne;refine⟨s'::r',⟨g1,g4⟩,by simp only [C9,g3,g5],fun xs hc=> ?_⟩;cases xs with
   |nil=>simp [l6]at hc
   |cons x xs=>
    simp only [l6]at hc;refine⟨?_,g6 xs hc.2⟩;rcases hc.1 with h|h
    · exact absurd h hy
    · exact .inr (by rw [g2];exact h)
 | [],_::_,h=>by simp [d9]at h
 |_::_, [],h=>by simp [d9]at h
theorem c1v {T:List (Nat×D)} {d:Nat} {x:D} (h:o4 (fzT k e T) d=some x):∃y,o4 T d=some y∧x=fzG k e y:=by
 induction T with
 |nil=>simp [o4,fzT]at h
 |cons q T ih=>
  obtain⟨d',s'⟩:=q;simp only [o4,fzT]at h⊢;cases hb:Nat.beq d' d with
  |true=>rw [hb]at h;cases h;exact⟨_,rfl,rfl⟩
  |false=>rw [hb]at h;exact ih h
theorem c2P {Hd:Hy} {j:Nat} {x:E} (h:j7 (fzH k e Hd) j=some x):j≠k∧∃y,j7 Hd j=some y∧x=fzE k e y:=by
 induction Hd with
 |nil=>simp [j7,fzH]at h
 |cons q Hd ih=>
  obtain⟨i,s'⟩:=q;simp only [fzH]at h;simp only [j7];cases hb:Nat.beq i k with
  |true=>
   rw [hb]at h;obtain⟨h1,y,h2,h3⟩:=ih h;have:=r6 hb;subst this;rw [J2 (Ne.symm h1)];exact⟨h1,y,h2,h3⟩
  |false=>
   rw [hb]at h;simp only [j7]at h;cases hb2:Nat.beq i j with
   |true=>rw [hb2]at h;cases h;exact⟨by have:=r6 hb2;subst this;exact a0L hb,_,rfl,rfl⟩
   |false=>rw [hb2]at h;exact ih h
end
mutual
theorem a1U {ok:Nat→Prop} {w:World} {R:Bool→Nat→Prop} {H:Hp}:∀(x:D) (s:SV),d8 ok w R x s→Q5 x=true→Rep ok w x (den H s)
 | .v x,s,h,_=>by simp only [d8]at h;rw [h.1];simp only [Rep,den];exact⟨trivial,h.2⟩
 | .lst z n l,s,h,_=>by simp only [d8]at h;obtain⟨y,rfl,h⟩:=h;exact h
 | .ptr l o,s,h,_=>by simp only [d8]at h;obtain⟨y,rfl,h⟩:=h;exact h
 | .agg l,s,h,hc=>by
  simp only [d8]at h;obtain⟨cs,h1,h2,h3⟩:=h;simp only [Q5]at hc;split at hc
  · rename_i hcl;have:=B8 (H:=H) l cs h2 hcl;simp only [Rep];cases s<;>simp [a1S]at h1
    · rename_i y;cases y<;>simp at h1;subst h1;rw [C8]at this;exact⟨_,rfl,this,h3⟩
    · subst h1;exact⟨_,rfl,by simpa using this,h3⟩
  · cases hc
 | .tup l,s,h,hc=>by
  simp only [d8]at h;simp only [Q5]at hc;simp only [Rep];rcases h with⟨cs,rfl,h⟩|⟨a,rfl,h⟩
  · exact⟨_,rfl,by simpa using B8 (H:=H) l cs h hc⟩
  · have:=B8 (H:=H) l _ h hc;rw [C8]at this;exact⟨_,rfl,this⟩
 | .mp l,s,h,hc=>by
  simp only [d8]at h;obtain⟨y,rfl,h⟩:=h;exact h
 | .fn f a b,s,h,hc=>by
  simp only [d8]at h;simp only [Q5]at hc;split at hc
  · rename_i ha;simp only [Rep];rcases h with⟨p,q,rfl,h2,h3⟩|⟨p,q,rfl,h2,h3⟩
    · exact⟨_,_,rfl,by simpa using B8 (H:=H) a p h2 ha,by simpa using B8 (H:=H) b q h3 hc⟩
    · have g1:=B8 (H:=H) a _ h2 ha;have g2:=B8 (H:=H) b _ h3 hc;rw [C8]at g1 g2;exact⟨_,_,rfl,g1,g2⟩
  · cases hc
 | .own _ _,_,_,h=>by simp [Q5]at h
 | .ownx _ _,_,_,h=>by simp [Q5]at h
 | .row _ _,_,_,h=>by simp [Q5]at h
 | .elr _ _ _ _,_,_,h=>by simp [Q5]at h
 | .osl _ _ _ _ _,_,_,h=>by simp [Q5]at h
 | .und,_,_,h=>by simp [Q5]at h
 | .bad,_,_,h=>by simp [Q5]at h
theorem B8 {ok:Nat→Prop} {w:World} {R:Bool→Nat→Prop} {H:Hp}:∀(l:List D) (r:List SV),d9 ok w R l r→J7 l=true→j1 ok w l (l4 H r)
 | [], [],_,_=>trivial
 |d::l,y::r,h,hc=>by
  simp only [d9]at h;simp only [J7]at hc;split at hc
  · rename_i hd;exact⟨a1U d y h.1 hd,B8 l r h.2 hc⟩
  · cases hc
 | [],_::_,h,_=>by simp [d9]at h
 |_::_, [],h,_=>by simp [d9]at h
end
theorem a9q {ok:Nat→Prop} {w:World} {R:Bool→Nat→Prop}:∀(l:List D) (r:List SV),d9 ok w R l r→J7 l=true→ .bad∉r
 | [], [],_,_=>by simp
 |d::l,y::r,h,hc=>by
  simp only [d9]at h;simp only [J7]at hc;split at hc
  · rename_i hd;have h2:=a9q l r h.2 hc;intro hm;rcases o5.1 hm with e|hm
    · subst e;cases d<;>simp_all [d8,Q5,a1S]
    · exact h2 hm
  · cases hc
 | [],_::_,h,_=>by simp [d9]at h
 |_::_, [],h,_=>by simp [d9]at h
section
variable {A : Nat → Prop} {Xx : Cx} {w : World} {st : St} {sy : Sy}
def c1y (st st':St):Prop:=∀d s,u1 st'.T d=some s→s= .bad∨∃s0,u1 st.T d=some s0∧s0≠ .bad∧den st'.H s=den st.H s0
theorem b2V {α:Type} {p:α→Prop} (d:α):∃x,(p x∨¬(∃y,p y)∧x=d):=by
 by_cases h:∃y,p y
 · obtain⟨y,hy⟩:=h;exact⟨y, .inl hy⟩
 · exact⟨d, .inr ⟨h,rfl⟩⟩
theorem b3q {g:Nat→SV→SV} {T:List (Nat×SV)} {d:Nat}:u1 (T.map fun p=>(p.1,g p.1 p.2)) d=(u1 T d).map (g d):=by
 induction T with
 |nil=>rfl
 |cons x T ih=>
  obtain⟨i,s⟩:=x;simp only [C4,u1];cases hb:Nat.beq i d with
  |true=>have:=r6 hb;subst this;rfl
  |false=>exact ih
theorem b5z {g:Nat→SV→SV} {T:List (Nat×SV)} {j:Nat} (h:∀d s,ment j (g d s)=false):o7 j (T.map fun p=>(p.1,g p.1 p.2))=true:=by
 induction T with
 |nil=>rfl
 |cons x T ih=>simp only [C4,o7,h];exact ih
theorem b6G {g:Nat→List SV→List SV} {H:Hp} {j:Nat} (h:∀i cs,C9 j (g i cs)=false):u3 j (Z8 g H)=true:=by
 induction H with
 |nil=>rfl
 |cons x H ih=>
  obtain⟨i,e⟩:=x;cases e with
  |blk b cs ty=>simp only [Z8,u3,h];exact ih
  |row v n xs sz ty=>simp only [Z8,u3];exact ih
  |mp b es ty=>simp only [Z8,u3];exact ih
theorem b0A {H:Hp}:∀(xs:List Value),l6 H (xs.map fun _=>SV.bad) xs
 | []=>trivial
 |x::xs=>⟨.inl rfl,b0A xs⟩
theorem c1p {α:Type} (k:Nat) (l:List α):C9 k (l.map fun _=>SV.bad)=false:=by
 induction l with
 |nil=>rfl
 |cons x l ih=>simp only [C4,C9,ment];exact ih
def a6h (H' H:Hp):Prop:=∀j e,(j,e)∈H'→∃e0,(j,e0)∈H∧∀b,b∈bsE e→b∈bsE e0
theorem a6h.bs {H' H:Hp} (h:a6h H' H) (b:Nat) (hb:b∈bs H'):b∈Sx.bs H:=by
 obtain⟨j,e,h1,h2⟩:=u2.1 hb;obtain⟨e0,h3,h4⟩:=h j e h1;exact u2.2 ⟨j,e0,h3,h4 b h2⟩
theorem a6h.refl (H:Hp):a6h H H:=fun _ e h=>⟨e,h,fun _ h=>h⟩
theorem a6h.trans {A B C:Hp} (h:a6h A B) (k:a6h B C):a6h A C:=fun j e hm=>by
 obtain⟨e1,h1,h2⟩:=h j e hm;obtain⟨e2,h3,h4⟩:=k j e1 h1;exact⟨e2,h3,fun b hb=>h4 b (h2 b hb)⟩
theorem c4v (hA:∀b,(Xx.w0.heap.size≤b∨b∈Xx.bor)→A b) (hc:Cls Xx st.H st.nk w w) (hat:At st w) (hs:Sim A st sy) {k:Nat} {e:E} (hf:j7 sy.H k=some e) (hok:okE e=true):
 ∃st',Cls Xx st'.H st'.nk w w∧At st' w∧Sim A st' ⟨fzT k e sy.T,fzH k e sy.H,sy.nk⟩∧a6h st'.H st.H∧st'.nk=st.nk∧c1y st st'∧
  ∀l r l',d9 (okS A st) w (u6 st) l r→fzL k e l=some l'→∃r',d9 (okS A st') w (u6 st') l' r'∧l4 st'.H r'=l4 st.H r:=by
 obtain⟨T,H,nk,ws,lo,iv⟩:=st;obtain⟨h1,h2,h3⟩:=hat;simp only at h1 h2 h3 hc;subst h1 h2 h3;obtain⟨e',hf',hr⟩:=hs.H k e hf;simp only at hf';have hmem:=l5 hf'
 have hkb:∀b,b∈bsE e'→b∉bs (H6 k H):=by
  intro b hb hb2;obtain⟨j,x,hj,hbx⟩:=u2.1 hb2;obtain⟨hj1,hj2⟩:=a2u hj;exact a1s hc.nd hc.keys hmem hj1 (Ne.symm hj2) hb hbx
 have hsubl:=c5O (b7c (k:=k) H)
 --what is allowed now
 let ok':Nat→Prop:=fun b=>(b<ws.heap.size∧b6I (H6 k H) b)∧A b
 let R':Bool→Nat→Prop:=fun q j=>j<nk∧(q=true→∃e,e8 (H6 k H) j=some e∧isR e=true)
 have hz:c4t (okS A ⟨T,H,nk,ws,ws.heap.size, []⟩) ok' (u6 ⟨T,H,nk,ws,ws.heap.size, []⟩) R' H ws k e:=by
  have hok1:∀b,okS A ⟨T,H,nk,ws,ws.heap.size, []⟩ b→ok' b:=fun b h=>⟨⟨h.2.1,fun c hcb=>h.2.2 c (hsubl.subset hcb)⟩,h.1.2⟩
  have hkok:∀b,b∈bsE e'→ok' b:=fun b hb=>⟨⟨b5C (hc.own k e' hmem) hb,fun c hcb e=>hkb b hb (e▸hcb)⟩,hA b (by
   rcases hc.lb b (u2.2 ⟨k,e',hmem,hb⟩)with h|h
   · exact .inr h
   · exact .inl h)⟩
  refine⟨hok1,fun q j hj hq=>⟨hq.1,fun h=> ?_⟩,fun cs ty he=> ?_,fun z n l ty he=> ?_⟩
  · rw [a3J hj];exact hq.2 h
  · subst he;cases e' with
    |row=>exact hr.elim
    |mp=>exact hr.elim
    |blk b cs' ty'=>
     simp only [okE]at hok;split at hok
     · rename_i hno;have hrep:=B8 (H:=H) _ _ hr.2 hno;obtain⟨ys,hy,hh⟩:=hc.blk hf';have hys:=c0o hy (a9q _ _ hr.2 hno);rw [←hys]at hrep;refine⟨hok,by simp [l3,hf'],b,ys,a4m hf',hkok b (by simp [bsE]),j1.mono (fun b hb=>⟨hok1 b hb,rfl⟩) _ _ hrep,fun j hj=> ?_⟩;rw [a2o hh];simp
     · cases hok
  · subst he;cases e' with
    |blk=>exact hr.elim
    |mp=>exact hr.elim
    |row v n' xs z' ty'=>
     obtain⟨rfl,rfl,rfl,hrep,hfl,hlen⟩:=hr;have hown:=hc.row hf';have hrv:l3 H k=v:=by simp [l3,hf']
     rw [hrv];simp only [Rep];rcases hown.2 with⟨rfl,rfl⟩|⟨g,cap,cur,rfl,hb,hg,hnc,hcm,_⟩
     · exact⟨none,0,rfl,u0 _,by simp,hlen,hfl, .inl rfl⟩
     · refine⟨_,cap,rfl,hnc,by simp only [maxLen]at hcm;omega,hlen,hfl, .inr ⟨g,0,xs,rfl,hkok g (by simp [bsE,n9]),j1.mono (fun b hb=>⟨hok1 b hb,rfl⟩) _ _ hrep,fun j hj=> ?_⟩⟩;have hxl:=hrep.length;have hlt:j<xs.length:=by omega
       have:=hown.cells (g:=g) rfl j (xs[j]) (by simp [hlt]);rw [G0]at this;rw [this];simp [hlt]
 --the slots
 have hg:∀d s,∃s',((∃x x',o4 sy.T d=some x∧fzO k e x=some x'∧d8 ok' ws R' x' s'∧den (H6 k H) s'=den H s∧s≠ .bad∧ment k s'=false)∨
  ¬(∃s',∃x x',o4 sy.T d=some x∧fzO k e x=some x'∧d8 ok' ws R' x' s'∧den (H6 k H) s'=den H s∧s≠ .bad∧ment k s'=false)∧s'=SV.bad):=fun d s=>b2V (SV.bad)
 let g:Nat→SV→SV:=fun d s=>(hg d s).choose
 have hgs:∀d s,_:=fun d s=>(hg d s).choose_spec
 --the cells
 have hq:∀j cs,∃cs',((∃dcs ty,j7 sy.H j=some (.blk dcs ty)∧d9 ok' ws R' (fzC k e dcs) cs'∧C9 k cs'=false∧∀xs,l6 H cs xs→l6 (H6 k H) cs' xs)∨
  ¬(∃cs',∃dcs ty,j7 sy.H j=some (.blk dcs ty)∧d9 ok' ws R' (fzC k e dcs) cs'∧C9 k cs'=false∧∀xs,l6 H cs xs→l6 (H6 k H) cs' xs)∧cs'=cs.map fun _=>SV.bad):=fun j cs=>b2V _
 let q:Nat→List SV→List SV:=fun j cs=>(hq j cs).choose
 have hqs:∀j cs,_:=fun j cs=>(hq j cs).choose_spec
 have hR'lt:∀ {p j},R' p j→j<nk:=fun h=>h.1
 have hgm:∀j,nk≤j→∀d s,ment j (g d s)=false:=by
  intro j hj d s;rcases hgs d s with⟨x,x',_,_,h3,_⟩|⟨_,h⟩
  · exact h3.ment (fun p hp=>by have:=hR'lt hp;omega)
  · show ment j (hg d s).choose=false;rw [h];rfl
 have hqm:∀j,nk≤j→∀i cs,C9 j (q i cs)=false:=by
  intro j hj i cs;rcases hqs i cs with⟨dcs,ty,_,h3,_⟩|⟨_,h⟩
  · exact h3.ment (fun p hp=>by have:=hR'lt hp;omega)
  · show C9 j (hq i cs).choose=false;rw [h];exact c1p _ _
 have hden:∀s,den (Z8 q (H6 k H)) s=den (H6 k H) s:=fun s=>a4U (fun j=>c4p j) s
 have hcell:∀l xs,l6 (H6 k H) l xs→l6 (Z8 q (H6 k H)) l xs:=fun l xs h=>X7 h fun s _ _=>hden s
 have hksub:a6h (Z8 q (H6 k H)) H:=fun j x hm=>by
  rcases mem_map hm with⟨b,cs,ty,h1,rfl⟩|⟨h1,_⟩
  · exact⟨_,(a2u h1).1,fun _ h=>h⟩
  · exact⟨_,(a2u h1).1,fun _ h=>h⟩
 have hbs:∀b,b∈bs (Z8 q (H6 k H))→b∈bs H:=hksub.bs
 have hks:∀b,okS A ⟨T.map fun p=>(p.1,g p.1 p.2),Z8 q (H6 k H),nk,ws,ws.heap.size, []⟩ b↔ok' b:=by
  intro b;constructor
  · intro h;exact⟨⟨h.2.1,fun c hcb=>h.2.2 c (by rw [b7X];exact hcb)⟩,h.1.2⟩
  · intro h;exact⟨⟨.inl h.1.1,h.2⟩,h.1.1,fun c hcb=>h.1.2 c (by simp only [b7X]at hcb;exact hcb)⟩
 have hkk:∀p j,R' p j→u6 ⟨T.map fun p=>(p.1,g p.1 p.2),Z8 q (H6 k H),nk,ws,ws.heap.size, []⟩ p j:=by
  intro p j h;refine⟨h.1,fun hp=> ?_⟩;obtain⟨e1,h2,h3⟩:=h.2 hp;simp only;rw [a8Q,h2];exact⟨_,rfl,by cases e1<;>first|exact h3|rfl⟩
 have up:∀x s,d8 ok' ws R' x s→d8 (okS A ⟨T.map fun p=>(p.1,g p.1 p.2),Z8 q (H6 k H),nk,ws,ws.heap.size, []⟩) ws (u6 ⟨T.map fun p=>(p.1,g p.1 p.2),Z8 q (H6 k H),nk,ws,ws.heap.size, []⟩) x s:=
  fun x s h=>d8.mono (fun b hb=>⟨(hks b).2 hb,rfl⟩) hkk _ _ h
 have upL:∀x s,d9 ok' ws R' x s→d9 (okS A ⟨T.map fun p=>(p.1,g p.1 p.2),Z8 q (H6 k H),nk,ws,ws.heap.size, []⟩) ws (u6 ⟨T.map fun p=>(p.1,g p.1 p.2),Z8 q (H6 k H),nk,ws,ws.heap.size, []⟩) x s:=
  fun x s h=>d9.mono (fun b hb=>⟨(hks b).2 hb,rfl⟩) hkk _ _ h
 refine⟨⟨T.map fun p=>(p.1,g p.1 p.2),Z8 q (H6 k H),nk,ws,ws.heap.size, []⟩, ?_,⟨rfl,rfl,rfl⟩, ?_,hksub,rfl, ?_, ?_⟩
 · refine⟨Fx.refl _ _,hc.fx0,fun j x hm=> ?_,by simp only [b7X];exact hsubl.nodup hc.nd,fun b hb=>hc.lb b (hbs b hb),by simp only [c1C];exact((b7c H).map _).nodup hc.keys,fun j x hm=> ?_⟩
   · rcases mem_map hm with⟨b,cs,ty,h1,rfl⟩|⟨h1,hx⟩
     · obtain⟨h2,h3⟩:=a2u h1;obtain⟨xs,h4,h5⟩:=hc.own j _ h2;refine⟨xs,hcell _ _ ?_,h5⟩;rcases hqs j cs with⟨dcs,ty',_,_,_,h6⟩|⟨_,h6⟩
       · exact h6 xs h4
       · show l6 _ (hq j cs).choose xs;rw [h6];have hl:=a6C h4
         have:(cs.map fun _=>SV.bad)=(xs.map fun _=>SV.bad):=by
          simp only [List.map_const',hl]
         rw [this];exact b0A xs
     · have:=hc.own j _ (a2u h1).1;cases x with
       |blk=>cases hx
       |row=>exact this
       |mp=>exact this
   · rcases mem_map hm with⟨b,cs,ty,h1,rfl⟩|⟨h1,_⟩
     · exact hc.lt j _ (a2u h1).1
     · exact hc.lt j _ (a2u h1).1
 · refine⟨fun d x hx=> ?_,fun j x hx=> ?_,hs.nk,fun j hj=>b5z (hgm j hj),fun j hj=>b6G (hqm j hj)⟩
   · obtain⟨y,hy,rfl⟩:=c1v hx;unfold fzG;cases hfz:fzO k e y with
     |none=>exact .inl rfl
     |some x'=>
      right;have hyne:y≠ .bad:=fun e=>by subst e;simp [fzO]at hfz
      rcases hs.T d y hy with h|⟨s,h1,h2⟩
      · exact absurd h hyne
      · simp only at h1 h2;refine⟨g d s,by simp only [b3q,h1];rfl,up _ _ ?_⟩;rcases hgs d s with⟨y2,x2,h3,h4,h5,_⟩|⟨h3,_⟩
        · rw [hy]at h3;cases h3;rw [hfz]at h4;cases h4;exact h5
        · exfalso;obtain⟨s',g1,g2,g3⟩:=b8i hz y s x' h2 hfz;exact h3 ⟨s',y,x',hy,hfz,g1,g2,h2.ne hyne,g3⟩
   · obtain⟨hjk,y,hy,rfl⟩:=c2P hx;obtain⟨e1,h1,h2⟩:=hs.H j y hy;simp only at h1 h2;simp only;rw [a8Q,a3J hjk,h1];cases y with
     |blk dcs ty=>
      cases e1 with
      |row=>exact h2.elim
      |mp=>exact h2.elim
      |blk b cs ty'=>
       obtain⟨rfl,h2⟩:=h2;refine⟨_,rfl, ?_⟩;simp only [fzE,a0I];refine⟨trivial,upL _ _ ?_⟩;rcases hqs j cs with⟨dcs',ty',h3,h4,_⟩|⟨h3,_⟩
       · rw [hy]at h3;cases h3;exact h4
       · exfalso;obtain⟨r',g1,g2,g3⟩:=b9m hz dcs cs h2;exact h3 ⟨r',dcs,ty,hy,g1,g2,g3⟩
     |row z n l ty=>
      cases e1 with
      |blk=>exact h2.elim
      |mp=>exact h2.elim
      |row v n' xs z' ty'=>
       refine⟨_,rfl, ?_⟩;simp only [a0I]at h2;simp only [fzE,a0I];exact⟨h2.1,h2.2.1,h2.2.2.1,j1.mono (fun b hb=>⟨(hks b).2 (hz.ok b hb),rfl⟩) _ _ h2.2.2.2.1,h2.2.2.2.2⟩
     |mp es ty=>
      cases e1 with
      |blk=>exact h2.elim
      |row=>exact h2.elim
      |mp b es' ty'=>exact⟨_,rfl,h2⟩
 · intro d s hd;simp only [b3q]at hd;cases hl:u1 T d with
   |none=>rw [hl]at hd;cases hd
   |some s0=>
    rw [hl]at hd;simp only [a3j,M9]at hd;rcases hgs d s0 with⟨x,x',h3,h4,h5,h6,h7,_⟩|⟨_,h3⟩
    · right;refine⟨s0,rfl,h7, ?_⟩;simp only;rw [hden,←hd];exact h6
    · left;rw [←hd];exact h3
 · intro l r l' hl hfl;obtain⟨r',g1,g2,_⟩:=a1J hz l r l' hl hfl;refine⟨r',upL _ _ g1, ?_⟩;simp only;rw [←g2,K8,K8];exact List.map_congr_left fun s _=>hden s
end
mutual
theorem a8e {ok ok':Nat→Prop} {w w':World}:∀(x:D) (y:Value),Rep ok w x y→a3c x=true→Rep ok' w' x y
 | .v x,y,h,_=>h
 | .agg l,y,h,hc=>by
  simp only [Rep]at h⊢;obtain⟨a,h1,h2,h3⟩:=h;exact⟨a,h1,a8C l _ h2 (by simpa [a3c]using hc),h3⟩
 | .tup l,y,h,hc=>by
  simp only [Rep]at h⊢;obtain⟨a,h1,h2⟩:=h;exact⟨a,h1,a8C l _ h2 (by simpa [a3c]using hc)⟩
 | .lst _ _ _,_,_,h=>by simp [a3c]at h
 | .ptr _ _,_,_,h=>by simp [a3c]at h
 | .mp _,_,_,h=>by simp [a3c]at h
 | .fn _ _ _,_,_,h=>by simp [a3c]at h
 | .own _ _,_,_,h=>by simp [a3c]at h
 | .ownx _ _,_,_,h=>by simp [a3c]at h
 | .row _ _,_,_,h=>by simp [a3c]at h
 | .elr _ _ _ _,_,_,h=>by simp [a3c]at h
 | .osl _ _ _ _ _,_,_,h=>by simp [a3c]at h
 | .und,_,_,h=>by simp [a3c]at h
 | .bad,_,_,h=>by simp [a3c]at h
theorem a8C {ok ok':Nat→Prop} {w w':World}:∀(l:List D) (r:List Value),j1 ok w l r→b6H l=true→j1 ok' w' l r
 | [], [],_,_=>trivial
 |d::l,y::r,h,hc=>by
  simp only [j1]at h;simp only [b6H]at hc;split at hc
  · rename_i hd;exact⟨a8e d y h.1 hd,a8C l r h.2 hc⟩
  · cases hc
 | [],_::_,h,_=>by simp [j1]at h
 |_::_, [],h,_=>by simp [j1]at h
end
section
variable {A : Nat → Prop} {Xx : Cx} {X : Cy} {w0 : World} {bor : List Nat} {st : St} {sy : Sy} {a : Act} {w : World}
theorem b8w {s1 s2 s3:St} (h:c1y s1 s2) (h':c1y s2 s3):c1y s1 s3:=by
 intro d s hd;rcases h' d s hd with e|⟨t,h1,h2,h3⟩
 · exact .inl e
 · rcases h d t h1 with e|⟨u,h4,h5,h6⟩
   · exact absurd e h2
   · exact .inr ⟨u,h4,h5,by rw [h3,h6]⟩
theorem a3h (hA:∀b,(Xx.w0.heap.size≤b∨b∈Xx.bor)→A b):∀(ks:List Nat) {st:St} {sy sy':Sy} {l l':List D} {r:List SV},Cls Xx st.H st.nk w w→At st w→Sim A st sy→d9 (okS A st) w (u6 st) l r→a2F ks sy l=some (sy',l')→
 ∃st' r',Cls Xx st'.H st'.nk w w∧At st' w∧Sim A st' sy'∧a6h st'.H st.H∧c1y st st'∧d9 (okS A st') w (u6 st') l' r'∧l4 st'.H r'=l4 st.H r
 | [],st,sy,sy',l,l',r,hc,hat,hs,hl,h=>by
  simp only [a2F]at h;cases h
  exact⟨st,r,hc,hat,hs,a6h.refl _,fun d s h=>by
   by_cases hb:s= .bad
   · exact .inl hb
   · exact .inr ⟨s,h,hb,rfl⟩,hl,rfl⟩
 |k::ks,st,sy,sy',l,l',r,hc,hat,hs,hl,h=>by
  obtain⟨T,H,nk⟩:=sy;simp only [a2F]at h;split at h
  · rename_i e he;split at h
    · rename_i l1 hok hfl;simp only [b9A,b9S]at h;obtain⟨st1,c1,a1,s1,b1,n1,o1,f1⟩:=c4v hA hc hat hs he hok;obtain⟨r1,g1,g2⟩:=f1 l r l1 hl hfl;obtain⟨st2,r2,c2,a2,s2,b2,o2,g3,g4⟩:=a3h hA ks c1 a1 s1 g1 h;exact⟨st2,r2,c2,a2,s2,b2.trans b1,b8w o1 o2,g3,by rw [g4,g2]⟩
    · cases h
  · cases h
def now (st:St) (w:World):St:=⟨st.T,st.H,st.nk,w,w.heap.size, []⟩
theorem Rel.now (hr:Rel Xx st a w):Rel Xx (now st w) a w:=by
 refine⟨hr.size,hr.T,hr.dfs, ?_,u0 _,by simp [Sx.now]⟩;have hc:=hr.cls;exact⟨Fx.refl _ _,hc.fx0,hc.own,hc.nd,hc.lb,hc.keys,hc.lt⟩
theorem a2Z (hc:Cls Xx st.H st.nk st.w w):∀b,okS A st b→okS A (now st w) b∧w.heap[b]?=st.w.heap[b]?:=fun b hb=>
 ⟨⟨⟨.inl (E3 hb.2.1 hc.fx.size),hb.1.2⟩,E3 hb.2.1 hc.fx.size,hb.2.2⟩,hc.fx.block b hb.2.1 hb.2.2⟩
theorem Sim.now (hs:Sim A st sy) (hc:Cls Xx st.H st.nk st.w w):Sim A (now st w) sy:=by
 obtain⟨T,H,nk⟩:=sy;exact hs.mono (a2Z hc) (fun _ _ h=>h) (fun _ _ h=>h) (fun _ _ h=>h) rfl hs.fT hs.fH
theorem d9.now {l:List D} {r:List SV} (h:d9 (okS A st) st.w (u6 st) l r) (hc:Cls Xx st.H st.nk st.w w):d9 (okS A (now st w)) w (u6 (now st w)) l r:=d9.mono (a2Z hc) (fun _ _ h=>h) _ _ h
theorem Rel.past {w':World} (hr:Rel Xx st a w) (hb:Below w.heap.size w w'):Rel Xx (Sx.now st w') a w':=by
 have hc:=hr.cls;have hown:∀b,b∈bs st.H→w'.heap[b]?=w.heap[b]?:=fun b hbm=>hb.block b (hc.lt_size hbm)
 exact⟨hr.size,hr.T,hr.dfs,⟨Fx.refl _ _,hc.fx0.of_below hb,fun k e he=>M3 (hc.own k e he) fun b hbe=>hown b (u2.2 ⟨k,e,he,hbe⟩),hc.nd,hc.lb,hc.keys,hc.lt⟩,u0 _,by simp [Sx.now]⟩
theorem b4C {w':World} (hc:Cls Xx st.H st.nk st.w w) (hb:Below w.heap.size w w'):∀b,okS A st b→okS A (now st w') b∧w'.heap[b]?=st.w.heap[b]?:=fun b h=>
 ⟨⟨⟨.inl (E3 h.2.1 (r7 hc.fx.size hb.size)),h.1.2⟩,E3 h.2.1 (r7 hc.fx.size hb.size),h.2.2⟩,by
  rw [hb.block b (E3 h.2.1 hc.fx.size)];exact hc.fx.block b h.2.1 h.2.2⟩
theorem Sim.past {w':World} (hs:Sim A st sy) (hc:Cls Xx st.H st.nk st.w w) (hb:Below w.heap.size w w'):Sim A (Sx.now st w') sy:=by
 obtain⟨T,H,nk⟩:=sy;exact hs.mono (b4C hc hb) (fun _ _ h=>h) (fun _ _ h=>h) (fun _ _ h=>h) rfl hs.fT hs.fH
def LvY (A:Nat→Prop) (Xx:Cx) (H:Hp) (w:World) (KY:Sy→Prop) (a':Act) (w':World):Prop:=∃st' sy',KY sy'∧Sim A st' sy'∧Lv Xx H w st' a' w'
theorem a3P (v:Value):(n9 v).Nodup:=by unfold n9;split<;>simp
theorem b2S {k b:Nat} {e e':Ent}:∀ {H:Hp},(bs H).Nodup→e8 H k=some e→b∈bsE e→b∉bsE e'→b∉bs (U5 H k e')
 | [],_,h,_,_=>by simp [e8]at h
 |(j,ej)::H,hn,h,hb,hb'=>by
  simp only [bs,a3z]at hn;simp only [e8]at h;simp only [U5];cases hj:Nat.beq j k with
  |true=>
   rw [hj]at h;cases h;simp only [bs,B2,not_or];exact⟨hb',fun hm=>hn.2.2 b hb b hm rfl⟩
  |false=>
   rw [hj]at h;simp only [bs,B2,not_or];exact⟨fun hm=>hn.2.2 b hm b (u2.2 ⟨k,e,l5 h,hb⟩) rfl,b2S hn.2.1 h hb hb'⟩
theorem c2a {k:Nat} {v v':Value} {n n' z z' ty ty':Nat} {xs xs':List Value} {w':World} (hr:Rel Xx st a w) (hat:At st w) (hf:e8 st.H k=some (.row v n xs z ty)) (hfx:Fx (n9 v) w w') (hown:w'.ownsRow 0 ty' z' v' n' xs')
 (hb:∀b,b∈n9 v'→b∈n9 v∨w.heap.size≤b):Rel Xx ⟨V3 k st.T,U5 (w5 k st.H) k (.row v' n' xs' z' ty'),st.nk,w',w'.heap.size, []⟩ a w':=by
 have hsplit:∃H1 H2,st.H=H1++(k, .row v n xs z ty)::H2∧(∀e',(k,e')∉H1):=by
  have:∀H:Hp,e8 H k=some (.row v n xs z ty)→∃H1 H2,H=H1++(k, .row v n xs z ty)::H2∧(∀e',(k,e')∉H1):=by
   intro H
   induction H with
   |nil=>intro h;simp [e8]at h
   |cons x H ih=>
    obtain⟨j,e⟩:=x;intro h;simp only [e8]at h;cases hb:Nat.beq j k with
    |true=>rw [hb]at h;cases h;have:=r6 hb;subst this;exact⟨[],H,rfl,by simp⟩
    |false=>
     rw [hb]at h;obtain⟨H1,H2,rfl,h1⟩:=ih h;refine⟨(j,e)::H1,H2,rfl,fun e' hm=> ?_⟩;rcases o5.1 hm with hm|hm
     · cases hm;exact a0L hb rfl
     · exact h1 e' hm
  exact this _ hf
 obtain⟨H1,H2,hH,hk1⟩:=hsplit
 have hupd:∀e,U5 (w5 k st.H) k e=w5 k H1++(k,e)::w5 k H2:=by
  intro e;rw [hH];clear hH hf
  induction H1 with
  |nil=>simp [w5,U5]
  |cons x H1 ih=>
   obtain⟨j,ej⟩:=x;have hj:j≠k:=fun e=>hk1 ej (by rw [e];exact F5)
   simp only [S0,w5,U5,J2 hj];rw [ih fun e' hm=>hk1 e' (A9 _ hm)]
 have hc:=hr.cls;have hcw:Cls Xx st.H st.nk w w:=⟨Fx.refl _ _,hc.fx0,hc.own,hc.nd,hc.lb,hc.keys,hc.lt⟩;have hnin:∀i,i∉n9 v→∀b,b∈n9 v→b≠i:=fun i hi b hb e=>hi (e▸hb)
 obtain⟨hcls,hden⟩:=hcw.grow (v':=v') (n:=n') (sz:=z') (ty:=ty') (xs:=xs') hH hk1 hown (fun i hi hn=>hfx.block i hi (hnin i (by simpa [bsE]using hn))) hfx.size hfx.os hfx.tape hfx.output (by simpa [bsE]using hb)
  (fun b hb=>hc.lb b (u2.2 ⟨k,_,l5 hf,hb⟩))
 refine⟨hr.size,fun d s hlk=> ?_,hr.dfs,by rw [hupd];exact hcls,u0 _,by simp⟩;rcases a8r hlk with h|⟨h,hm⟩
 · exact .inl h
 · rcases hr.T d s h with h|h
   · exact .inl h
   · right;rw [h];simp only;rw [hupd,hden s hm]
theorem a8o {k:Nat} {e:Ent}:∀ {H:Hp},e8 H k=some e→∃H1 H2,H=H1++(k,e)::H2∧(∀e',(k,e')∉H1)∧∀e',U5 H k e'=H1++(k,e')::H2
 | [],h=>by simp [e8]at h
 |(j,ej)::H,h=>by
  simp only [e8]at h;cases hb:Nat.beq j k with
  |true=>rw [hb]at h;cases h;have:=r6 hb;subst this;exact⟨[],H,rfl,by simp,fun e'=>by simp [U5]⟩
  |false=>
   rw [hb]at h;obtain⟨H1,H2,rfl,h1,h2⟩:=a8o h;refine⟨(j,ej)::H1,H2,rfl,fun e' hm=> ?_,fun e'=>by simp only [U5,hb,h2];rfl⟩;rcases o5.1 hm with hm|hm
   · cases hm;exact a0L hb rfl
   · exact h1 e' hm
theorem c1n {v:Value} {w w':World} (h:Fx (n9 v) w w') (hlt:∀b,b∈n9 v→b<w.heap.size):∃w1,Below w.heap.size w w1∧w'.heap.size=w1.heap.size∧(∀i,i∉n9 v→w'.heap[i]?=w1.heap[i]?)∧w'.os=w1.os∧w'.tape=w1.tape∧w'.output=w1.output:=by
 have hcases:n9 v= []∨∃g,n9 v= [g]:=by
  unfold n9;split
  · exact .inr ⟨_,rfl⟩
  · exact .inl rfl
 rcases hcases with h0|⟨g,h0⟩
 · rw [h0]at h⊢;exact⟨w',⟨h.os,h.tape,h.output,h.size,fun i hi=>h.block i hi (by simp)⟩,rfl,fun _ _=>rfl,rfl,rfl,rfl⟩
 · rw [h0]at h hlt⊢;have hg:=hlt g (by simp);refine⟨{ w' with heap:=w'.heap.setIfInBounds g (w.heap[g]'hg)},⟨h.os,h.tape,h.output,by simpa using h.size,fun i hi=> ?_⟩,by simp,fun i hi=> ?_,rfl,rfl,rfl⟩
   · simp only [Array.getElem?_setIfInBounds];by_cases e:g=i
     · subst e;rw [e9 rfl,e9 (E3 hg h.size),a1l hg]
     · rw [i6 e];exact h.block i hi (by simpa using e)
   · simp only [Array.getElem?_setIfInBounds];rw [i6 (fun e=>hi (by simp [e]))]
theorem c3O {A:Nat→Prop} {X:Cy} {w0:World} {bor:List Nat} {st1:St} {sy1:Sy} {H0:Hp} {a:Act} {w w':World} {KY:Sy→Prop} {dst:Option Nat} {k z n ty:Nat} {v:Value} {xs:List Value} {l':List D}
 (hr1:Rel (cx X w0 bor) st1 a w) (a1:At st1 w) (s1:Sim A st1 sy1) (b1:a6h st1.H H0) (hf':e8 st1.H k=some (.row v n xs z ty)) (hk:F8 X ⟨sy1.T,a7z sy1.H k (.row z n l' ty),sy1.nk⟩ dst (.tup []) KY)
 (hrow:a7N (fun b=>okS A st1 b∧b∉n9 v) w' z n l' ty v) (hfx:Fx (n9 v) w w'):∃st' sy',KY sy'∧Sim A st' sy'∧Lv (cx X w0 bor) H0 w st' (a.put dst (.tuple #[])) w':=by
 obtain⟨T,H,nk⟩:=sy1;obtain⟨T',H',nk',ws,lo,iv⟩:=st1;obtain⟨h1,h2,h3⟩:=a1;simp only at h1 h2 h3;subst h1 h2 h3;have c1:Cls (cx X w0 bor) H' nk' ws ws:=hr1.cls;have hlt:∀b,b∈n9 v→b<ws.heap.size:=fun b hb=>c1.lt_size (u2.2 ⟨k,_,l5 hf',hb⟩)
 obtain⟨w1,hb1,hz1,hh1,ho1,ho2,ho3⟩:=c1n hfx hlt;have hr2:=hr1.past hb1;have s2:=s1.past c1 hb1;obtain⟨xs',hown',hrp,hfl',hlen'⟩:=hrow;simp only at hf';obtain⟨H1,H2,hH,hk1,hupd⟩:=a8o hf'
 have hd:∀j,bOf (H1++(k, .row v n xs' z ty)::H2) j=bOf (H1++(k, .row v n xs z ty)::H2) j∧l3 (H1++(k, .row v n xs' z ty)::H2) j=l3 (H1++(k, .row v n xs z ty)::H2) j:=by
  intro j;simp only [bOf,l3,S7 (e:= .row v n xs' z ty) (e0:= .row v n xs z ty) hk1];by_cases hj:j=k
  · subst hj;simp [R2 hk1]
  · simp [hj]
 have hr3:Rel (cx X w0 bor) ⟨T',H1++(k, .row v n xs' z ty)::H2,nk',w1,w1.heap.size, []⟩ a w':=by
  have hr2':Rel (cx X w0 bor) ⟨T',H1++(k, .row v n xs z ty)::H2,nk',w1,w1.heap.size, []⟩ a w1:=by
   have:=hr2;unfold Sx.now at this;simp only at this;rw [hH]at this;exact this
  exact hr2'.swap rfl hd hz1 hh1 ho1 ho2 ho3 hown'
 have hr4:=hr3.now
 have s3:Sim A ⟨T',U5 H' k (.row v n xs' z ty),nk',w1,w1.heap.size, []⟩ ⟨T,a7z H k (.row z n l' ty),nk⟩:=by
  refine b0l (e0:= .row v n xs z ty) s2 hf' ?_ rfl (fun _=>rfl) fun j hj=>rfl
  refine⟨rfl,rfl,rfl,j1.mono (fun b hb=>⟨?_,(hh1 b hb.2).symm⟩) _ _ hrp,hfl',hlen'⟩;exact(b4C c1 hb1 b hb.1).1
 rw [hupd]at s3;have s4:=s3.now hr3.cls;have hput:=y4 (w0:=w0) (bor:=bor) (s:= .v (.tuple #[])) hk s4 (by simp only [d8];exact .inr ⟨_,rfl,trivial⟩);obtain⟨st2,⟨sy2,g1,g2⟩,g3,g4⟩:=R4 hr4 hput (v:= .tuple #[]) (.inr rfl);refine⟨st2,sy2,g1,g2,g3,hfx.wide fun b hb=>b1.bs b (u2.2 ⟨k,_,l5 hf',hb⟩),fun b hb2=> .inl ?_⟩;rw [g4]at hb2;refine b1.bs b ?_;have:bs (H1++(k,Ent.row v n xs' z ty)::H2)=bs H':=by rw [hH];exact a7l rfl
 rw [←this];exact hb2
theorem c0u (hA:AG A X.P w0 bor) {o:Oper} {Q:Exit→Act→World→Prop} {KY:Sy→Prop} {f:FuncId} {args:List D} {args':List SV} (hr:Rel (cx X w0 bor) st a w) (hs:Sim A st sy) (ha:d9 (okS A st) st.w (u6 st) args args')
 (h:match(generalizing:=false) true,args with
 |true,x::rest=>match a2F (b9j sy.H rest) sy (x::rest)with
  |some (st', .row k _::fa)=>match J7 fa,j7 st'.H k with
   |true,some e=>(c1X X.P f k e fa st' fun sy' x=>F8 X sy' o.dst x KY)∨(c5l X.P f k e fa st' fun sy' x=>F8 X sy' o.dst x KY)
   |_,_=>False
  |_=>False
 |_,_=>False) (hout:Y1 (cx X w0 bor) st a o (.call f args')):o.wp X.P a w (LvY A (cx X w0 bor) st.H w KY) Q:=by
 have hr0:=hr.now;have hs0:=hs.now hr.cls;have ha0:=ha.now hr.cls;split at h
 · rename_i x rest _ _;split at h
   · rename_i sy1 k z0 fa hfz;split at h
     · rename_i e hcl hfe;obtain⟨st1,l1,c1,a1,s1,b1,o1,g1,g2⟩:=a3h (Xx:=cx X w0 bor) hA.a _ hr0.cls ⟨rfl,rfl,rfl⟩ hs0 ha0 hfz
       have hr1:Rel (cx X w0 bor) st1 a w:=by
        refine⟨hr.size,fun d s hd=> ?_,hr.dfs, ?_, ?_, ?_⟩
        · rcases o1 d s hd with e|⟨s0,h1,h2,h3⟩
          · exact .inl e
          · rcases hr0.T d s0 h1 with e|e
            · exact absurd e h2
            · right;rw [e,h3]
        · rw [a1.1];exact c1
        · rw [a1.2.1];exact u0 _
        · rw [a1.2.2];simp
       cases l1 with
       |nil=>simp [d9]at g1
       |cons s0 fa'=>
        simp only [d9]at g1;obtain⟨g0,g1⟩:=g1;simp only [d8]at g0;obtain⟨rfl,hkey⟩:=g0;obtain⟨e',hf',he⟩:=s1.H _ _ hfe;cases e with
        |blk=>rcases h with h|h<;>(obtain⟨z,n,l,ty,_⟩:=h.ex;simp_all)
        |mp=>rcases h with h|h<;>(obtain⟨z,n,l,ty,_⟩:=h.ex;simp_all)
        |row z n l ty=>
        cases e' with
        |blk=>exact he.elim
        |mp=>exact he.elim
        |row v n1 xs z1 ty1=>
         obtain⟨rfl,rfl,rfl,hrep,hfl,hlen⟩:=he;rw [a1.1]at hrep;have hown:=c1.row hf';have hdv:den st1.H (.row k)=v:=by simp [den,l3,hf']
         have hrepA:=B8 (H:=st1.H) _ _ g1 hcl;have hnok:∀b,b∈n9 v→¬okS A st1 b∧X.P.globals.size≤b:=fun b hb=>⟨fun hok=>hok.2.2 b (u2.2 ⟨k,_,l5 hf',hb⟩) rfl,hA.lb c1 (u2.2 ⟨k,_,l5 hf',hb⟩)⟩
         have hoksz:∀b,okS A st1 b→b<w.heap.size:=fun b hb=>by have:=hb.2.1;rw [a1.1]at this;exact this
         have hargs:(l4 st.H args').toArray=(v::l4 st1.H fa').toArray:=by
          have:l4 st1.H (.row k::fa')=l4 st.H args':=g2;rw [←this];simp only [l4,hdv]
         rcases h with h|h
         rotate_left
         · obtain⟨_,_,_,_,n',l',he1,⟨rfl,hd⟩,hk⟩:=h.ex;cases he1;have hcall:=hd (okS A st1) w v _ ⟨xs,hown,hrep,hfl,hlen⟩ hnok hrepA hoksz (hA.giw hr.cls);rw [←hargs]at hcall;have hbody:=R9 hcall fun e w' ⟨he,_⟩=>⟨_,he⟩
           unfold Oper.wp;rw [show(execOp a.eval o).run X.P w=_ from hout w hbody];simp only [Oper.upon];refine hcall.mono fun e w' ⟨he,hrow,hb⟩=> ?_
           subst he;simp only;exact c3O hr1 a1 s1 b1 hf' (a0A hk) hrow hb
         obtain⟨_,_,_,_,z',n',l',he1,hd,hk⟩:=h.ex;cases he1;have hcall:=hd (okS A st1) w v _ ⟨xs,hown,hrep,hfl,hlen⟩ hnok hrepA hoksz (hA.giw hr.cls);rw [←hargs]at hcall;have hbody:=R9 hcall fun e w' ⟨v',he,_⟩=>⟨_,he⟩
         unfold Oper.wp;rw [show(execOp a.eval o).run X.P w=_ from hout w hbody];simp only [Oper.upon];refine hcall.mono fun e w' ⟨v',he,hfr,⟨xs',hown',hrp,hfl',hlen'⟩,hb⟩=> ?_
         subst he;simp only;rw [a6a]at hk;have hk:=a0A hk;rw [a8G]at hk;have hrel2:=c2a hr1 a1 hf' hb hown' hfr;obtain⟨T,H,nk⟩:=sy1;obtain⟨T',H',nk',ws,lo,iv⟩:=st1;obtain⟨h1,h2,h3⟩:=a1;simp only at h1 h2 h3;subst h1 h2 h3;have hlt:∀c,c∈bs H'→c<ws.heap.size:=fun c hc=>c1.lt_size hc
         have hfxH:Fx (bs H') ws w':=hb.wide fun b hb=>u2.2 ⟨k,_,l5 hf',hb⟩
         have hsim:Sim A ⟨V3 k T',U5 (w5 k H') k (.row v' n' xs' z' ty),nk',w',w'.heap.size, []⟩ ⟨a3R k T,a7z (a3I k H) k (.row z' n' l' ty),nk⟩:=by
          refine c0A (lo:=ws.heap.size) (iv:= []) (w:=ws) s1 hf' (fun b hb=> ?_) hfxH (.inl rfl) ?_ hfl' hlen'
          · rcases hfr b hb with h|h
            · exact .inl (u2.2 ⟨k,_,l5 hf',h⟩)
            · exact .inr h
          · refine j1.mono (fun b hbk=>⟨?_,rfl⟩) _ _ hrp;obtain⟨hb1,hb2⟩:=hbk
            have hne:∀c,c∈bs (U5 (w5 k H') k (.row v' n' xs' z' ty))→c≠b:=by
             intro c hc e;subst e;rcases hb1 with hb1|hb1|hb1
             · rcases a8y hc with hc|hc
               · rw [a2G]at hc;exact hb1.2.2 c hc rfl
               · exact hb2 hc
             · exact b2S (by rw [a2G];exact c1.nd) (show e8 (w5 k H') k=some (U9 k _) by rw [E4,hf'];rfl) (by rw [a7G];exact hb1) hb2 hc
             · rcases a8y hc with hc|hc
               · rw [a2G]at hc;have:=hlt c hc;omega
               · exact hb2 hc
            rcases hb1 with hb1|hb1|hb1
            · exact⟨⟨.inl (E3 hb1.2.1 hb.size),hb1.1.2⟩,E3 hb1.2.1 hb.size,hne⟩
            · have hbm:b∈bs H':=u2.2 ⟨k,_,l5 hf',hb1⟩;have hlw:=E3 (hlt b hbm) hb.size;exact⟨⟨.inl hlw,hA.a b (c1.lb b hbm).symm⟩,hlw,hne⟩
            · exact⟨⟨.inl hb1.2,hA.a b (.inl (r7 c1.fx0.size hb1.1))⟩,hb1.2,hne⟩
         have hfu:e8 (U5 (w5 k H') k (.row v' n' xs' z' ty)) k=some (.row v' n' xs' z' ty):=by
          rw [U2 (e0:=U9 k _) (by rw [E4,hf'];rfl)];simp
         have hput:=y4 (w0:=w0) (bor:=bor) (s:= .row k) hk hsim (by simp only [d8];exact⟨trivial,hkey.1,fun _=>⟨_,hfu,rfl⟩⟩);obtain⟨st2,⟨sy2,h1,h2⟩,h3,h4⟩:=R4 hrel2 hput (v:=v') (.inr (by simp [den,l3,hfu]));refine⟨st2,sy2,h1,h2,h3,hb.wide fun b hb=>b1.bs b (u2.2 ⟨k,_,l5 hf',hb⟩),fun b hb2=> ?_⟩;rw [h4]at hb2;rcases a8y hb2 with hb2|hb2
         · rw [a2G]at hb2;exact .inl (b1.bs b hb2)
         · rcases hfr b hb2 with h|h
           · exact .inl (b1.bs b (u2.2 ⟨k,_,l5 hf',h⟩))
           · exact .inr h
     · exact h.elim
   · exact h.elim
 · exact h.elim
def LvK (A:Nat→Prop) (Xx:Cx) (H:Hp) (w:World) (KY:Sy→Prop) (a':Act) (w':World):Prop:=∃st' sy',KY sy'∧Sim A st' sy'∧Lv Xx H w st' a' w'∧(∀i,i<w.heap.size→w'.heap[i]?=w.heap[i]?)∧KB H w st'.H
theorem b7M (hA:AG A X.P w0 bor) {o:Oper} {Q:Exit→Act→World→Prop} {KY:Sy→Prop} {f:FuncId} {args:List D} {args':List SV} (hr:Rel (cx X w0 bor) st a w) (hs:Sim A st sy) (ha:d9 (okS A st) st.w (u6 st) args args')
 (hcl:J7 args=true) (h:a5s X.P f args sy fun sy' x=>F8 X sy' o.dst x KY) (hout:Y1 (cx X w0 bor) st a o (.call f args')):o.wp X.P a w (LvK A (cx X w0 bor) st.H w KY) Q:=by
 have hr0:=hr.now;have hs0:=hs.now hr.cls;have ha0:=ha.now hr.cls;obtain⟨z,n,l,ty,hd,hk⟩:=h.ex;have hrep:=B8 (H:=st.H) _ _ ha0 hcl;have hcall:=hd (okS A (now st w)) w _ hrep (fun b hb=>hb.2.1) (hA.giw hr.cls);have hbody:=R9 hcall fun e w' ⟨v,he,_⟩=>⟨_,he⟩
 unfold Oper.wp;rw [show(execOp a.eval o).run X.P w=_ from hout w hbody];simp only [Oper.upon];refine hcall.mono fun e w' ⟨v,he,hfr,⟨xs,hown,hrp,hfl,hlen⟩,hb⟩=> ?_
 subst he;simp only;obtain⟨T,H,nk⟩:=sy;obtain⟨T',H',nk',ws,lo,iv⟩:=st;have hnk:nk=nk':=hs.nk;subst hnk;have hownB:=a3P v;have hblk:∀i,i<w.heap.size→w'.heap[i]?=w.heap[i]?:=fun i hi=>hb.block i hi
 have hrel:=hr0.cons (w':=w') (e:= .row v n xs z ty) (hs.fT nk (u0 _)) (hs.fH nk (u0 _)) hb.size hblk hb.os hb.tape hb.output hown hfr hownB;have hrel2:=hrel.now;have hlt:∀c,c∈bs H'→c<w.heap.size:=fun c hc=>hr.cls.lt_size hc
 have hsim:Sim A ⟨T',(nk, .row v n xs z ty)::H',nk+1,w',w'.heap.size, []⟩ ⟨T,(nk, .row z n l ty)::H,nk+1⟩:=by
  refine b5S (lo:=w.heap.size) (iv:= []) (w:=w) hs0 (fun b hb=> .inr (hfr b hb)) ((Fx.refl _ _).of_below hb) (.inl rfl) ?_ hfl hlen;refine j1.mono (fun b hbk=>⟨?_,rfl⟩) _ _ hrp;obtain⟨hb1,hb2⟩:=hbk
  have hne:∀c,c∈bs ((nk,Ent.row v n xs z ty)::H')→c≠b:=by
   intro c hc e;subst e;simp only [bs,bsE,B2]at hc;rcases hc with hc|hc
   · exact hb2 hc
   · rcases hb1 with hb1|hb1
     · exact hb1.2.2 c hc rfl
     · have:=hlt c hc;omega
  rcases hb1 with hb1|hb1
  · exact⟨⟨.inl (E3 hb1.2.1 hb.size),hb1.1.2⟩,E3 hb1.2.1 hb.size,hne⟩
  · exact⟨⟨.inl hb1.2,hA.a b (.inl (r7 hr.cls.fx0.size hb1.1))⟩,hb1.2,hne⟩
 have hput:=y4 (w0:=w0) (bor:=bor) (s:= .row nk) hk hsim (by simp only [d8];exact⟨trivial,by simp only;omega,fun _=>⟨_,by simp only [e8,Nat.beq_refl];rfl,rfl⟩⟩);obtain⟨st2,⟨sy2,h1,h2⟩,h3,h4⟩:=R4 hrel2 hput (v:=v) (.inr (by simp [den,l3,now,e8]));refine⟨st2,sy2,h1,h2,⟨h3,(Fx.refl _ _).of_below hb,fun b hb2=> ?_⟩,hblk,fun k e hm b hb2=> ?_⟩
 rotate_left
 · rw [h4]at hm;simp only [now]at hm;rcases o5.1 hm with hm|hm
   · cases hm;exact .inl (hfr b hb2)
   · exact .inr ⟨e,hm,hb2⟩
 rw [h4]at hb2;simp only [now,bs,bsE,B2]at hb2;rcases hb2 with hb2|hb2
 · exact .inr (hfr b hb2)
 · exact .inl hb2
abbrev b2y:=Value×Nat×List Value×Nat×TypeId
def P4:Nat→List b2y→Hp→Hp
 |_, [],H=>H
 |k,(v,n,xs,z,ty)::rs,H=>P4 (k+1) rs ((k, .row v n xs z ty)::H)
theorem b0T:∀(rs:List b2y) (k:Nat) (H:Hp) (b:Nat),b∈bs (P4 k rs H)↔b∈bs H∨b∈rs.flatMap fun r=>n9 r.1
 | [],k,H,b=>by simp [P4]
 |(v,n,xs,z,ty)::rs,k,H,b=>by
  rw [P4,b0T rs];simp only [bs,bsE,B2,L3];constructor
  · rintro((h|h)|h)
    · exact .inr (.inl h)
    · exact .inl h
    · exact .inr (.inr h)
  · rintro(h|h|h)
    · exact .inl (.inr h)
    · exact .inl (.inl h)
    · exact .inr h
theorem b3m:∀(rs:List b2y) (k:Nat) (H:Hp) (j:Nat) (e:Ent),(j,e)∈P4 k rs H→(j,e)∈H∨(∀b,b∈bsE e→b∈rs.flatMap fun r=>n9 r.1)
 | [],k,H,j,e,h=> .inl h
 |(v,n,xs,z,ty)::rs,k,H,j,e,h=>by
  rw [P4]at h;rcases b3m rs _ _ _ _ h with h|h
  · rcases o5.1 h with h|h
    · cases h;exact .inr fun b hb=>by simp only [L3,B2];exact .inl hb
    · exact .inl h
  · exact .inr fun b hb=>by simp only [L3,B2];exact .inr (h b hb)
theorem a9f {j:Nat}:∀(rs:List b2y) (k:Nat) (H:Hp),u3 j H=true→u3 j (P4 k rs H)=true
 | [],_,_,h=>h
 |(v,n,xs,z,ty)::rs,k,H,h=>a9f rs _ _ (by simpa [u3]using h)
theorem V7 {k:Nat}:∀(rs:List b2y) (nk:Nat) (H:Hp),k<nk→e8 (P4 nk rs H) k=e8 H k
 | [],_,_,_=>rfl
 |(v,n,xs,z,ty)::rs,nk,H,h=>by rw [P4,V7 rs _ _ (by omega),H5 (by omega)]
theorem a1w:∀(rs:List b2y) (nk:Nat) (H:Hp) (i:Nat) (v:Value) (n:Nat) (xs:List Value) (z:Nat) (ty:TypeId),rs[i]?=some (v,n,xs,z,ty)→e8 (P4 nk rs H) (nk+i)=some (.row v n xs z ty)
 | [],_,_,_,_,_,_,_,_,h=>by simp at h
 |(v',n',xs',z',ty')::rs,nk,H,i,v,n,xs,z,ty,h=>by
  rw [P4];cases i with
  |zero=>
   simp at h;obtain⟨rfl,rfl,rfl,rfl,rfl⟩:=h;rw [Nat.add_zero,V7 rs _ _ (by omega)];simp [e8]
  |succ i=>
   have:=a1w rs (nk+1) ((nk, .row v' n' xs' z' ty')::H) i v n xs z ty (by simpa using h)
   rw [show nk+(i+1)=nk+1+i by omega];exact this
theorem a9A {k:Nat} {e:E}:∀(rs:List (Nat×Nat×List D×TypeId)) (nk:Nat) (H:Hy),(∀k e,j7 H k=some e→k<nk)→j7 (b6P nk rs H) k=some e→j7 H k=some e∧k<nk∨∃i z n l ty,k=nk+i∧rs[i]?=some (z,n,l,ty)∧e= .row z n l ty
 | [],nk,H,hl,h=> .inl ⟨h,hl _ _ h⟩
 |(z,n,l,ty)::rs,nk,H,hl,h=>by
  rw [b6P]at h
  rcases a9A rs (nk+1) _ (fun k e hk=>by
   simp only [j7]at hk;cases hb:Nat.beq nk k with
   |true=>have:=r6 hb;omega
   |false=>rw [hb]at hk;have:=hl _ _ hk;omega) h with⟨h,hlt⟩|⟨i,z',n',l',ty',rfl,h1,h2⟩
  · simp only [j7]at h;cases hb:Nat.beq nk k with
    |true=>
     rw [hb]at h;cases h;have:=r6 hb;subst this;exact .inr ⟨0,z,n,l,ty,rfl,rfl,rfl⟩
    |false=>
     rw [hb]at h;exact .inl ⟨h,by have:=a0L hb;omega⟩
  · exact .inr ⟨i+1,z',n',l',ty',by omega,by simpa using h1,h2⟩
theorem Rel.consL {Xx:Cx} {a:Act} {w:World} {T:List (Nat×SV)} {ws:World} {lo:Nat} {iv:List (Nat×Nat)}:∀(rs:List b2y) (H:Hp) (nk:Nat),Rel Xx ⟨T,H,nk,ws,lo,iv⟩ a w→(∀j,nk≤j→o7 j T=true)→(∀j,nk≤j→u3 j H=true)→
 (∀v n xs z ty,(v,n,xs,z,ty)∈rs→w.ownsRow 0 ty z v n xs)→(∀b,(b∈rs.flatMap fun r=>n9 r.1)→Xx.w0.heap.size≤b∧b∉bs H)→(rs.flatMap fun r=>n9 r.1).Nodup→Rel Xx ⟨T,P4 nk rs H,nk+rs.length,ws,lo,iv⟩ a w
 | [],_,_,hr,_,_,_,_,_=>hr
 |(v,n,xs,z,ty)::rs,H,nk,hr,hT,hH,ho,hb,hn=>by
  simp only [L3,a3z]at hn;have h1:=hr.consG (e:= .row v n xs z ty) (hT nk (u0 _)) (hH nk (u0 _)) (ho v n xs z ty F5) (fun b hb'=>hb b (by simp only [L3,B2];exact .inl hb')) (a3P v)
  have h2:=Rel.consL rs _ _ h1 (fun j hj=>hT j (Nat.le_of_succ_le hj)) (fun j hj=>by simpa [u3]using hH j (Nat.le_of_succ_le hj)) (fun v n xs z ty h=>ho v n xs z ty (A9 _ h)) (fun b hb'=>by
   have h3:=hb b (by simp only [L3,B2];exact .inr hb');refine⟨h3.1,fun hc=> ?_⟩;simp only [bs,bsE,B2]at hc;rcases hc with hc|hc
   · exact hn.2.2 b hc b hb' rfl
   · exact h3.2 hc) hn.2.1
  rw [P4,P0,show nk+(rs.length+1)=nk+1+rs.length by omega];exact h2
theorem a1f.choose {ok:Nat→Prop} {w:World}:∀ {rows:List (Nat×Nat×List D×TypeId)} {rv:List Value},a1f ok w rows rv→
 ∃rs:List b2y,rs.map (·.1)=rv∧rs.length=rows.length∧(∀v n xs z ty,((v,n,xs,z,ty):b2y)∈rs→w.ownsRow 0 ty z v n xs)∧
  ∀(i z n:Nat) (l:List D) (ty:TypeId),rows[i]?=some (z,n,l,ty)→∃(v:Value) (xs:List Value),rs[i]?=some ((v,n,xs,z,ty):b2y)∧j1 ok w l xs∧u7 l=true∧l.length=n*z
 | [], [],_=>⟨[],rfl,rfl,fun _ _ _ _ _ h=>by simp at h,fun _ _ _ _ _ h=>by simp at h⟩
 |(z,n,l,ty)::rows,v::rv,h=>by
  simp only [a1f]at h;obtain⟨⟨xs,h1,h2,h3,h4⟩,h5⟩:=h;obtain⟨rs,g1,g2,g3,g4⟩:=a1f.choose h5;refine⟨(v,n,xs,z,ty)::rs,by simp [g1],by simp [g2],fun v' n' xs' z' ty' hm=> ?_,fun i z' n' l' ty' hi=> ?_⟩
  · rcases o5.1 hm with hm|hm
    · cases hm;exact h1
    · exact g3 _ _ _ _ _ hm
  · cases i with
    |zero=>simp at hi;obtain⟨rfl,rfl,rfl,rfl⟩:=hi;exact⟨v,xs,rfl,h2,h3,h4⟩
    |succ i=>
     obtain⟨v',xs',e1,e2⟩:=g4 i z' n' l' ty' (by simpa using hi)
     exact⟨v',xs',by simpa using e1,e2⟩
 | [],_::_,h=>by simp [a1f]at h
 |_::_, [],h=>by simp [a1f]at h
theorem b7I (hA:AG A X.P w0 bor) {o:Oper} {Q:Exit→Act→World→Prop} {KY:Sy→Prop} {f:FuncId} {args:List D} {args':List SV} (hr:Rel (cx X w0 bor) st a w) (hs:Sim A st sy) (ha:d9 (okS A st) st.w (u6 st) args args')
 (hcl:J7 args=true) (h:b5H X.P f args sy fun sy' x=>F8 X sy' o.dst x KY) (hout:Y1 (cx X w0 bor) st a o (.call f args')):o.wp X.P a w (LvK A (cx X w0 bor) st.H w KY) Q:=by
 have hr0:=hr.now;have hs0:=hs.now hr.cls;have ha0:=ha.now hr.cls;obtain⟨rows,cells,⟨hfl,hd⟩,hk⟩:=h.ex;have hrep:=B8 (H:=st.H) _ _ ha0 hcl;have hcall:=hd (okS A (now st w)) w _ hrep (fun b hb=>hb.2.1) (hA.giw hr.cls);have hbody:=R9 hcall fun e w' ⟨v,rv,he,_⟩=>⟨_,he⟩
 unfold Oper.wp;rw [show(execOp a.eval o).run X.P w=_ from hout w hbody];simp only [Oper.upon];refine hcall.mono fun e w' hex=> ?_
 obtain⟨av,rv,he,hbl,hnd,hrows,hcells,hb⟩:=hex;subst he;simp only;obtain⟨T,H,nk⟩:=sy;obtain⟨T',H',nk',ws,lo,iv⟩:=st;have hnk:nk=nk':=hs.nk;subst hnk;obtain⟨rs,e1,e2,hown,hrow⟩:=hrows.choose;have hflat:(rs.flatMap fun r=>n9 r.1)=rv.flatMap n9:=by rw [←e1,List.flatMap_map]
 have hlt:∀c,c∈bs H'→c<w.heap.size:=fun c hc=>hr.cls.lt_size hc
 have hblk:∀i,i<w.heap.size→w'.heap[i]?=w.heap[i]?:=fun i hi=>hb.block i hi
 have hrel0:=hr0.past hb
 have hrel:Rel (cx X w0 bor) ⟨T',P4 nk rs H',nk+rs.length,w',w'.heap.size, []⟩ a w':=by
  refine Rel.consL rs H' nk hrel0 hs.fT hs.fH hown (fun b hb'=> ?_) (by rw [hflat];exact hnd);rw [hflat]at hb';have h1:=hbl b hb';exact⟨r7 hr.cls.fx0.size h1.1,fun hc=>by have:=hlt b hc;omega⟩
 have hne:∀b,(∀c,c∈bs H'→c≠b)→b∉rv.flatMap n9→∀c,c∈bs (P4 nk rs H')→c≠b:=by
  intro b h1 h2 c hc;rcases(b0T rs nk H' c).1 hc with hc|hc
  · exact h1 c hc
  · rw [hflat]at hc;exact fun e=>h2 (e▸hc)
 have hokN:∀b,((okS A (now ⟨T',H',nk,ws,lo,iv⟩ w) b∨(w.heap.size≤b∧b<w'.heap.size))∧b∉rv.flatMap n9)→okS A ⟨T',P4 nk rs H',nk+rs.length,w',w'.heap.size, []⟩ b:=by
  rintro b ⟨hb1,hb2⟩;rcases hb1 with hb1|hb1
  · exact⟨⟨.inl (E3 hb1.2.1 hb.size),hb1.1.2⟩,E3 hb1.2.1 hb.size,hne b hb1.2.2 hb2⟩
  · exact⟨⟨.inl hb1.2,hA.a b (.inl (r7 hr.cls.fx0.size hb1.1))⟩,hb1.2,hne b (fun c hc e=>by have:=hlt c hc;omega) hb2⟩
 have hokO:∀b,okS A (now ⟨T',H',nk,ws,lo,iv⟩ w) b→okS A ⟨T',P4 nk rs H',nk+rs.length,w',w'.heap.size, []⟩ b∧w'.heap[b]?=w.heap[b]?:=fun b hb1=>
  ⟨hokN b ⟨.inl hb1,fun hc=>by have h1:=(hbl b hc).1;have h2:=hb1.2.1;simp only [now]at h2;omega⟩,hblk b hb1.2.1⟩
 have hkO:∀q k,u6 (now ⟨T',H',nk,ws,lo,iv⟩ w) q k→u6 ⟨T',P4 nk rs H',nk+rs.length,w',w'.heap.size, []⟩ q k:=by
  intro q k ⟨h1,h2⟩;simp only [now]at h1;refine⟨by simp only;omega,fun hq=> ?_⟩;simp only;rw [V7 rs _ _ h1];exact h2 hq
 have hsim:Sim A ⟨T',P4 nk rs H',nk+rs.length,w',w'.heap.size, []⟩ ⟨T,b6P nk rows H,nk+rows.length⟩:=by
  refine⟨fun d x hx=> ?_,fun k e he=> ?_,by rw [e2],fun j hj=>hs.fT j (by simp only at hj⊢;omega),fun j hj=>a9f rs _ _ (hs.fH j (by simp only at hj⊢;omega))⟩
  · rcases hs0.T d x hx with h|⟨s,h1,h2⟩
    · exact .inl h
    · exact .inr ⟨s,h1,d8.mono hokO hkO _ _ h2⟩
  · have hyl:∀k e,j7 H k=some e→k<nk:=fun k e h=>by
     obtain⟨e',h1,_⟩:=hs.H k e h;exact hr.cls.lt k e' (l5 h1)
    rcases a9A rows nk H hyl he with⟨h1,h2⟩|⟨i,z,n,l,ty,rfl,h1,rfl⟩
    · obtain⟨e',g1,g2⟩:=hs0.H k e h1;exact⟨e',by rw [show(_:St).H=_ from rfl];simp only;rw [V7 rs _ _ h2];exact g1,a0I.mono hokO hkO g2⟩
    · obtain⟨v,xs,g1,g2,g3,g4⟩:=hrow i z n l ty h1;exact⟨_,a1w rs nk H' i v n xs z ty g1,rfl,rfl,rfl,j1.mono (fun b hb1=>⟨hokN b hb1,rfl⟩) _ _ g2,g3,g4⟩
 have hval:∃cs:List SV,d9 (okS A ⟨T',P4 nk rs H',nk+rs.length,w',w'.heap.size, []⟩) w' (u6 ⟨T',P4 nk rs H',nk+rs.length,w',w'.heap.size, []⟩) (shC nk cells) cs∧l4 (P4 nk rs H') cs=av:=by
  clear hfl hk hd hcall hbody
  induction cells generalizing av with
  |nil=>cases av with
   |nil=>exact⟨[],trivial,rfl⟩
   |cons=>simp [M2]at hcells
  |cons d cells ih=>cases av with
   |nil=>cases d<;>simp [M2]at hcells
   |cons y av=>
    have gen:Rep (fun b=>(okS A (now ⟨T',H',nk,ws,lo,iv⟩ w) b∨(w.heap.size≤b∧b<w'.heap.size))∧b∉rv.flatMap n9) w' d y→M2 (fun b=>(okS A (now ⟨T',H',nk,ws,lo,iv⟩ w) b∨(w.heap.size≤b∧b<w'.heap.size))∧b∉rv.flatMap n9) w' rv cells av→
     ∃cs:List SV,d9 (okS A ⟨T',P4 nk rs H',nk+rs.length,w',w'.heap.size, []⟩) w' (u6 ⟨T',P4 nk rs H',nk+rs.length,w',w'.heap.size, []⟩) (d::shC nk cells) cs∧l4 (P4 nk rs H') cs=y::av:=by
     intro h1 h2;obtain⟨cs,g1,g2⟩:=ih av h2;exact⟨.v y::cs,⟨Rep.rel _ _ (Rep.mono (fun b hb1=>⟨hokN b hb1,rfl⟩) _ _ h1),g1⟩,by simp [l4,den,g2]⟩
    cases d with
    |row i z=>
     simp only [M2]at hcells;obtain⟨h1,h2⟩:=hcells;obtain⟨cs,g1,g2⟩:=ih av h2
     have h3:∃r,rs[i]?=some r∧r.1=y:=by
      rw [←e1,List.getElem?_map]at h1;cases hri:rs[i]? with
      |none=>rw [hri]at h1;cases h1
      |some r=>rw [hri]at h1;exact⟨r,rfl,D6 h1⟩
     obtain⟨⟨v,n,xs,z',ty⟩,h3,rfl⟩:=h3;have h4:=a1w rs nk H' i v n xs z' ty h3;have hi:i<rs.length:=(I5.1 h3).1;refine⟨.row (nk+i)::cs,⟨?_,g1⟩,by simp [l4,den,l3,h4,g2]⟩;simp only [d8];exact⟨trivial,by simp only;omega,fun _=>⟨_,h4,rfl⟩⟩
    |_=>simp only [M2]at hcells;exact gen hcells.1 hcells.2
 obtain⟨cs,hcs,hden⟩:=hval
 have hflS:u7 (shC nk cells)=true:=by
  clear hcs hcells hk hd hcall hbody
  induction cells with
  |nil=>rfl
  |cons d l ih=>
   have h1:=u4 hfl F5;have h2:=ih (F0 fun x hx=>u4 hfl (A9 _ hx));cases d<;>simp [a2U]at h1<;>exact h2
 have hput:=y4 (w0:=w0) (bor:=bor) (s:= .agg cs) hk hsim (by simp only [d8];exact⟨cs,rfl,hcs,hflS⟩);obtain⟨st2,⟨sy2,h1,h2⟩,h3,h4⟩:=R4 hrel hput (v:= .agg av.toArray) (.inr (by simp [den,hden]));refine⟨st2,sy2,h1,h2,⟨h3,(Fx.refl _ _).of_below hb,fun b hb2=> ?_⟩,hblk,fun k e hm b hb2=> ?_⟩
 · rw [h4]at hb2;rcases(b0T rs nk H' b).1 hb2 with hb2|hb2
   · exact .inl hb2
   · rw [hflat]at hb2;exact .inr (hbl b hb2).1
 · rw [h4]at hm;rcases b3m rs nk H' k e hm with hm|hm
   · exact .inr ⟨e,hm,hb2⟩
   · have:=hm b hb2;rw [hflat]at this;exact .inl (hbl b this).1
theorem b1H (hA:AG A X.P w0 bor) {o:Oper} {Q:Exit→Act→World→Prop} {KY:Sy→Prop} {f:FuncId} {args:List D} {args':List SV} (hr:Rel (cx X w0 bor) st a w) (hs:Sim A st sy) (ha:d9 (okS A st) st.w (u6 st) args args')
 (hln:F2 f X.ln=false) (h:a9z X true f args sy fun sy' x=>F8 X sy' o.dst x KY) (hout:Y1 (cx X w0 bor) st a o (.call f args')):o.wp X.P a w (LvK A (cx X w0 bor) st.H w KY) Q:=by
 have hr0:=hr.now;have hs0:=hs.now hr.cls;have ha0:=ha.now hr.cls
 --the call itself,from some state
 have main:∀(st1:St) (args1:List SV) (fa:List D) (Qr:D→Prop),Cls (cx X w0 bor) st1.H st1.nk w w→At st1 w→d9 (okS A st1) w (u6 st1) fa args1→l4 st1.H args1=l4 st.H args'→J7 fa=true→q8 X.P f fa Qr→
  (∀v r w',Below w.heap.size w w'→Qr r→Rep (fun b=>okS A st1 b∨(w.heap.size≤b∧b<w'.heap.size)) w' r v→LvK A (cx X w0 bor) st.H w KY (a.put o.dst v) w')→o.wp X.P a w (LvK A (cx X w0 bor) st.H w KY) Q:=by
  intro st1 args1 fa Qr hc hat hfa hden hcl hd hk;have hrep:=B8 (H:=st1.H) _ _ hfa hcl;rw [hden]at hrep;have hcall:=hd (okS A st1) w _ hrep (fun b hb=>by have:=hb.2.1;rw [hat.1]at this;exact this) (hA.giw hr.cls);have hbody:=R9 hcall fun e w' ⟨v,r,he,_⟩=>⟨_,he⟩
  unfold Oper.wp;rw [show(execOp a.eval o).run X.P w=_ from hout w hbody];simp only [Oper.upon];refine hcall.mono fun e w' ⟨v,r,he,hq,hrp,hb⟩=> ?_
  subst he;exact hk v r w' hb hq hrp
 have done:∀(st1:St) (sy1:Sy) (v:Value) (r:D) (w':World),Rel (cx X w0 bor) st1 a w→Sim A st1 sy1→a6h st1.H st.H→Below w.heap.size w w'→d8 (okS A (now st1 w')) w' (u6 (now st1 w')) r (.v v)→F8 X sy1 o.dst r KY→LvK A (cx X w0 bor) st.H w KY (a.put o.dst v) w':=by
  intro st1 sy1 v r w' hr1 hs1 hsub hb hrd hp;have hput:=y4 (w0:=w0) (bor:=bor) hp (hs1.past hr1.cls hb) hrd;obtain⟨st2,⟨sy2,h1,h2⟩,h3,h4⟩:=R4 (hr1.past hb) hput (v:=v) (.inr rfl)
  exact⟨st2,sy2,h1,h2,⟨h3,(Fx.refl _ _).of_below hb,fun b hb2=> .inl (hsub.bs b (by rw [h4]at hb2;exact hb2))⟩,fun i hi=>hb.block i hi,fun k e hm b hb2=>by
   rw [h4]at hm;obtain⟨e0,g1,g2⟩:=hsub k e hm;exact .inr ⟨e0,g1,g2 b hb2⟩⟩
 have repOk:∀(st1:St) (w':World) (v:Value) (r:D),Cls (cx X w0 bor) st1.H st1.nk st1.w w→At st1 w→Below w.heap.size w w'→Rep (fun b=>okS A st1 b∨(w.heap.size≤b∧b<w'.heap.size)) w' r v→d8 (okS A (now st1 w')) w' (u6 (now st1 w')) r (.v v):=by
  intro st1 w' v r hc hat hb hrp;refine Rep.rel _ _ (Rep.mono (fun b hbk=>⟨?_,rfl⟩) _ _ hrp);rcases hbk with hbk|⟨h1,h2⟩
  · exact((b4C hc hb) b hbk).1
  · exact⟨⟨.inl h2,hA.a b (.inl (r7 hc.fx0.size h1))⟩,h2,fun c hcb e=>by have:=hc.lt_size hcb;omega⟩
 unfold a9z at h;split at h
 · rename_i hm;rw [hln]at hm;cases hm
 · split at h
   · rcases h with h|h
     · exact b7M hA hr hs ha (by assumption) h hout
     · exact b7I hA hr hs ha (by assumption) h hout
   · exact h.elim
 split at h
 · rename_i hcl;obtain⟨Qr,hd,hk⟩:=h.ex;refine main (now st w) args' args Qr hr0.cls ⟨rfl,rfl,rfl⟩ ha0 rfl hcl hd fun v r w' hb hq hrp=> ?_
   exact done (now st w) sy v r w' hr0 hs0 (a6h.refl _) hb (repOk (now st w) w' v r hr0.cls ⟨rfl,rfl,rfl⟩ hb hrp) (hk r hq)
 · split at h
   · rename_i sy' fa hfz;split at h
     · rename_i hcl;obtain⟨Qr,hd,hk⟩:=h.ex;obtain⟨st1,args1,c1,a1,s1,b1,o1,g1,g2⟩:=a3h (Xx:=cx X w0 bor) hA.a _ hr0.cls ⟨rfl,rfl,rfl⟩ hs0 ha0 hfz
       have hr1:Rel (cx X w0 bor) st1 a w:=by
        refine⟨hr.size,fun d s hd=> ?_,hr.dfs, ?_, ?_, ?_⟩
        · rcases o1 d s hd with e|⟨s0,h1,h2,h3⟩
          · exact .inl e
          · rcases hr0.T d s0 h1 with e|e
            · exact absurd e h2
            · right;rw [e,h3]
        · rw [a1.1];exact c1
        · rw [a1.2.1];exact u0 _
        · rw [a1.2.2];simp
       refine main st1 args1 fa Qr c1 a1 g1 g2 hcl hd fun v r w' hb hq hrp=> ?_
       have hkr:=hk r hq;cases hsc:a3c r with
       |true=>
        rw [hsc]at hkr;exact done (now st w) sy v r w' hr0 hs0 (a6h.refl _) hb (Rep.rel _ _ (a8e _ _ hrp hsc)) hkr
       |false=>
        rw [hsc]at hkr;exact done st1 sy' v r w' hr1 s1 b1 hb (repOk st1 w' v r hr1.cls a1 hb hrp) hkr
     · exact h.elim
   · exact h.elim
theorem b9X (hA:AG A X.P w0 bor) {o:Oper} {Q:Exit→Act→World→Prop} {KY:Sy→Prop} {f:FuncId} {args:List D} {args':List SV} (hr:Rel (cx X w0 bor) st a w) (hs:Sim A st sy) (ha:d9 (okS A st) st.w (u6 st) args args')
 (h:a9z X true f args sy fun sy' x=>F8 X sy' o.dst x KY) (hout:Y1 (cx X w0 bor) st a o (.call f args')):o.wp X.P a w (LvY A (cx X w0 bor) st.H w KY) Q:=by
 cases hln:F2 f X.ln with
 |true=>simp only [a9z,hln]at h;exact c0u hA hr hs ha h hout
 |false=>exact Oper.wp_mono (fun a' w' ⟨st2,sy2,g1,g2,g3,_⟩=>⟨st2,sy2,g1,g2,g3⟩) (b1H hA hr hs ha hln h hout)
theorem b7x (hA:AG A X.P w0 bor) {KY:Sy→Prop} {f:FuncId} {args:List D} {args':List SV} {dst:Option Nat} (hs:Sim A st sy) (ha:d9 (okS A st) st.w (u6 st) args args')
 (h:a9z X false f args sy fun sy' x=>F8 X sy' dst x KY):c2F (cx X w0 bor) false f args' st fun st' s=>put (cx X w0 bor) st' dst s fun st'=>∃sy',KY sy'∧Sim A st' sy':=by
 have fxok:∀n w1,st.w.heap.size≤n→n≤w1.heap.size→Fx (bs st.H) st.w w1→∀b,okS A st b→okS A ⟨st.T,st.H,st.nk,w1,st.lo,(n,w1.heap.size)::st.iv⟩ b∧w1.heap[b]?=st.w.heap[b]?:=by
  intro n w1 h1 h2 hfx b hb;refine⟨⟨⟨?_,hb.1.2⟩,E3 hb.2.1 hfx.size,hb.2.2⟩,hfx.block b hb.2.1 hb.2.2⟩;rcases hb.1.1 with h|⟨p,hp,h3⟩
  · exact .inl h
  · exact .inr ⟨p,A9 _ hp,h3⟩
 have simOk:∀n w1,st.w.heap.size≤n→n≤w1.heap.size→Fx (bs st.H) st.w w1→Sim A ⟨st.T,st.H,st.nk,w1,st.lo,(n,w1.heap.size)::st.iv⟩ sy:=by
  intro n w1 h1 h2 hfx;obtain⟨T,H,nk⟩:=sy;exact hs.mono (fxok n w1 h1 h2 hfx) (fun _ _ h=>h) (fun _ _ h=>h) (fun _ _ h=>h) rfl hs.fT hs.fH
 unfold a9z at h;split at h
 · exact h.elim
 · exact h.elim
 split at h
 · rename_i hcl;obtain⟨Qr,hd,hk⟩:=h.ex;refine⟨Value, .v,fun v n w1=>w0.heap.size≤n∧∃r,Qr r∧Rep (fun b=>(b<n∧okS A st b)∨(n≤b∧b<w1.heap.size)) w1 r v,fun wc hc=> ?_,fun v n w1 h1 h2 h3 hfx ⟨hw0,r,hq,hrp⟩=> ?_⟩
   · have hrep:=B8 (H:=st.H) _ _ (ha.now hc) hcl
     have hrep2:j1 (fun b=>b<wc.heap.size∧okS A st b) wc args (l4 st.H args'):=by
      have:=B8 (H:=st.H) _ _ ha hcl;refine j1.mono (fun b hb=>⟨⟨E3 hb.2.1 hc.fx.size,hb⟩,hc.fx.block b hb.2.1 hb.2.2⟩) _ _ this
     refine(hd _ wc _ hrep2 (fun b hb=>hb.1) (hA.giw hc)).mono fun e w' ⟨v,r,he,hq,hrp,hb⟩=> ?_
     exact⟨v,he,hb,hc.fx0.size,r,hq,hrp⟩
   · obtain⟨T',H',nk',w,lo,iv⟩:=st;refine y4 (hk r hq) (simOk n w1 h1 h2 hfx) (Rep.rel _ _ (Rep.mono (fun b hbk=>⟨?_,rfl⟩) _ _ hrp));rcases hbk with⟨_,hbk⟩|⟨h4,h5⟩
     · exact(fxok n w1 h1 h2 hfx b hbk).1
     · exact⟨⟨.inr ⟨_,F5,h4,h5⟩,hA.a b (.inl (r7 hw0 h4))⟩,h5,fun c hcb e=>by have:=h3 c hcb;omega⟩
 · split at h
   · rename_i sy' fa hfz;split at h
     · rename_i hcl;obtain⟨Qr,hd,hk⟩:=h.ex;refine⟨Value, .v,fun v n w1=>∃r,Qr r∧a3c r=true∧Rep (fun _=>False) w1 r v,fun wc hc=> ?_,fun v n w1 h1 h2 h3 hfx ⟨r,hq,hsc,hrp⟩=> ?_⟩
       · have hcn:Cls (cx X w0 bor) (now st wc).H (now st wc).nk wc wc:=⟨Fx.refl _ _,hc.fx0,hc.own,hc.nd,hc.lb,hc.keys,hc.lt⟩;obtain⟨st1,args1,c1,a1,s1,b1,o1,g1,g2⟩:=a3h (Xx:=cx X w0 bor) hA.a _ hcn ⟨rfl,rfl,rfl⟩ (hs.now hc) (ha.now hc) hfz;have hrep:=B8 (H:=st1.H) _ _ g1 hcl;rw [g2]at hrep;refine(hd (okS A st1) wc _ hrep (fun b hb=>by have:=hb.2.1;rw [a1.1]at this;exact this) (hA.giw hc)).mono fun e w' ⟨v,r,he,hq,hrp,hb⟩=> ?_
         have hkr:=hk r hq;cases hsc:a3c r with
         |true=>exact⟨v,he,hb,r,hq,hsc,a8e _ _ hrp hsc⟩
         |false=>rw [hsc]at hkr;exact hkr.elim
       · have hkr:=hk r hq;rw [hsc]at hkr;obtain⟨T',H',nk',w,lo,iv⟩:=st;exact y4 hkr (simOk n w1 h1 h2 hfx) (Rep.rel _ _ (a8e _ _ hrp hsc))
     · exact h.elim
   · exact h.elim
end
section
variable {A : Nat → Prop} {X : Cy} {w0 : World} {bor : List Nat} {st : St} {sy : Sy} {a : Act} {w : World}
theorem a3D (hA:AG A X.P w0 bor) {seq:Bool} {dst:Option Nat} {KY:Sy→Prop} {oy:a4D} {out:Out} (h:a4J X seq sy dst KY oy) (hr:a6Q st.H (okS A st) st.w (u6 st) oy out) (hs:Sim A st sy) (hc:seq=false∨∀f args,out≠ .call f args):
 fin (cx X w0 bor) seq st dst (fun st'=>∃sy',KY sy'∧Sim A st' sy') out:=by
 cases oy with
 |val x=>
  cases out<;>try exact hr.elim
  exact y4 h hs hr.1
 |new cs ty sl=>
  cases out<;>try exact hr.elim
  rename_i cs' ty' sl';obtain⟨rfl,h2,rfl⟩:=hr;obtain⟨T',H',nk',w,lo,iv⟩:=st;obtain⟨T,H,nk⟩:=sy;have hnk:nk=nk':=hs.nk;subst hnk;simp only [fin,hs.fT nk (u0 _),hs.fH nk (u0 _),h2.ment (fun q=>a7V (st:=⟨T',H',nk,w,lo,iv⟩) (u0 _) q)];refine .inl fun b hb hiv=> ?_
  refine y4 h (c3X hs h2 hb hiv) ?_;cases sl with
  |none=>simp only [d8,Option.map_none];exact⟨trivial,by simp only;omega,by simp⟩
  |some p=>obtain⟨z,n⟩:=p;simp only [d8,a3j];exact⟨trivial,by simp only;omega,by simp⟩
 |newR l ty z n=>
  cases out<;>try exact hr.elim
  rename_i cs' ty' sl';obtain⟨rfl,rfl,hlen,hnm,hfl,xs,rfl,hrep⟩:=hr;obtain⟨T',H',nk',w,lo,iv⟩:=st;obtain⟨T,H,nk⟩:=sy;have hnk:nk=nk':=hs.nk;subst hnk;simp only [fin,hs.fT nk (u0 _),hs.fH nk (u0 _),b0k];refine .inr ⟨n,z,⟨rfl,by rw [b3B,←hrep.length,hlen],hnm,(j1.rel (R:=u6 ⟨T',H',nk,w,lo,iv⟩) _ _ hrep).one (b3p _) hfl⟩,fun b hb hiv=> ?_⟩;rw [C8];refine y4 h (c2A hs hrep hfl hlen hb hiv) ?_;simp only [d8];exact⟨trivial,by simp only;omega,fun _=>⟨_,by simp only [e8,Nat.beq_refl];rfl,rfl⟩⟩
 |call f args=>
  cases out<;>try exact hr.elim
  obtain⟨rfl,h2⟩:=hr;rcases hc with rfl|hc
  · simp only [a4J]at h;split at h
    · exact h.elim
    · exact b7x hA hs h2 h
  · exact absurd rfl (hc _ _)
 |upd k cs=>
  cases out<;>try exact hr.elim
  obtain⟨rfl,h2⟩:=hr;obtain⟨T',H',nk',w,lo,iv⟩:=st;obtain⟨T,H,nk⟩:=sy;simp only [a4J]at h;cases hf:j7 H k with
  |none=>rw [hf]at h;exact h.elim
  |some e=>
   rw [hf]at h;cases e with
   |row=>exact h.elim
   |mp=>exact h.elim
   |blk cs0 ty=>
    obtain⟨e',hf',he⟩:=hs.H _ _ hf;cases e' with
    |row=>exact he.elim
    |mp=>exact he.elim
    |blk b cs' ty'=>
     simp only at hf';obtain⟨rfl,_⟩:=he;have h:=a0A h;simp only [fin,hf'];refine a3U hf' ?_;refine y4 h (b0l (e':= .blk b _ _) hs hf' (by exact⟨rfl,h2⟩) rfl (fun h=>by cases h) fun j hj=> ?_) (by simp only [d8]);simp only [a4k,a4p];exact h2.ment (fun q=>a7V (st:=⟨T',H',nk',w,lo,iv⟩) hj q)
 |updR k l=>
  cases out<;>try exact hr.elim
  obtain⟨rfl,h2,h3,h6⟩:=hr;obtain⟨T',H',nk',w,lo,iv⟩:=st;obtain⟨T,H,nk⟩:=sy;simp only [a4J]at h;cases hf:j7 H k with
  |none=>rw [hf]at h;exact h.elim
  |some e=>
   rw [hf]at h;cases e with
   |blk=>exact h.elim
   |mp=>exact h.elim
   |row z n l0 ty=>
    obtain⟨e',hf',he⟩:=hs.H _ _ hf;cases e' with
    |blk=>exact he.elim
    |mp=>exact he.elim
    |row v n' xs z' ty'=>
     simp only at hf';obtain⟨rfl,rfl,rfl,h4,h5,h7⟩:=he;have h:=a0A h;simp only [fin,hf'];refine a3U hf' ?_;exact y4 h (b0l (e':= .row v n _ z ty) hs hf' (by exact⟨rfl,rfl,rfl,h2,h3,h6 _ _ _ _ _ hf'⟩) rfl (fun _=>rfl) fun j hj=>rfl) (by simp only [d8])
 |app e esz bytes s x=>
  cases out<;>try exact hr.elim
  obtain⟨rfl,rfl,rfl,h4,h5⟩:=hr;exact c4g h hs h4 h5
theorem a8F {ops:List Oper} {g:Option (Nat×Bool)} {yesY noY:Sy→Prop} {yes no:St→Prop} (h:a0D ops g sy yesY noY) (hs:Sim A st sy) (h1:∀st' sy',Sim A st' sy'→yesY sy'→yes st') (h2:∀st' sy',Sim A st' sy'→noY sy'→no st'):a2H ops g st yes no:=by
 unfold a0D at h;split at h
 · exact h1 _ _ hs h
 · rename_i j want;split at h
   · rename_i d hd;obtain⟨T',H',nk',w,lo,iv⟩:=st;obtain⟨T,H,nk⟩:=sy
     have ext:∀b:Bool,Sim A ⟨(d, .v (.bool b))::T',H',nk',w,lo,iv⟩ ⟨(d, .v (.bool b))::T,H,nk⟩:=by
      intro b;refine⟨fun d' x hx=> ?_,hs.H,hs.nk,fun j hj=> ?_,hs.fH⟩
      · simp only [o4]at hx;simp only [u1];cases hb:Nat.beq d d' with
        |true=>rw [hb]at hx;cases hx;exact .inr ⟨_,rfl,by simp only [d8];exact⟨trivial,rfl⟩⟩
        |false=>rw [hb]at hx;exact hs.T d' x hx
      · simp only [o7,ment];exact hs.fT j hj
     split at h
     · rename_i b hl;obtain⟨hlt,hl⟩:=a1a hl;rcases hs.T d _ hl with e|⟨s,h3,h4⟩
       · cases e
       · have:=h4.sc;subst this;simp only at h3;simp only [a2H,hd,a5p hlt,h3];cases b<;>cases want<;>simp only [VIf]at h⊢
         · exact h1 _ _ (ext false) h
         · exact h2 _ _ (ext false) h
         · exact h2 _ _ (ext true) h
         · exact h1 _ _ (ext true) h
     · rename_i hl;obtain⟨hlt,hl⟩:=a1a hl;rcases hs.T d _ hl with e|⟨s,h3,h4⟩
       · cases e
       · simp only [d8]at h4;subst h4;simp only at h3;simp only [a2H,hd,a5p hlt,h3,undef];exact h2 _ _ hs h
     · exact h.elim
   · exact h.elim
theorem zOK (hP:POK X.P X.tt):∀t i,A5 X.tt t=some i→(∀x,x∈i.z→a0K x=true)∧i.z.length=i.n:=fun t i h=>⟨fun x hx=>by rw [a5H];exact(hP.tt t i h).zo x hx,(hP.tt t i h).zn⟩
theorem c3W {x:D} {s:SV} {ok:Nat→Prop} {R:Bool→Nat→Prop} (h:d8 ok w R x s) (hne:x≠ .bad):c7N x=b2N s:=by
 cases x<;>simp only [d8]at h
 · rw [h.1];rfl
 · obtain⟨cs,h,_⟩:=h;cases s<;>simp [a1S]at h<;>rfl
 · obtain⟨y,rfl,_⟩:=h;rfl
 · obtain⟨y,rfl,_⟩:=h;rfl
 · rw [h.1];rfl
 · rw [h.1];rfl
 · rw [h.1];rfl
 · rw [h.1];rfl
 · rw [h.1];rfl
 · rcases h with⟨cs,rfl,_⟩|⟨cs,rfl,_⟩<;>rfl
 · rcases h with⟨cs,_,rfl,_⟩|⟨cs,_,rfl,_⟩<;>rfl
 · obtain⟨y,rfl,_⟩:=h;rfl
 · rw [h];rfl
 · exact absurd rfl hne
theorem c5Q {fl:Bool} {i:Nat} {op:Op} {pr:List (Nat×Option Nat)} {K K':List (Nat×Option Nat)→Prop} (h:rdY fl i op sy pr K) (hs:Sim A st sy) (hK:∀pr,K pr→K' pr):rdP (cx X w0 bor) fl i op st pr K':=by
 unfold rdY at h;split at h
 · rename_i t p;split at h
   · rename_i x hx;obtain⟨s,h1,h2,h3⟩:=j9 hs hx;have ht:=c3W h2 h3;split at h
     · rename_i k hk;rw [hk]at ht;simp only [rdP,h1,←ht];exact hK _ h
     · rename_i hk;rw [hk]at ht;simp only [rdP,h1,←ht];split at h
       · simp only [d8,Rep]at h2;obtain⟨y,rfl,b,p,xs,rfl,hok,_⟩:=h2;cases fl with
         |false=>exact hK _ h
         |true=>exact⟨.inr (by rcases hok.1.1 with h|h;exact .inl h;exact .inr h),hK _ h⟩
       · exact h.elim
   · exact h.elim
 · rename_i _ m _ _;split at h
   · rename_i k z0 hx;obtain⟨s,h1,h2,_⟩:=j9 hs hx;simp only [d8]at h2;obtain⟨rfl,_⟩:=h2;simp only [rdP,h1];exact hK _ h
   · exact h.elim
 · rename_i hno hnl;unfold rdP;split
   · rename_i t p;exact absurd rfl (hno t p)
   · exact absurd rfl (hnl _ _ _ _)
   · exact hK _ h
theorem b7Q {ok:Nat→Prop} {R:Bool→Nat→Prop} {e z b:Nat} {s x:D} {s' x':SV} (h4:d8 ok w R s s'):b0E (.app e z b s x)=a4v (.app e z b s' x'):=by
 cases s<;>simp only [d8]at h4
 · rw [h4.1];rfl
 · obtain⟨cs,h,_⟩:=h4;cases s'<;>simp [a1S]at h<;>rfl
 · obtain⟨y,rfl,_⟩:=h4;rfl
 · obtain⟨y,rfl,_⟩:=h4;rfl
 · rw [h4.1];rfl
 · rw [h4.1];rfl
 · rw [h4.1];rfl
 · rw [h4.1];rfl
 · rw [h4.1];rfl
 · rcases h4 with⟨cs,rfl,_⟩|⟨cs,rfl,_⟩<;>rfl
 · rcases h4 with⟨cs,_,rfl,_⟩|⟨cs,_,rfl,_⟩<;>rfl
 · obtain⟨y,rfl,_⟩:=h4;rfl
 · rw [h4];rfl
 · rw [h4];rfl
theorem c4c {oy:a4D} {out:Out} {ok:Nat→Prop} {R:Bool→Nat→Prop} (h:a6Q st.H ok w R oy out):b0E oy=a4v out∨(b0E oy=none∧∃e z b s x,out= .app e z b s x∧a4v out=none):=by
 cases oy<;>cases out<;>try exact h.elim
 · exact .inl rfl
 · exact .inl rfl
 · exact .inl rfl
 · exact .inl rfl
 · obtain⟨rfl,_⟩:=h;exact .inl rfl
 · obtain⟨rfl,_⟩:=h;exact .inl rfl
 · obtain⟨rfl,rfl,rfl,h4,_⟩:=h;left;exact b7Q h4
theorem c2z {Xx:Cx} {seq:Bool} {dst:Option Nat} {out:Out} {K K':St→Prop} (h:fin Xx seq st dst K out) (hk:∀st',K st'→K' st'):fin Xx seq st dst K' out:=by
 obtain⟨T,H,nk,ws,lo,iv⟩:=st;cases out with
 |val s=>exact I4 h hk
 |new cs ty sl=>
  simp only [fin]at h⊢;cases h1:o7 nk T with
  |false=>rw [h1]at h;exact h.elim
  |true=>cases h2:u3 nk H with
   |false=>rw [h1,h2]at h;exact h.elim
   |true=>cases h3:C9 nk cs with
    |true=>rw [h1,h2,h3]at h;exact h.elim
    |false=>
     rw [h1,h2,h3]at h;rcases h with h|⟨n,sz,h0,h⟩
     · exact .inl fun b hb hiv=>I4 (h b hb hiv) hk
     · exact .inr ⟨n,sz,h0,fun b hb hiv=>I4 (h b hb hiv) hk⟩
 |call f args=>
  obtain⟨ι,r,φ,h1,h2⟩:=h.ex;refine⟨ι,r,φ,h1,fun i n w1 a1 a2 a3 a4 a5=> ?_⟩;have:=h2 i n w1 a1 a2 a3 a4 a5;cases seq
  · exact I4 this hk
  · exact I4 this hk
 |upd k cs=>
  unfold fin at h⊢;simp only at h⊢;cases hf:e8 H k with
  |none=>rw [hf]at h;exact h.elim
  |some e=>
   rw [hf]at h;cases e with
   |row=>exact h.elim
   |mp=>exact h.elim
   |blk=>exact Y4 h fun H' hh=>I4 hh hk
 |updR k xs=>
  unfold fin at h⊢;simp only at h⊢;cases hf:e8 H k with
  |none=>rw [hf]at h;exact h.elim
  |some e=>
   rw [hf]at h;cases e with
   |blk=>exact h.elim
   |mp=>exact h.elim
   |row=>exact Y4 h fun H' hh=>I4 hh hk
 |app e esz bytes s x=>
  obtain⟨k,n,m,v,xs,news,h0,h1⟩:=b3A.ex h
  have reM:∀ {w1:World} {A B:List (Nat×SV)→Hp→Nat→World→Nat→List (Nat×Nat)→Prop},(∀T H nk w lo iv,A T H nk w lo iv→B T H nk w lo iv)→reW seq ⟨T,H,nk,ws,lo,iv⟩ w1 A→reW seq ⟨T,H,nk,ws,lo,iv⟩ w1 B:=by
   intro w1 A B hAB hA;cases seq
   · exact hAB _ _ _ _ _ _ hA
   · exact hAB _ _ _ _ _ _ hA
  refine b3A.mk ⟨k,n,m,v,xs,news,h0, ?_⟩;rcases h1 with⟨g1,g2,h1⟩|⟨g1,g2,h1⟩|⟨g1,g2,h1⟩|⟨g1,g2,h1,h1'⟩
  · exact .inl ⟨g1,g2,fun v' w1 a1 a2 a3=>reM (fun _ _ _ _ _ _ ⟨b1,b2,b3⟩=>⟨b1,b2,I4 b3 hk⟩) (h1 v' w1 a1 a2 a3)⟩
  · exact .inr (.inl ⟨g1,g2,fun v' w1 a1 a2 a3=>reM (fun _ _ _ _ _ _ b=>Y4 b fun H' hh=>by rw [a1Y]at hh⊢;exact I4 hh hk) (h1 v' w1 a1 a2 a3)⟩)
  · exact .inr (.inr (.inl ⟨g1,g2,fun v' w1 a1 a2 a3=>reM (fun _ _ _ _ _ _ b=>Y4 b fun H' hh=>by rw [a1Y]at hh⊢;exact I4 hh hk) (h1 v' w1 a1 a2 a3)⟩))
  · exact .inr (.inr (.inr ⟨g1,g2,fun a=>I4 (h1 a) hk,fun a v' w1 a1 a2 a3=>reM (fun _ _ _ _ _ _ ⟨b1,b2,b3⟩=>⟨b1,b2,I4 b3 hk⟩) (h1' a v' w1 a1 a2 a3)⟩))
theorem c0t (hA:AG A X.P w0 bor) {i:Nat} {S:List Nat} {fl:Bool} {pr:List (Nat×Option Nat)} {o:Oper} {K:Sy→List (Nat×Option Nat)→Prop} {K':St→List (Nat×Option Nat)→Prop} {oy:a4D} {out:Out} (h:b5P X i S fl pr o sy K oy)
 (hr:a6Q st.H (okS A st) st.w (u6 st) oy out) (hs:Sim A st sy) (hK:∀st' sy' pr,Sim A st' sy'→K sy' pr→K' st' pr):b6v (cx X w0 bor) i S fl pr o st K' out:=by
 have mono:∀(seq:Bool) (dst:Option Nat) (out:Out),fin (cx X w0 bor) seq st dst (fun st'=>∃sy',K sy' pr∧Sim A st' sy') out→fin (cx X w0 bor) seq st dst (fun st'=>K' st' pr) out:=fun seq dst out h=>c2z h fun st' ⟨sy',h1,h2⟩=>hK st' sy' pr h2 h1
 unfold b5P at h;unfold b6v;split at h
 · rename_i hv;simp only [hv];cases oy<;>try exact h.elim
   cases out<;>try exact hr.elim
   refine c5Q h hs fun pr hp=> ?_
   exact I4 (y4 hp hs hr.1) fun st' ⟨sy',h1,h2⟩=>hK st' sy' pr h2 h1
 · rename_i hv;simp only [hv];split at h
   · rename_i ha;simp only [ha];cases oy<;>try exact h.elim
     · cases out<;>try exact hr.elim
       rename_i cs ty sl cs' ty' sl';cases sl with
       |none=>
        obtain⟨rfl,h2,rfl⟩:=hr;exact mono _ _ _ (a3D hA h (by exact⟨rfl,h2,rfl⟩) hs (.inl rfl))
       |some p=>exact h.elim
     · cases out<;>try exact hr.elim
       exact mono _ _ _ (a3D hA h hr hs (.inl rfl))
   · rename_i ha;simp only [ha];split at h
     · rename_i hc;simp only [hc];cases oy<;>try exact h.elim
       cases out<;>try exact hr.elim
       exact mono _ _ _ (a3D hA h hr hs (.inl rfl))
     · rename_i hc;simp only [hc]
       have hk:b0E oy=a4v out:=by
        rcases c4c hr with h|⟨h1,_,_,_,_,_,_,h2⟩
        · exact h
        · rw [h1,h2]
       cases oy<;>try exact h.elim
       all_goals (cases out<;>try exact hr.elim)
       all_goals (
        have h':=h
        try simp only at h'
        try simp only
        rw [hk]at h';split
        · rename_i k hkk;rw [hkk]at h';simp only at h';cases hse:b6N pr S k with
          |true=>rw [hse]at h';exact mono _ _ _ (a3D hA h' hr hs (.inl rfl))
          |false=>rw [hse]at h';exact h'.elim
        · rename_i hkk;rw [hkk]at h';exact mono _ _ _ (a3D hA h' hr hs (.inl rfl)))
end
end Go.Sx
