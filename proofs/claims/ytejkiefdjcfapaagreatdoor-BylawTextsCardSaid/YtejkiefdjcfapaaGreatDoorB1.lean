/- The walk over pure data: its definitions, that it is sound, and what may be read at a type. -/
import Derived.Test.YtejkiefdjcfapaaGreatDoorA2
set_option linter.unusedVariables false
set_option linter.unusedSimpArgs false
namespace Go.Sx
open Go Go.RowKit
inductive D where
 |v (x:Value)
 |agg (l:List D)
 |lst (z n:Nat) (l:List D)
 |ptr (l:List D) (o:Nat)
 |own (k o:Nat)
 |ownx (k o:Nat)
 |row (k z:Nat)
 |elr (k z i o:Nat)
 |osl (k o z n c:Nat)
 |tup (l:List D)
 |fn (f:FuncId) (first caps:List D)
 |mp (l:List (Int×Nat))
 |und
 |bad
inductive E where
 |blk (cs:List D) (ty:TypeId)
 |row (z n:Nat) (l:List D) (ty:TypeId)
 |mp (es:List (Value×Value)) (ty:MTy)
abbrev Hy:=List (Nat×E)
structure Sy where
 T:List (Nat×D)
 H:Hy
 nk:Nat
structure Cy where
 P:Program
 tt:List (Nat×TI)
 nt:Nat
 pl:List (Nat×PT)
 ln:List Nat:= []
 un:List Nat:= []
 dfs:List Deferred:= []
 inl:List Nat:= []
 sv:List Value:= []
def findY:Hy→Nat→Option E
 | [],_=>none
 |(k',e)::H,k=>match Nat.beq k' k with|true=>some e|false=>findY H k
def lookY:List (Nat×D)→Nat→Option D
 | [],_=>none
 |(d,s)::T,k=>match Nat.beq d k with|true=>some s|false=>lookY T k
def oneD:D→Bool
 | .v _=>true
 | .lst _ _ _=>true
 | .ptr _ _=>true
 | .own _ _=>true
 | .ownx _ _=>true
 | .row _ _=>true
 | .elr _ _ _ _=>true
 | .osl _ _ _ _ _=>true
 | .fn _ _ _=>true
 | .mp _=>true
 |_=>false
def flatD:List D→Bool
 | []=>true
 |d::l=>match oneD d with|true=>flatD l|false=>false
def ofV:Value→Option D
 | .agg a=>match a.toList.all oneV with|true=>some (.agg (a.toList.map .v))|false=>none
 | .tuple _=>none
 |x=>some (.v x)
def lookRY (T:List (Nat×D)) (d:Nat):Option D:=match Nat.blt d 1000000 with|true=>lookY T d|false=>none
theorem lookRY_some {T:List (Nat×D)} {d:Nat} {s:D} (h:lookRY T d=some s):d<gbase∧lookY T d=some s:=by
 unfold lookRY at h;split at h
 · rename_i hb;exact⟨by simpa [Nat.blt_eq]using hb,h⟩
 · cases h
theorem lookR_of {T:List (Nat×SV)} {d:Nat} (h:d<gbase):lookR T d=look T d:=by
 unfold lookR;rw [show Nat.blt d 1000000=true by simpa [Nat.blt_eq]using h]
def evY (st:Sy):Operand→Option D
 | .tmp t=>match lookRY st.T t with|some .bad=>none|r=>r
 | .const v=>ofV v
 | .func f=>some (.fn f [] [])
 | .global _=>none
def evsY (st:Sy):List Operand→Option (List D)
 | []=>some []
 |x::l=>match evY st x,evsY st l with|some s,some r=>some (s::r)|_,_=>none
def takeD:Nat→List D→Option (List D)
 |0,_=>some []
 |_+1, []=>none
 |_+1, .bad::_=>none
 |n+1,x::l=>match takeD n l with|some r=>some (x::r)|none=>none
def dropD:Nat→List D→List D
 |0,l=>l
 |_+1, []=> []
 |n+1,_::l=>dropD n l
def mkD (agg:Bool) (l:List D):Option D:=
 match agg,l with
 |true,l=>match flatD l with|true=>some (.agg l)|false=>none
 |false, [x]=>match oneD x with|true=>some x|false=>none
 |false,_=>none
def cellsD:D→Option (List D)
 | .agg l=>some l
 | .tup _=>none
 | .und=>none
 | .bad=>none
 |s=>some [s]
def aggD:D→Option (List D)
 | .agg l=>some l
 |_=>none
def cellsAD:Bool→D→Option (List D)
 |true, .agg l=>some l
 |false, .v (.bool b)=>some [.v (.bool b)]
 |_,_=>none
def eqCY:CK→D→D→Option Bool
 | .int k, .v (.int ka a), .v (.int kb b)=>match kEq k ka,kEq k kb with|true,true=>some (a==b)|_,_=>none
 | .bool, .v (.bool a), .v (.bool b)=>some (a==b)
 | .str, .v (.string a), .v (.string b)=>some (a.toList==b.toList)
 |_,_,_=>none
def eqCsY:List CK→List D→List D→Option Bool
 | [], [], []=>some true
 | [k], [x], [y]=>eqCY k x y
 |k::ks,x::l,y::r=>match eqCY k x y,eqCsY ks l r with|some a,some b=>some (a&&b)|_,_=>none
 |_,_,_=>none
def noOwn:D→Bool
 | .v _=>true
 | .lst _ _ _=>true
 | .ptr _ _=>true
 |_=>false
def noOwnL:List D→Bool
 | []=>true
 |d::l=>match noOwn d with|true=>noOwnL l|false=>false
inductive OutY where
 |val (s:D)
 |new (cs:List D) (ty:TypeId) (sl:Option (Nat×Nat))
 |newR (l:List D) (ty:TypeId) (z n:Nat)
 |call (f:FuncId) (args:List D)
 |upd (key:Nat) (cs:List D)
 |updR (key:Nat) (l:List D)
 |app (e esz bytes:Nat) (s x:D)
def el (l:List D) (z i:Nat):List D:=(l.drop (i*z)).take z
def setEl (l:List D) (z i:Nat) (cs:List D):List D:=l.take (i*z)++cs++l.drop (i*z+z)
def kvalY (K:OutY→Prop):Option D→Prop
 |some s=>K (.val s)
 |none=>False
def outOf (K:OutY→Prop):Out→Prop
 | .val (.v x)=>match oneV x with|true=>K (.val (.v x))|false=>False
 |_=>False
def bndY (st:Sy) (len cap:Nat) (lo hi mx:Option Operand) (K:Nat→Nat→Nat→Prop):Prop:=
 match mx with
 |none=>match hi with
  |none=>match lo with
   |none=>K 0 len cap
   |some l=>match evY st l with
    |some (.v (.int _ z))=>(0≤z∧z≤len)∧K z.toNat len cap
    |_=>False
  |some h=>match evY st h with
   |some (.v (.int _ y))=>(0≤y∧y≤cap)∧match lo with
    |none=>K 0 y.toNat cap
    |some l=>match evY st l with
     |some (.v (.int _ z))=>(0≤z∧z≤y)∧K z.toNat y.toNat cap
     |_=>False
   |_=>False
 |some _=>False
def bndX (st:Sy) (cap:Nat) (lo hi:Option Operand) (m:Operand) (K:Nat→Nat→Prop):Prop:=
 match evY st m,hi with
 |some (.v (.int _ x)),some h=>(0≤x∧x≤cap)∧match evY st h with
  |some (.v (.int _ y))=>(0≤y∧y≤x)∧match lo with
   |none=>K 0 y.toNat
   |some l=>match evY st l with
    |some (.v (.int _ z))=>(0≤z∧z≤y)∧K z.toNat y.toNat
    |_=>False
  |_=>False
 |_,_=>False
def builtinY (X:Cy) (st:Sy) (b:Builtin) (args:List Operand) (tys:List TypeId) (K:OutY→Prop):Prop:=
 match b,tys with
 | .len,t::_=>match getT X.tt t,evsY st args with
  |some ⟨_,_,_,_, .slice _ _ _⟩,some [.v (.slice none 0 0)]=>K (.val (.v (.int .i64 0)))
  |some ⟨_,_,_,_, .slice _ _ _⟩,some [.lst _ n _]=>K (.val (.v (.int .i64 n)))
  |some ⟨_,_,_,_, .slice _ _ _⟩,some [.osl _ _ _ n _]=>K (.val (.v (.int .i64 n)))
  |some ⟨_,_,_,_, .slice _ _ _⟩,some [.row k _]=>match findY st.H k with
   |some (.row _ n _ _)=>K (.val (.v (.int .i64 n)))
   |_=>False
  |some ⟨_,_,_,_, .str⟩,some [.v (.string s)]=>K (.val (.v (.int .i64 s.size)))
  |_,_=>False
 | .max,_=>match evsY st args with
  |some [.v (.int ka a), .v (.int _ b)]=>K (.val (.v (.int ka (if b>a then b else a))))
  |some [.v (.int ka a), .v (.int _ b), .v (.int _ c)]=>K (.val (.v (.int ka (if c>(if b>a then b else a)then c else(if b>a then b else a)))))
  |_=>False
 | .min,_=>match evsY st args with
  |some [.v (.int ka a), .v (.int _ b)]=>K (.val (.v (.int ka (if b<a then b else a))))
  |_=>False
 | .append,t::u::_=>match Nat.beq t u,getT X.tt t,evsY st args with
  |true,some ⟨_,_,_,_, .slice e esz bytes⟩,some [s,x]=>match getT X.tt e with
   |some i=>match Nat.beq i.n esz with
    |true=>K (.app e esz bytes s x)
    |false=>False
   |none=>False
  |_,_,_=>False
 |_,_=>False
def fieldY (X:Cy) (fs:List (Nat×Nat×Nat)) (f:Nat) (s:D) (K:OutY→Prop):Prop:=
 match nthF fs f,aggD s with
 |some (fty,off,n),some l=>match getT X.tt fty,takeD n (dropD off l)with
  |some i,some r=>match Nat.beq i.n n with
   |true=>kvalY K (mkD i.agg r)
   |false=>False
  |_,_=>False
 |_,_=>False
def fillSY (fs:List (Nat×Nat×Nat)) (st:Sy):List (Nat×Operand)→List D→Option (List D)
 | [],l=>some l
 |(i,x)::ps,l=>match nthF fs i,evY st x with
  |some (_,off,n),some s=>match cellsD s with
   |some cs=>match Nat.beq cs.length n,flatD cs with
    |true,true=>match over off cs l with
     |some r=>fillSY fs st ps r
     |none=>none
    |_,_=>none
   |none=>none
  |_,_=>none
def fillAY (esz:Nat) (st:Sy):List (Nat×Operand)→List D→Option (List D)
 | [],l=>some l
 |(i,x)::ps,l=>match evY st x with
  |some s=>match cellsD s with
   |some cs=>match Nat.beq cs.length esz,flatD cs with
    |true,true=>match over (i*esz) cs l with
     |some r=>fillAY esz st ps r
     |none=>none
    |_,_=>none
   |none=>none
  |_=>none
def repD:Nat→List D→List D
 |0,_=> []
 |n+1,l=>l++repD n l
def vD:List Value→List D
 | []=> []
 |x::l=> .v x::vD l
def loadY (st:Sy) (i:TI) (p:D) (K:OutY→Prop):Prop:=
 match p with
 | .own k o=>match findY st.H k with
  |some (.blk cs _)=>match takeD i.n (dropD o cs)with
   |some l=>kvalY K (mkD i.agg l)
   |none=>False
  |_=>False
 | .ownx k o=>match findY st.H k with
  |some (.blk cs _)=>∃l,(takeD i.n (dropD o cs)=some l)∧kvalY K (mkD i.agg l)
  |_=>False
 | .elr k z j o=>match findY st.H k with
  |some (.row z' n l _)=>match Nat.beq z' z with
   |true=>∃cs,(el l z j=cs∧j<n)∧match takeD i.n (dropD o cs),Nat.ble (o+i.n) z with
    |some l,true=>kvalY K (mkD i.agg l)
    |_,_=>False
   |false=>False
  |_=>False
 | .ptr l o=>match takeD i.n (dropD o l)with
  |some l=>kvalY K (mkD i.agg l)
  |none=>False
 |_=>False
def storeY (st:Sy) (i:TI) (p s:D) (K:OutY→Prop):Prop:=
 match cellsD s with
 |some l=>match Nat.beq l.length i.n,flatD l with
  |true,true=>match p with
   | .own k o=>match findY st.H k with
    |some (.blk cs _)=>match over o l cs with
     |some cs'=>K (.upd k cs')
     |none=>False
    |_=>False
   | .ownx k o=>match findY st.H k with
    |some (.blk cs _)=>∃cs',over o l cs=some cs'∧K (.upd k cs')
    |_=>False
   | .elr k z j o=>match findY st.H k with
    |some (.row z' n r _)=>match Nat.beq z' z,noOwnL l with
     |true,true=>∃cs,(el r z j=cs∧j<n)∧match over o l cs with
      |some cs'=>∃r',setEl r z j cs'=r'∧K (.updR k r')
      |none=>False
     |_,_=>False
    |_=>False
   |_=>False
  |_,_=>False
 |none=>False
def ptrAddY (s:D) (off:Nat):Option D:=
 match s with
 | .own k o=>some (.own k (o+off))
 | .ownx k o=>some (.ownx k (o+off))
 | .elr k z i o=>some (.elr k z i (o+off))
 | .ptr l o=>some (.ptr l (o+off))
 |_=>none
def ptrAddxY (s:D) (off:Nat):Option D:=
 match s with
 | .own k o=>some (.ownx k (o+off))
 | .ownx k o=>some (.ownx k (o+off))
 | .ptr l o=>some (.ptr l (o+off))
 |_=>none
def findM:List (Int×Nat)→Int→Option Nat
 | [],_=>none
 |(k,f)::l,i=>match i==k with|true=>some f|false=>findM l i
def valsV:List D→Option (List Value)
 | []=>some []
 | .v x::l=>match valsV l with|some r=>some (x::r)|none=>none
 |_=>none
def keyCells:Bool→D→Option (List Value)
 |true, .agg l=>valsV l
 |false, .v x=>some [x]
 |_,_=>none
def y1 (X:Cy) (st:Sy) (op:Op) (K:OutY→Prop):Prop:=
 match op with
 | .move x=>kvalY K (evY st x)
 | .assign x=>kvalY K (evY st x)
 | .pick c a b=>match evY st c with
  |some (.v (.bool t))=>VIf t (kvalY K (evY st a)) (kvalY K (evY st b))
  |_=>False
 | .alloc t=>match getT X.tt t with
  |some i=>K (.new (vD i.z) t none)
  |none=>False
 | .box t x=>match getT X.tt t,evY st x with
  |some _,some s=>match cellsD s with
   |some l=>match flatD l with|true=>K (.new l t none)|false=>False
   |none=>False
  |_,_=>False
 | .load t p=>match getT X.tt t,evY st p with
  |some i,some s=>loadY st i s K
  |_,_=>False
 | .store t p x=>match getT X.tt t,evY st p,evY st x with
  |some i,some q,some s=>storeY st i q s K
  |_,_,_=>False
 | .nilCheck p=>match evY st p with
  |some (.own k o)=>K (.val (.own k o))
  |some (.ownx k o)=>K (.val (.ownx k o))
  |some (.elr k z i o)=>K (.val (.elr k z i o))
  |some (.ptr l o)=>K (.val (.ptr l o))
  |_=>False
 | .fieldAddr t p f=>match getT X.tt t,evY st p with
  |some ⟨_,_,_,_, .struct fs⟩,some s=>match nthF fs f with
   |some (_,off,_)=>kvalY K (ptrAddY s off)
   |none=>False
  |_,_=>False
 | .field t x f=>match getT X.tt t,evY st x with
  |some ⟨_,_,_,_, .struct fs⟩,some s=>fieldY X fs f s K
  |_,_=>False
 | .indexAddr t x ix=>match getT X.tt t,evY st x,evY st ix with
  |some ⟨_,_,_,_, .slice _ esz _⟩,some (.lst z n l),some (.v (.int _ i))=>match Nat.beq z esz with
   |true=>∃cs,(el l z i.toNat=cs∧0≤i∧i<n)∧K (.val (.ptr cs 0))
   |false=>False
  |some ⟨_,_,_,_, .slice _ esz _⟩,some (.osl k o z n _),some (.v (.int _ i))=>match Nat.beq z esz with
   |true=>(0≤i∧i<n)∧K (.val (.ownx k (o+i.toNat*z)))
   |false=>False
  |some ⟨_,_,_,_, .slice _ esz _⟩,some (.row k z),some (.v (.int _ i))=>match Nat.beq z esz,findY st.H k with
   |true,some (.row z' n _ _)=>match Nat.beq z' z with
    |true=>(0≤i∧i<n)∧K (.val (.elr k z i.toNat 0))
    |false=>False
   |_,_=>False
  |some ⟨_,_,_,_, .slice _ _ _⟩,some (.v (.slice none 0 0)),some (.v (.int _ i))=>0≤i∧i<0
  |some ⟨_,_,_,_, .arr len _ esz⟩,some s,some (.v (.int _ z))=>
   (0≤z∧z<len)∧kvalY K (match isConst ix with|true=>ptrAddY s (z.toNat*esz)|false=>ptrAddxY s (z.toNat*esz))
  |_,_,_=>False
 | .index t x ix=>match getT X.tt t,evY st x,evY st ix with
  |some ⟨_,_,_,_, .str⟩,some (.v (.string s)),some (.v (.int _ z))=>
   ∃c,(0≤z∧s.data.toList[z.toNat]?=some c)∧K (.val (.v (.int .u8 c.toNat)))
  |some ⟨_,_,_,_, .arr len ety esz⟩,some s,some (.v (.int _ z))=>match aggD s,getT X.tt ety with
   |some l,some i=>(0≤z∧z<len)∧match isConst ix,Nat.beq i.n esz with
    |true,true=>match takeD i.n (dropD (z.toNat*esz) l)with
     |some r=>kvalY K (mkD i.agg r)
     |none=>False
    |false,true=>∃r,takeD i.n (dropD (z.toNat*esz) l)=some r∧kvalY K (mkD i.agg r)
    |_,_=>False
   |_,_=>False
  |_,_,_=>False
 | .binOp op t x y _=>match evY st x,evY st y with
  |some (.v (.int ka a)),some (.v (.int kb b))=>match isSh op,kEq ka kb with
   |true,_=>shOp op ka a b (outOf K)
   |false,true=>intOp op ka a b (outOf K)
   |false,false=>False
  |some (.v (.string a)),some (.v (.string b))=>strOp op a b (outOf K)
  |some s,some r=>match getT X.tt t with
   |some ⟨_,agg,_,some ks,_⟩=>match cellsAD agg s,cellsAD agg r with
    |some l,some m=>match eqCsY ks l m with
     |some e=>boolOp op e (outOf K)
     |none=>False
    |_,_=>False
   |some ⟨_,_,_,none, .slice _ _ _⟩=>match s,r with
    | .lst _ n _, .v (.slice none 0 0)=>∀b:Bool,(b=true→n=0)→boolOp op b (outOf K)
    | .v (.slice none 0 0), .v (.slice none 0 0)=>boolOp op true (outOf K)
    |_,_=>False
   |_=>False
  |_,_=>False
 | .unOp op _ x=>match op,evY st x with
  | .not,some (.v (.bool b))=>K (.val (.v (.bool (!b))))
  | .neg,some (.v (.int k a))=>K (.val (.v (.int k (k.wrap (0-a)))))
  |_,_=>False
 | .convert src dst x=>match getT X.tt src,getT X.tt dst,evY st x with
  |some _,some ⟨_,_,_,some [.int k], .int⟩,some (.v (.int _ n))=>K (.val (.v (.int k (k.wrap n))))
  |_,_,_=>False
 | .extract x n=>match evY st x with
  |some (.tup l)=>match dropD n l with| .bad::_=>False|s::_=>K (.val s)| []=>False
  |_=>False
 | .makeFunc fn first caps=>match fn,evsY st first.toList,evsY st caps.toList with
  | .func f,some l,some c=>K (.val (.fn f l c))
  |_,_,_=>False
 | .build t ps=>match getT X.tt t with
  |some ⟨_,_,z,_, .struct fs⟩=>match fillSY fs st ps.toList (vD z)with
   |some l=>match flatD l with|true=>K (.val (.agg l))|false=>False
   |none=>False
  |some ⟨_,_,z,_, .arr _ _ esz⟩=>match fillAY esz st ps.toList (vD z)with
   |some l=>match flatD l with|true=>K (.val (.agg l))|false=>False
   |none=>False
  |_=>False
 | .buildSlice t n ps=>match getT X.tt t with
  |some ⟨_,_,_,_, .slice e esz _⟩=>match getT X.tt e with
   |some i=>match Nat.ble (n*esz) 16777216,Nat.beq i.n esz,fillAY esz st ps.toList (repD n (vD i.z))with
    |true,true,some l=>match noOwnL l,Nat.ble n 16777216 with
     |true,true=>∃l' n',(l=l'∧n=n')∧K (.newR l' e esz n')
     |_,_=>K (.new l e (some (esz,n)))
    |_,_,_=>False
   |none=>False
  |_=>False
 | .makeSlice t l c=>match getT X.tt t,evY st l,evY st c with
  |some ⟨_,_,_,_, .slice e esz bytes⟩,some (.v (.int _ p)),some (.v (.int _ q))=>match getT X.tt e with
   |some i=>match Nat.beq i.n esz with
    |true=>(p=q∧0≤p∧(bytes:Int)*p≤281474976710656∧p≤9223372036854775807)∧∃l' n',(repD p.toNat (vD i.z)=l'∧p.toNat=n')∧K (.newR l' e esz n')
    |false=>False
   |none=>False
  |_,_,_=>False
 | .slice t x lo hi mx=>match getT X.tt t,evY st x with
  |some ⟨_,_,_,_, .slice _ esz _⟩,some (.lst z n l)=>match Nat.beq z esz with
   |true=>match mx with
    |none=>bndY st n n lo hi none fun a h _=>∃r,(l.drop (a*z)).take ((h-a)*z)=r∧K (.val (.lst z (h-a) r))
    |some m=>bndX st n lo hi m fun a h=>∃r,(l.drop (a*z)).take ((h-a)*z)=r∧K (.val (.lst z (h-a) r))
   |false=>False
  |some ⟨_,_,_,_, .slice _ esz _⟩,some (.row k z)=>match Nat.beq z esz,findY st.H k with
   |true,some (.row _ n _ _)=>0<n∧bndY st n n lo hi mx fun a h _=>∀o,(h-a=0∨o=a*z)∧(a=0→o=0)→K (.val (.osl k o z (h-a) a))
   |_,_=>False
  |some ⟨_,_,_,_, .str⟩,some (.v (.string s))=>
   bndY st s.size s.size lo hi mx fun l h _=>K (.val (.v (.string (s.extract l h))))
  |some ⟨_,_,_,_, .arr len _ esz⟩,some (.own k 0)=>match lo,hi,mx with
   |none,none,none=>(match findY st.H k with|some (.blk _ _)=>K (.val (.osl k 0 esz len len))|_=>False)
   |_,_,_=>False
  |_,_=>False
 | .lookup t x ix ok=>match evY st x with
  |some (.mp l)=>match ok,evY st ix with
   |false,some (.v (.int .i64 i))=>(∃kt et,X.P.underlying t=some (.map kt et)∧X.P.underlying kt=some (.int .i64))∧∃f,findM l i=some f∧K (.val (.fn f [] []))
   |_,_=>False
  |some (.row k _)=>match evY st ix,findY st.H k with
   |some kd,some (.mp es m)=>(MTok X.P X.tt m∧m.t=t)∧∃kc v b,(keyCells m.ag kd=some kc∧typedCs m.ks kc∧(lkpV es kc).getD m.z=v∧(lkpV es kc).isSome=b∧plV v=true)∧
    K (.val (match ok with|true=> .tup [.v v, .v (.bool b)]|false=> .v v))
   |_,_=>False
  |_=>False
 | .call c=>match c.callee with
  | .value f=>match evY st f,evsY st c.args.toList with
   |some (.fn g l caps),some args=>K (.call g (l++(args++caps)))
   |_,_=>False
  | .builtin b=>builtinY X st b c.args.toList c.argTypes.toList K
  |_=>False
 |_=>False
mutual
def Rep (ok:Nat→Prop) (w:World):D→Value→Prop
 | .v x,y=>y=x∧oneV x=true
 | .agg l,y=>∃a,y= .agg a∧RepL ok w l a.toList∧flatD l=true
 | .lst z n l,y=>∃a c,y= .slice a n c∧n≤c∧(n:Int)≤9223372036854775807∧l.length=n*z∧flatD l=true∧
  (c=0∨∃b o xs,a=some ⟨b,o,none⟩∧ok b∧RepL ok w l xs∧∀j,j<n*z→w.cell? ⟨b,o+j,none⟩=xs[j]?)
 | .ptr l o,y=>∃b p xs,y= .pointer (some ⟨b,p+o,none⟩)∧ok b∧flatD l=true∧RepL ok w l xs∧∀j,j<l.length→w.cell? ⟨b,p+j,none⟩=xs[j]?
 | .fn f a b,y=>∃p q,y= .func (.func f) p q∧RepL ok w a p.toList∧RepL ok w b q.toList
 | .tup l,y=>∃a,y= .tuple a∧RepL ok w l a.toList
 | .mp l,y=>∃r es c,y= .map (some r)∧ok r∧w.heap[r]?=some (.map es c)∧es.toList.map (fun e=>(e.key,e.val))=l.map (fun p=>(Value.int .i64 p.1,Value.func (.func p.2) #[] #[]))
 |_,_=>False
def RepL (ok:Nat→Prop) (w:World):List D→List Value→Prop
 | [], []=>True
 |d::l,y::r=>Rep ok w d y∧RepL ok w l r
 |_,_=>False
end
mutual
theorem Rep.mono {ok ok':Nat→Prop} {w w':World} (hm:∀b,ok b→ok' b∧w'.heap[b]?=w.heap[b]?):∀(d:D) (y:Value),Rep ok w d y→Rep ok' w' d y
 | .v x,y,h=>h
 | .agg l,y,h=>by
  simp only [Rep]at h⊢;obtain⟨a,h1,h2,h3⟩:=h;exact⟨a,h1,RepL.mono hm l _ h2,h3⟩
 | .lst z n l,y,h=>by
  simp only [Rep]at h⊢;obtain⟨a,c,h1,h2,h3,h4,h5,h6⟩:=h;refine⟨a,c,h1,h2,h3,h4,h5, ?_⟩;rcases h6 with h6|⟨b,o,xs,e1,e2,e3,e4⟩
  · exact .inl h6
  · refine .inr ⟨b,o,xs,e1,(hm b e2).1,RepL.mono hm l _ e3,fun j hj=> ?_⟩;rw [←e4 j hj];simp only [World.cell?,(hm b e2).2]
 | .ptr l o,y,h=>by
  simp only [Rep]at h⊢;obtain⟨b,p,xs,e1,e2,e5,e3,e4⟩:=h;refine⟨b,p,xs,e1,(hm b e2).1,e5,RepL.mono hm l _ e3,fun j hj=> ?_⟩;rw [←e4 j hj];simp only [World.cell?,(hm b e2).2]
 | .fn f a b,y,h=>by
  simp only [Rep]at h⊢;obtain⟨p,q,h1,h2,h3⟩:=h;exact⟨p,q,h1,RepL.mono hm a _ h2,RepL.mono hm b _ h3⟩
 | .tup l,y,h=>by
  simp only [Rep]at h⊢;obtain⟨a,h1,h2⟩:=h;exact⟨a,h1,RepL.mono hm l _ h2⟩
 | .mp l,y,h=>by
  simp only [Rep]at h⊢;obtain⟨r,es,c,h1,h2,h3,h4⟩:=h;exact⟨r,es,c,h1,(hm r h2).1,by rw [(hm r h2).2];exact h3,h4⟩
 | .own _ _,_,h=>by simp [Rep]at h
 | .ownx _ _,_,h=>by simp [Rep]at h
 | .row _ _,_,h=>by simp [Rep]at h
 | .elr _ _ _ _,_,h=>by simp [Rep]at h
 | .osl _ _ _ _ _,_,h=>by simp [Rep]at h
 | .und,_,h=>by simp [Rep]at h
 | .bad,_,h=>by simp [Rep]at h
theorem RepL.mono {ok ok':Nat→Prop} {w w':World} (hm:∀b,ok b→ok' b∧w'.heap[b]?=w.heap[b]?):∀(l:List D) (r:List Value),RepL ok w l r→RepL ok' w' l r
 | [], [],_=>trivial
 |d::l,y::r,h=>by
  simp only [RepL]at h⊢;exact⟨Rep.mono hm d y h.1,RepL.mono hm l r h.2⟩
 | [],_::_,h=>by simp [RepL]at h
 |_::_, [],h=>by simp [RepL]at h
end
section
variable {ok : Nat → Prop} {w : World}
theorem RepL.length {l:List D} {r:List Value} (h:RepL ok w l r):l.length=r.length:=by
 induction l generalizing r with
 |nil=>cases r with
  |nil=>rfl
  |cons=>simp [RepL]at h
 |cons d l ih=>cases r with
  |nil=>simp [RepL]at h
  |cons y r=>simp only [RepL]at h;simp [ih h.2]
theorem RepL.get {l:List D} {r:List Value} (h:RepL ok w l r) {j:Nat} {d:D} (hd:l[j]?=some d):∃y,r[j]?=some y∧Rep ok w d y:=by
 induction l generalizing r j with
 |nil=>simp at hd
 |cons d' l ih=>cases r with
  |nil=>simp [RepL]at h
  |cons y r=>
   simp only [RepL]at h;cases j with
   |zero=>simp at hd;subst hd;exact⟨y,by simp,h.1⟩
   |succ j=>simp at hd;obtain⟨y',h1,h2⟩:=ih h.2 hd;exact⟨y',by simpa using h1,h2⟩
theorem RepL.app {l l':List D} {r r':List Value} (h:RepL ok w l r) (h':RepL ok w l' r'):RepL ok w (l++l') (r++r'):=by
 induction l generalizing r with
 |nil=>cases r with
  |nil=>exact h'
  |cons=>simp [RepL]at h
 |cons d l ih=>cases r with
  |nil=>simp [RepL]at h
  |cons y r=>simp only [RepL]at h;exact⟨h.1,ih h.2⟩
theorem RepL.drop {l:List D} {r:List Value} (h:RepL ok w l r) (n:Nat):RepL ok w (l.drop n) (r.drop n):=by
 induction n generalizing l r with
 |zero=>simpa using h
 |succ n ih=>cases l with
  |nil=>cases r with
   |nil=>simp [RepL]
   |cons=>simp [RepL]at h
  |cons d l=>cases r with
   |nil=>simp [RepL]at h
   |cons y r=>simp only [RepL]at h;simpa using ih h.2
theorem RepL.take {l:List D} {r:List Value} (h:RepL ok w l r) (n:Nat):RepL ok w (l.take n) (r.take n):=by
 induction n generalizing l r with
 |zero=>simp [RepL]
 |succ n ih=>cases l with
  |nil=>cases r with
   |nil=>simp [RepL]
   |cons=>simp [RepL]at h
  |cons d l=>cases r with
   |nil=>simp [RepL]at h
   |cons y r=>simp only [RepL]at h;simp only [List.take_succ_cons,RepL];exact⟨h.1,ih h.2⟩
theorem flatD_mem {l:List D} (h:flatD l=true) {d:D} (hd:d∈l):oneD d=true:=by
 induction l with
 |nil=>cases hd
 |cons x l ih=>
  simp only [flatD]at h;split at h
  · rename_i hx;rcases List.mem_cons.1 hd with rfl|hd
    · exact hx
    · exact ih h hd
  · cases h
theorem flatD_of {l:List D} (h:∀d,d∈l→oneD d=true):flatD l=true:=by
 induction l with
 |nil=>rfl
 |cons x l ih=>
  simp only [flatD,h x List.mem_cons_self];exact ih fun d hd=>h d (List.mem_cons_of_mem _ hd)
theorem Rep.one {d:D} {y:Value} (h:Rep ok w d y) (hd:oneD d=true):oneV y=true:=by
 cases d<;>simp [oneD]at hd<;>simp only [Rep]at h
 · obtain⟨rfl,h⟩:=h;exact h
 · obtain⟨a,c,rfl,_⟩:=h;rfl
 · obtain⟨b,p,xs,rfl,_⟩:=h;rfl
 · obtain⟨p,q,rfl,_⟩:=h;rfl
 · obtain⟨r,es,c,rfl,_⟩:=h;rfl
theorem RepL.one {l:List D} {r:List Value} (h:RepL ok w l r) (hl:flatD l=true):∀y,y∈r→oneV y=true:=by
 induction l generalizing r with
 |nil=>cases r with
  |nil=>simp
  |cons=>simp [RepL]at h
 |cons d l ih=>cases r with
  |nil=>simp [RepL]at h
  |cons y r=>
   simp only [RepL]at h;intro u hu;rcases List.mem_cons.1 hu with rfl|hu
   · exact h.1.one (flatD_mem hl List.mem_cons_self)
   · exact ih h.2 (flatD_of fun d hd=>flatD_mem hl (List.mem_cons_of_mem _ hd)) u hu
end
mutual
def RelD (ok:Nat→Prop) (w:World) (R:Bool→Nat→Prop):D→SV→Prop
 | .v x,s=>s= .v x∧oneV x=true
 | .agg l,s=>∃cs,aggL s=some cs∧RelDL ok w R l cs∧flatD l=true
 | .lst z n l,s=>∃y,s= .v y∧Rep ok w (.lst z n l) y
 | .ptr l o,s=>∃y,s= .v y∧Rep ok w (.ptr l o) y
 | .own k o,s=>s= .own k o∧R false k
 | .ownx k o,s=>s= .ownx k o∧R false k
 | .row k _,s=>s= .row k∧R true k
 | .elr k z i o,s=>s= .ownx k (i*z+o)∧R true k
 | .osl k o _ n c,s=>s= .osl k o n c∧R false k
 | .tup l,s=>(∃cs,s= .tup cs∧RelDL ok w R l cs)∨∃a,s= .v (.tuple a)∧RelDL ok w R l (vs a.toList)
 | .fn f a b,s=>(∃a' b',s= .fn f a' b'∧RelDL ok w R a a'∧RelDL ok w R b b')∨∃p q,s= .v (.func (.func f) p q)∧RelDL ok w R a (vs p.toList)∧RelDL ok w R b (vs q.toList)
 | .mp l,s=>∃y,s= .v y∧Rep ok w (.mp l) y
 | .und,s=>s= .v undef
 | .bad,s=>s= .bad
def RelDL (ok:Nat→Prop) (w:World) (R:Bool→Nat→Prop):List D→List SV→Prop
 | [], []=>True
 |d::l,y::r=>RelD ok w R d y∧RelDL ok w R l r
 |_,_=>False
end
mutual
theorem RelD.mono {ok ok':Nat→Prop} {w w':World} {R R':Bool→Nat→Prop} (hm:∀b,ok b→ok' b∧w'.heap[b]?=w.heap[b]?) (hR:∀q k,R q k→R' q k):∀(d:D) (s:SV),RelD ok w R d s→RelD ok' w' R' d s
 | .v x,y,h=>h
 | .agg l,y,h=>by
  simp only [RelD]at h⊢;obtain⟨a,h1,h2,h3⟩:=h;exact⟨a,h1,RelDL.mono hm hR l _ h2,h3⟩
 | .lst z n l,y,h=>by
  simp only [RelD]at h⊢;obtain⟨a,h1,h2⟩:=h;exact⟨a,h1,Rep.mono hm _ _ h2⟩
 | .ptr l o,y,h=>by
  simp only [RelD]at h⊢;obtain⟨a,h1,h2⟩:=h;exact⟨a,h1,Rep.mono hm _ _ h2⟩
 | .mp l,y,h=>by
  simp only [RelD]at h⊢;obtain⟨a,h1,h2⟩:=h;exact⟨a,h1,Rep.mono hm _ _ h2⟩
 | .own k o,y,h=>by simp only [RelD]at h⊢;exact⟨h.1,hR _ k h.2⟩
 | .ownx k o,y,h=>by simp only [RelD]at h⊢;exact⟨h.1,hR _ k h.2⟩
 | .row k z,y,h=>by simp only [RelD]at h⊢;exact⟨h.1,hR _ k h.2⟩
 | .elr k z i o,y,h=>by simp only [RelD]at h⊢;exact⟨h.1,hR _ k h.2⟩
 | .osl k o z n c,y,h=>by simp only [RelD]at h⊢;exact⟨h.1,hR _ k h.2⟩
 | .tup l,y,h=>by
  simp only [RelD]at h⊢;rcases h with⟨cs,h1,h2⟩|⟨a,h1,h2⟩
  · exact .inl ⟨cs,h1,RelDL.mono hm hR l _ h2⟩
  · exact .inr ⟨a,h1,RelDL.mono hm hR l _ h2⟩
 | .fn f a b,y,h=>by
  simp only [RelD]at h⊢;rcases h with⟨p,q,h1,h2,h3⟩|⟨p,q,h1,h2,h3⟩
  · exact .inl ⟨p,q,h1,RelDL.mono hm hR a _ h2,RelDL.mono hm hR b _ h3⟩
  · exact .inr ⟨p,q,h1,RelDL.mono hm hR a _ h2,RelDL.mono hm hR b _ h3⟩
 | .und,_,h=>h
 | .bad,_,h=>h
theorem RelDL.mono {ok ok':Nat→Prop} {w w':World} {R R':Bool→Nat→Prop} (hm:∀b,ok b→ok' b∧w'.heap[b]?=w.heap[b]?) (hR:∀q k,R q k→R' q k):∀(l:List D) (r:List SV),RelDL ok w R l r→RelDL ok' w' R' l r
 | [], [],_=>trivial
 |d::l,y::r,h=>by
  simp only [RelDL]at h⊢;exact⟨RelD.mono hm hR d y h.1,RelDL.mono hm hR l r h.2⟩
 | [],_::_,h=>by simp [RelDL]at h
 |_::_, [],h=>by simp [RelDL]at h
end
section
variable {ok : Nat → Prop} {w : World} {R : Bool → Nat → Prop}
mutual
theorem Rep.rel {ok:Nat→Prop} {w:World} {R:Bool→Nat→Prop}:∀(d:D) (y:Value),Rep ok w d y→RelD ok w R d (.v y)
 | .v x,y,h=>by simp only [Rep]at h;simp only [RelD];exact⟨by rw [h.1],h.2⟩
 | .agg l,y,h=>by
  simp only [Rep]at h;simp only [RelD];obtain⟨a,rfl,h2,h3⟩:=h;exact⟨_,rfl,RepL.rel l _ h2,h3⟩
 | .lst z n l,y,h=>by simp only [RelD];exact⟨y,rfl,h⟩
 | .ptr l o,y,h=>by simp only [RelD];exact⟨y,rfl,h⟩
 | .mp l,y,h=>by simp only [RelD];exact⟨y,rfl,h⟩
 | .fn f a b,y,h=>by
  simp only [Rep]at h;simp only [RelD];obtain⟨p,q,rfl,h2,h3⟩:=h;exact .inr ⟨p,q,rfl,RepL.rel a _ h2,RepL.rel b _ h3⟩
 | .tup l,y,h=>by
  simp only [Rep]at h;simp only [RelD];obtain⟨a,rfl,h2⟩:=h;exact .inr ⟨a,rfl,RepL.rel l _ h2⟩
 | .own _ _,_,h=>by simp [Rep]at h
 | .ownx _ _,_,h=>by simp [Rep]at h
 | .row _ _,_,h=>by simp [Rep]at h
 | .elr _ _ _ _,_,h=>by simp [Rep]at h
 | .osl _ _ _ _ _,_,h=>by simp [Rep]at h
 | .und,_,h=>by simp [Rep]at h
 | .bad,_,h=>by simp [Rep]at h
theorem RepL.rel {ok:Nat→Prop} {w:World} {R:Bool→Nat→Prop}:∀(l:List D) (r:List Value),RepL ok w l r→RelDL ok w R l (vs r)
 | [], [],_=>trivial
 |d::l,y::r,h=>by
  simp only [RepL]at h;simp only [vs,RelDL];exact⟨Rep.rel d y h.1,RepL.rel l r h.2⟩
 | [],_::_,h=>by simp [RepL]at h
 |_::_, [],h=>by simp [RepL]at h
end
theorem RelD.ne {d:D} {s:SV} (h:RelD ok w R d s) (hd:d≠ .bad):s≠ .bad:=by
 cases d<;>simp only [RelD]at h
 · rw [h.1];simp
 · obtain⟨cs,h1,_⟩:=h;intro e;subst e;simp [aggL]at h1
 · obtain⟨y,rfl,_⟩:=h;simp
 · obtain⟨y,rfl,_⟩:=h;simp
 · rw [h.1];simp
 · rw [h.1];simp
 · rw [h.1];simp
 · rw [h.1];simp
 · rw [h.1];simp
 · rcases h with⟨cs,rfl,_⟩|⟨cs,rfl,_⟩<;>simp
 · rcases h with⟨p,q,rfl,_⟩|⟨p,q,rfl,_⟩<;>simp
 · obtain⟨y,rfl,_⟩:=h;simp
 · rw [h];simp
 · exact absurd rfl hd
theorem RelDL.length {l:List D} {r:List SV} (h:RelDL ok w R l r):l.length=r.length:=by
 induction l generalizing r with
 |nil=>cases r with
  |nil=>rfl
  |cons=>simp [RelDL]at h
 |cons d l ih=>cases r with
  |nil=>simp [RelDL]at h
  |cons y r=>simp only [RelDL]at h;simp [ih h.2]
theorem RelDL.app {l l':List D} {r r':List SV} (h:RelDL ok w R l r) (h':RelDL ok w R l' r'):RelDL ok w R (l++l') (r++r'):=by
 induction l generalizing r with
 |nil=>cases r with
  |nil=>exact h'
  |cons=>simp [RelDL]at h
 |cons d l ih=>cases r with
  |nil=>simp [RelDL]at h
  |cons y r=>simp only [RelDL]at h;exact⟨h.1,ih h.2⟩
theorem RelDL.dropD {l:List D} {r:List SV} (h:RelDL ok w R l r) (n:Nat):RelDL ok w R (dropD n l) (dropN n r):=by
 induction n generalizing l r with
 |zero=>simpa [Sx.dropD,dropN]using h
 |succ n ih=>cases l with
  |nil=>cases r with
   |nil=>simp [Sx.dropD,dropN,RelDL]
   |cons=>simp [RelDL]at h
  |cons d l=>cases r with
   |nil=>simp [RelDL]at h
   |cons y r=>simp only [RelDL]at h;simpa [Sx.dropD,dropN]using ih h.2
theorem RelDL.takeD {l:List D} {r:List SV} (h:RelDL ok w R l r) {n:Nat} {x:List D} (hx:takeD n l=some x):∃y,takeN n r=some y∧RelDL ok w R x y:=by
 induction n generalizing l r x with
 |zero=>simp [Sx.takeD]at hx;subst hx;exact⟨[],rfl,trivial⟩
 |succ n ih=>cases l with
  |nil=>simp [Sx.takeD]at hx
  |cons d l=>cases r with
   |nil=>simp [RelDL]at h
   |cons s r=>
    simp only [RelDL]at h;have hd:d≠ .bad:=fun e=>by subst e;simp [Sx.takeD]at hx
    have hs:=h.1.ne hd
    have hx':(match Sx.takeD n l with|some r=>some (d::r)|none=>none)=some x:=by
     cases d<;>first|exact hx|exact absurd rfl hd
    split at hx'
    · rename_i q hq;cases hx';obtain⟨y,h1,h2⟩:=ih h.2 hq;refine⟨s::y, ?_,h.1,h2⟩
      have:takeN (n+1) (s::r)=(match takeN n r with|some q=>some (s::q)|none=>none):=by
       cases s<;>first|rfl|exact absurd rfl hs
      rw [this,h1]
    · cases hx'
theorem RelDL.over {l:List D} {r:List SV} (h:RelDL ok w R l r) {o:Nat} {x y:List D} {x':List SV} (hx:RelDL ok w R x x') (hy:over o x l=some y):∃y',Sx.over o x' r=some y'∧RelDL ok w R y y':=by
 induction l generalizing r o x x' y with
 |nil=>cases r with
  |cons=>simp [RelDL]at h
  |nil=>cases o with
   |zero=>cases x with
    |nil=>cases x' with
     |nil=>simp [Sx.over]at hy;subst hy;exact⟨[],rfl,trivial⟩
     |cons=>simp [RelDL]at hx
    |cons=>simp [Sx.over]at hy
   |succ o=>simp [Sx.over]at hy
 |cons d l ih=>cases r with
  |nil=>simp [RelDL]at h
  |cons s r=>
   simp only [RelDL]at h;cases o with
   |zero=>cases x with
    |nil=>cases x' with
     |nil=>simp [Sx.over]at hy;subst hy;exact⟨s::r,rfl,h⟩
     |cons=>simp [RelDL]at hx
    |cons a x=>cases x' with
     |nil=>simp [RelDL]at hx
     |cons a' x'=>
      simp only [RelDL]at hx;simp only [Sx.over]at hy⊢;split at hy
      · rename_i q hq;cases hy;obtain⟨y',h1,h2⟩:=ih h.2 hx.2 hq;exact⟨a'::y',by rw [h1],hx.1,h2⟩
      · cases hy
   |succ o=>
    simp only [Sx.over]at hy⊢;split at hy
    · rename_i q hq;cases hy;obtain⟨y',h1,h2⟩:=ih h.2 hx hq;exact⟨s::y',by rw [h1],h.1,h2⟩
    · cases hy
theorem mkD_rel {agg:Bool} {l:List D} {r:List SV} {x:D} (h:RelDL ok w R l r) (hx:mkD agg l=some x):∃s,mkv agg r=some s∧RelD ok w R x s:=by
 unfold mkD at hx;split at hx
 · split at hx
   · rename_i hf;cases hx;refine⟨.agg r,rfl, ?_⟩;simp only [RelD];exact⟨r,rfl,h,hf⟩
   · cases hx
 · split at hx
   · cases hx;cases r with
     |nil=>simp [RelDL]at h
     |cons s r=>cases r with
      |nil=>simp only [RelDL]at h;exact⟨s,rfl,h.1⟩
      |cons=>simp [RelDL]at h
   · cases hx
 · cases hx
theorem kvalY_some {K:OutY→Prop} {x:Option D} (h:kvalY K x):∃s,x=some s∧K (.val s):=by
 cases x with
 |none=>exact h.elim
 |some s=>exact⟨s,rfl,h⟩
theorem RelD.cells {d:D} {s:SV} {l:List D} (h:RelD ok w R d s) (hc:cellsD d=some l):∃r,cellsL s=some r∧RelDL ok w R l r:=by
 have one:∀ {d:D} {s:SV},RelD ok w R d s→cellsL s=some [s]→∃r,cellsL s=some r∧RelDL ok w R [d] r:=fun h hs=>⟨_,hs,h,trivial⟩
 cases d<;>simp only [cellsD]at hc<;>first|cases hc|skip
 · refine one h ?_;simp only [RelD]at h;obtain⟨rfl,h⟩:=h;rename_i x;cases x<;>first|rfl|simp [oneV]at h
 · simp only [RelD]at h;obtain⟨cs,h1,h2,_⟩:=h;refine⟨cs, ?_,h2⟩;cases s<;>simp [aggL]at h1
   · rename_i x;cases x<;>simp at h1;subst h1;rfl
   · subst h1;rfl
 · refine one h ?_;simp only [RelD,Rep]at h;obtain⟨y,rfl,a,c,rfl,_⟩:=h;rfl
 · refine one h ?_;simp only [RelD,Rep]at h;obtain⟨y,rfl,a,c,xs,rfl,_⟩:=h;rfl
 · refine one h ?_;simp only [RelD]at h;rw [h.1];rfl
 · refine one h ?_;simp only [RelD]at h;rw [h.1];rfl
 · refine one h ?_;simp only [RelD]at h;rw [h.1];rfl
 · refine one h ?_;simp only [RelD]at h;rw [h.1];rfl
 · refine one h ?_;simp only [RelD]at h;rw [h.1];rfl
 · refine one h ?_;simp only [RelD]at h;rcases h with⟨p,q,rfl,_⟩|⟨p,q,rfl,_⟩<;>rfl
 · refine one h ?_;simp only [RelD,Rep]at h;obtain⟨y,rfl,r,es,c,rfl,_⟩:=h;rfl
theorem RelD.one {Hp:Hp} (hR:∀k,R true k→∃e,findE Hp k=some e∧isR e=true) {d:D} {s:SV} (h:RelD ok w R d s) (hd:oneD d=true):oneS Hp s=true:=by
 cases d<;>simp [oneD]at hd<;>simp only [RelD]at h
 · rw [h.1];exact h.2
 · obtain⟨y,rfl,h⟩:=h;exact h.one rfl
 · obtain⟨y,rfl,h⟩:=h;exact h.one rfl
 · rw [h.1];rfl
 · rw [h.1];rfl
 · obtain⟨e,hf,he⟩:=hR _ h.2;rw [h.1];cases e<;>first|(cases he;done)|simp [oneS,hf]
 · rw [h.1];rfl
 · rw [h.1];rfl
 · rcases h with⟨p,q,rfl,_⟩|⟨p,q,rfl,_⟩<;>rfl
 · obtain⟨y,rfl,h⟩:=h;exact h.one rfl
theorem RelDL.one {Hp:Hp} (hR:∀k,R true k→∃e,findE Hp k=some e∧isR e=true) {l:List D} {r:List SV} (h:RelDL ok w R l r) (hl:flatD l=true):oneL Hp r=true:=by
 induction l generalizing r with
 |nil=>cases r with
  |nil=>rfl
  |cons=>simp [RelDL]at h
 |cons d l ih=>cases r with
  |nil=>simp [RelDL]at h
  |cons y r=>
   simp only [RelDL]at h;simp only [oneL,h.1.one hR (flatD_mem hl List.mem_cons_self)];exact ih h.2 (flatD_of fun d hd=>flatD_mem hl (List.mem_cons_of_mem _ hd))
theorem vD_rel {l:List Value} (h:∀x,x∈l→oneV x=true):RelDL ok w R (vD l) (vs l):=by
 induction l with
 |nil=>trivial
 |cons x l ih=>
  refine⟨?_,ih fun y hy=>h y (List.mem_cons_of_mem _ hy)⟩;simp only [RelD];exact⟨trivial,h x List.mem_cons_self⟩
theorem noOwnL_mem {l:List D} (h:noOwnL l=true) {d:D} (hd:d∈l):noOwn d=true:=by
 induction l with
 |nil=>cases hd
 |cons x l ih=>
  simp only [noOwnL]at h;split at h
  · rename_i hx;rcases List.mem_cons.1 hd with rfl|hd
    · exact hx
    · exact ih h hd
  · cases h
theorem RelDL.vals {l:List D} {r:List SV} (h:RelDL ok w R l r) (hl:noOwnL l=true):∃xs,r=vs xs∧RepL ok w l xs:=by
 induction l generalizing r with
 |nil=>cases r with
  |nil=>exact⟨[],rfl,trivial⟩
  |cons=>simp [RelDL]at h
 |cons d l ih=>cases r with
  |nil=>simp [RelDL]at h
  |cons s r=>
   simp only [RelDL]at h;simp only [noOwnL]at hl;split at hl
   · rename_i hd;obtain⟨xs,rfl,hx⟩:=ih h.2 hl
     have:∃y,s= .v y∧Rep ok w d y:=by
      cases d<;>simp [noOwn]at hd
      · have:=h.1;simp only [RelD]at this;exact⟨_,this.1,by simp only [Rep];exact⟨trivial,this.2⟩⟩
      · have:=h.1;simp only [RelD]at this;exact this
      · have:=h.1;simp only [RelD]at this;exact this
     obtain⟨y,rfl,hy⟩:=this;exact⟨y::xs,rfl,hy,hx⟩
   · cases hl
end
theorem ment_vs (k:Nat) (l:List Value):mentL k (vs l)=false:=by
 induction l with
 |nil=>rfl
 |cons x l ih=>simp only [vs,mentL,ment];exact ih
mutual
theorem RelD.ment {ok:Nat→Prop} {w:World} {R:Bool→Nat→Prop} {k:Nat} (hR:∀q,¬R q k):∀(d:D) (s:SV),RelD ok w R d s→Sx.ment k s=false
 | .v x,s,h=>by simp only [RelD]at h;rw [h.1];rfl
 | .agg l,s,h=>by
  simp only [RelD]at h;obtain⟨cs,h1,h2,_⟩:=h;have:=RelDL.ment hR l _ h2;cases s<;>simp [aggL]at h1
  · rfl
  · subst h1;simpa [Sx.ment]using this
 | .lst z n l,s,h=>by simp only [RelD]at h;obtain⟨y,rfl,_⟩:=h;rfl
 | .ptr l o,s,h=>by simp only [RelD]at h;obtain⟨y,rfl,_⟩:=h;rfl
 | .own j o,s,h=>by
  simp only [RelD]at h;rw [h.1];simp only [Sx.ment];cases hb:Nat.beq j k with
  |false=>rfl
  |true=>have:=beqT hb;subst this;exact absurd h.2 (hR _)
 | .ownx j o,s,h=>by
  simp only [RelD]at h;rw [h.1];simp only [Sx.ment];cases hb:Nat.beq j k with
  |false=>rfl
  |true=>have:=beqT hb;subst this;exact absurd h.2 (hR _)
 | .row j z,s,h=>by
  simp only [RelD]at h;rw [h.1];simp only [Sx.ment];cases hb:Nat.beq j k with
  |false=>rfl
  |true=>have:=beqT hb;subst this;exact absurd h.2 (hR _)
 | .elr j z i o,s,h=>by
  simp only [RelD]at h;rw [h.1];simp only [Sx.ment];cases hb:Nat.beq j k with
  |false=>rfl
  |true=>have:=beqT hb;subst this;exact absurd h.2 (hR _)
 | .osl j o z n c,s,h=>by
  simp only [RelD]at h;rw [h.1];simp only [Sx.ment];cases hb:Nat.beq j k with
  |false=>rfl
  |true=>have:=beqT hb;subst this;exact absurd h.2 (hR _)
 | .tup l,s,h=>by
  simp only [RelD]at h;rcases h with⟨cs,rfl,h2⟩|⟨a,rfl,_⟩
  · simpa [Sx.ment]using RelDL.ment hR l _ h2
  · rfl
 | .fn f a b,s,h=>by
  simp only [RelD]at h;rcases h with⟨p,q,rfl,h2,h3⟩|⟨p,q,rfl,_⟩
  · simp only [Sx.ment,RelDL.ment hR a _ h2,RelDL.ment hR b _ h3]
  · rfl
 | .mp l,s,h=>by simp only [RelD]at h;obtain⟨y,rfl,_⟩:=h;rfl
 | .und,s,h=>by simp only [RelD]at h;rw [h];rfl
 | .bad,s,h=>by simp only [RelD]at h;rw [h];rfl
theorem RelDL.ment {ok:Nat→Prop} {w:World} {R:Bool→Nat→Prop} {k:Nat} (hR:∀q,¬R q k):∀(l:List D) (r:List SV),RelDL ok w R l r→mentL k r=false
 | [], [],_=>rfl
 |d::l,y::r,h=>by
  simp only [RelDL]at h;simp only [mentL,RelD.ment hR d y h.1];exact RelDL.ment hR l r h.2
 | [],_::_,h=>by simp [RelDL]at h
 |_::_, [],h=>by simp [RelDL]at h
end
def okS (A:Nat→Prop) (st:St) (b:Nat):Prop:=((b<st.lo∨∃p,p∈st.iv∧p.1≤b∧b<p.2)∧A b)∧b<st.w.heap.size∧neAll st.H b
def keyS (st:St) (q:Bool) (k:Nat):Prop:=k<st.nk∧(q=true→∃e,findE st.H k=some e∧isR e=true)
def RelE (ok:Nat→Prop) (w:World) (R:Bool→Nat→Prop):E→Ent→Prop
 | .blk cs ty, .blk _ cs' ty'=>ty=ty'∧RelDL ok w R cs cs'
 | .row z n l ty, .row _ n' xs z' ty'=>n=n'∧z=z'∧ty=ty'∧RepL ok w l xs∧flatD l=true∧l.length=n*z
 | .mp es ty, .mp _ es' ty'=>es=es'∧ty=ty'
 |_,_=>False
structure Sim (A:Nat→Prop) (st:St) (sy:Sy):Prop where
 T:∀d x,lookY sy.T d=some x→x= .bad∨∃s,look st.T d=some s∧RelD (okS A st) st.w (keyS st) x s
 H:∀k e,findY sy.H k=some e→∃e',findE st.H k=some e'∧RelE (okS A st) st.w (keyS st) e e'
 nk:sy.nk=st.nk
 fT:∀j,st.nk≤j→freshT j st.T=true
 fH:∀j,st.nk≤j→freshH j st.H=true
def RelOut (H:Hp) (ok:Nat→Prop) (w:World) (R:Bool→Nat→Prop):OutY→Out→Prop
 | .val x, .val s=>RelD ok w R x s∧x≠ .bad
 | .new cs ty sl, .new cs' ty' sl'=>ty=ty'∧RelDL ok w R cs cs'∧sl'=sl.map (·.2)
 | .newR l ty z n, .new cs' ty' sl'=>ty=ty'∧sl'=some n∧l.length=n*z∧n≤maxLen∧flatD l=true∧∃xs,cs'=vs xs∧RepL ok w l xs
 | .call f args, .call f' args'=>f=f'∧RelDL ok w R args args'
 | .upd k cs, .upd k' cs'=>k=k'∧RelDL ok w R cs cs'
 | .updR k l, .updR k' xs=>k=k'∧RepL ok w l xs∧flatD l=true∧∀v n ys z ty,findE H k=some (.row v n ys z ty)→l.length=n*z
 | .app e z b s x, .app e' z' b' s' x'=>e=e'∧z=z'∧b=b'∧RelD ok w R s s'∧RelD ok w R x x'
 |_,_=>False
def cx (X:Cy) (w0:World) (bor:List Nat):Cx:=⟨X.P,X.tt,w0,bor,X.nt,X.pl,X.dfs,X.sv⟩
theorem dropD_eq (n:Nat) (l:List D):dropD n l=l.drop n:=by
 induction n generalizing l with
 |zero=>rfl
 |succ n ih=>cases l with
  |nil=>rfl
  |cons x l=>simp [dropD,ih]
theorem takeD_eq {n:Nat} {l r:List D} (h:takeD n l=some r):r.length=n∧r=l.take n∧ .bad∉r:=by
 induction n generalizing l r with
 |zero=>simp [takeD]at h;subst h;simp
 |succ n ih=>cases l with
  |nil=>simp [takeD]at h
  |cons d l=>
   have hd:d≠ .bad:=fun e=>by subst e;simp [takeD]at h
   have h':(match takeD n l with|some r=>some (d::r)|none=>none)=some r:=by
    cases d<;>first|exact h|exact absurd rfl hd
   split at h'
   · rename_i q hq;cases h';obtain⟨h1,h2,h3⟩:=ih hq;exact⟨by simp [h1],by rw [List.take_succ_cons,←h2],by simp only [List.mem_cons,not_or];exact⟨fun e=>hd e.symm,h3⟩⟩
   · cases h'
theorem RepL.part {ok:Nat→Prop} {w:World} {l r:List D} {xs:List Value} (h:RepL ok w l xs) {n o:Nat} (hr:takeD n (dropD o l)=some r):RepL ok w r ((xs.drop o).take n)∧r.length=n∧(n=0∨o+n≤l.length):=by
 obtain⟨h1,h2,_⟩:=takeD_eq hr;rw [dropD_eq]at h2;refine⟨by rw [h2];exact(h.drop o).take n,h1, ?_⟩;have:=congrArg List.length h2;simp at this;omega
theorem valOf_rel {ok:Nat→Prop} {w:World} {R:Bool→Nat→Prop} {agg:Bool} {r:List D} {xs:List Value} {x:D} (h:RepL ok w r xs) (hx:mkD agg r=some x):∃s,valOf agg xs=some s∧RelD ok w R x s:=by
 unfold mkD at hx;split at hx
 · split at hx
   · rename_i hf;cases hx;refine⟨.agg (vs xs),rfl, ?_⟩;simp only [RelD];exact⟨vs xs,rfl,RepL.rel _ _ h,hf⟩
   · cases hx
 · split at hx
   · cases hx;cases xs with
     |nil=>simp [RepL]at h
     |cons y xs=>cases xs with
      |nil=>simp only [RepL]at h;exact⟨.v y,rfl,Rep.rel _ _ h.1⟩
      |cons=>simp [RepL]at h
   · cases hx
 · cases hx
theorem mkD_ne {agg:Bool} {r:List D} {x:D} (hx:mkD agg r=some x):x≠ .bad:=by
 unfold mkD at hx;split at hx
 · split at hx<;>cases hx;simp
 · split at hx
   · rename_i ho;cases hx;intro e;subst e;simp [oneD]at ho
   · cases hx
 · cases hx
theorem flatD_sub {l r:List D} (h:flatD l=true) (hs:∀d,d∈r→d∈l):flatD r=true:=flatD_of fun d hd=>flatD_mem h (hs d hd)
theorem el_len {l:List D} {z n i:Nat} (hl:l.length=n*z) (hi:i<n):(el l z i).length=z:=by
 have:(i+1)*z≤n*z:=Nat.mul_le_mul_right z hi;rw [Nat.add_mul]at this;simp [el,hl];omega
theorem el_mem {l:List D} {z i:Nat} {d:D} (h:d∈el l z i):d∈l:=List.mem_of_mem_drop (List.mem_of_mem_take h)
theorem over_of {α:Type} {o:Nat} {xs l:List α} (h:o+xs.length≤l.length):over o xs l=some (l.take o++xs++l.drop (o+xs.length)):=by
 induction l generalizing o xs with
 |nil=>
  simp at h;obtain⟨rfl,rfl⟩:=h;rfl
 |cons x l ih=>cases o with
  |zero=>cases xs with
   |nil=>simp [over]
   |cons y xs=>simp only [over];rw [ih (by simp at h⊢;omega)];simp
  |succ o=>simp only [over];rw [ih (by simp at h⊢;omega)];simp [Nat.add_right_comm]
theorem over_length {α:Type} {o:Nat} {xs l r:List α} (h:over o xs l=some r):r.length=l.length:=by
 obtain⟨h1,h2⟩:=over_eq h;rw [h1];simp;omega
theorem intOp_mono {op:BinOp} {k:IntKind} {a b:Int} {K K':Out→Prop} (hK:∀o,K o→K' o) (h:intOp op k a b K):intOp op k a b K':=by
 cases op<;>simp only [intOp]at h⊢<;>first|exact hK _ h|exact⟨h.1,hK _ h.2⟩|exact h
theorem strOp_mono {op:BinOp} {a b:ByteArray} {K K':Out→Prop} (hK:∀o,K o→K' o) (h:strOp op a b K):strOp op a b K':=by
 cases op<;>simp only [strOp]at h⊢<;>first|exact hK _ h|exact⟨h.1,hK _ h.2⟩|exact h
theorem shOp_mono {op:BinOp} {k:IntKind} {a b:Int} {K K':Out→Prop} (hK:∀o,K o→K' o) (h:shOp op k a b K):shOp op k a b K':=by
 cases op<;>simp only [shOp]at h⊢<;>exact⟨h.1,hK _ h.2⟩
theorem boolOp_mono {op:BinOp} {e:Bool} {K K':Out→Prop} (hK:∀o,K o→K' o) (h:boolOp op e K):boolOp op e K':=by
 cases op<;>simp only [boolOp]at h⊢<;>first|exact hK _ h|exact h
section
variable {A : Nat → Prop} {X : Cy} {w0 : World} {bor : List Nat} {st : St} {sy : Sy} {KY : OutY → Prop} {K : Out → Prop}
theorem evY_sim (hs:Sim A st sy) {x:Operand} {d:D} (h:evY sy x=some d):∃s,ev st x=some s∧RelD (okS A st) st.w (keyS st) d s∧d≠ .bad:=by
 cases x with
 |tmp t=>
  simp only [evY]at h;split at h
  · cases h
  · rename_i hb;have hne:d≠ .bad:=fun e=>hb (by rw [h,e])
    obtain⟨hlt,h⟩:=lookRY_some h;rcases hs.T t d h with e|⟨s,h1,h2⟩
    · exact absurd e hne
    · refine⟨s, ?_,h2,hne⟩;have hsb:=h2.ne hne;simp only [ev,lookR_of hlt,h1]
      try (cases s<;>first|rfl|exact absurd rfl hsb)
 |const v=>
  simp only [evY]at h;refine⟨.v v,rfl, ?_⟩;unfold ofV at h;split at h
  · rename_i a;split at h
    · rename_i ha;cases h;refine⟨?_,by simp⟩;simp only [RelD];refine⟨vs a.toList,rfl, ?_,flatD_of fun d hd=>by simp at hd;obtain⟨x,_,rfl⟩:=hd;rfl⟩
      have:∀l:List Value,l.all oneV=true→RelDL (okS A st) st.w (keyS st) (l.map D.v) (vs l):=by
       intro l
       induction l with
       |nil=>intro _;trivial
       |cons x l ih=>intro hl;simp at hl;exact⟨by simp only [RelD];exact⟨trivial,hl.1⟩,ih (by simpa using hl.2)⟩
      exact this _ ha
    · cases h
  · cases h
  · rename_i h1 h2;cases h;refine⟨?_,by simp⟩;simp only [RelD];refine⟨trivial, ?_⟩;unfold oneV;split
    · exact absurd rfl (h1 _)
    · exact absurd rfl (h2 _)
    · rfl
 |func f=>simp only [evY]at h;cases h;exact⟨_,rfl,by simp only [RelD];exact .inl ⟨[], [],rfl,trivial,trivial⟩,by simp⟩
 |global g=>simp [evY]at h
theorem evsY_sim (hs:Sim A st sy) {l:List Operand} {r:List D} (h:evsY sy l=some r):∃s,evs st l=some s∧RelDL (okS A st) st.w (keyS st) r s:=by
 induction l generalizing r with
 |nil=>simp only [evsY]at h;cases h;exact⟨[],rfl,trivial⟩
 |cons x l ih=>
  simp only [evsY]at h;split at h
  · rename_i d r' hd hr;cases h;obtain⟨s,h1,h2,_⟩:=evY_sim hs hd;obtain⟨s',h3,h4⟩:=ih hr;exact⟨s::s',by simp only [evs,h1,h3],h2,h4⟩
  · cases h
theorem rowsR (st:St):∀k,keyS st true k→∃e,findE st.H k=some e∧isR e=true:=fun _ h=>h.2 rfl
variable (hK : ∀ oy o, RelOut st.H (okS A st) st.w (keyS st) oy o → KY oy → K o)
include hK
theorem val_sim {x:D} {s:SV} (h:KY (.val x)) (hr:RelD (okS A st) st.w (keyS st) x s) (hne:x≠ .bad):K (.val s):=hK (.val x) (.val s) ⟨hr,hne⟩ h
theorem outOf_sim {o:Out} (h:outOf KY o):K o:=by
 unfold outOf at h;split at h
 · rename_i x;split at h
   · rename_i hx;refine hK (.val (.v x)) _ ⟨?_,by simp⟩ h;simp only [RelD];exact⟨trivial,hx⟩
   · exact h.elim
 · exact h.elim
theorem ev_sim (hs:Sim A st sy) {x:Operand} (h:kvalY KY (evY sy x)):kval K (ev st x):=by
 obtain⟨d,h1,h2⟩:=kvalY_some h;obtain⟨s,h3,h4,h5⟩:=evY_sim hs h1;rw [h3];exact val_sim hK h2 h4 h5
theorem mk_sim {agg:Bool} {l:List D} {r:List SV} (h:kvalY KY (mkD agg l)) (hr:RelDL (okS A st) st.w (keyS st) l r):kval K (mkv agg r):=by
 obtain⟨d,h1,h2⟩:=kvalY_some h;obtain⟨s,h3,h4⟩:=mkD_rel hr h1;rw [h3];exact val_sim hK h2 h4 (mkD_ne h1)
theorem loadY_sim (hs:Sim A st sy) {i:TI} {p:D} {s:SV} (h:loadY sy i p KY) (hr:RelD (okS A st) st.w (keyS st) p s):loadOf (cx X w0 bor) st i s K:=by
 unfold loadY at h;split at h
 · rename_i k o;simp only [RelD]at hr;obtain⟨rfl,_⟩:=hr;split at h
   · rename_i cs ty hf;obtain⟨e',hf',he⟩:=hs.H _ _ hf;cases e' with
     |row=>exact he.elim
     |mp=>exact he.elim
     |blk b cs' ty'=>
      split at h
      · rename_i l hl;obtain⟨r,h1,h2⟩:=(he.2.dropD o).takeD hl;simp only [loadOf,hf',h1];exact mk_sim hK h h2
      · exact h.elim
   · exact h.elim
 · rename_i k o;simp only [RelD]at hr;obtain⟨rfl,_⟩:=hr;split at h
   · rename_i cs ty hf;obtain⟨e',hf',he⟩:=hs.H _ _ hf;cases e' with
     |row=>exact he.elim
     |mp=>exact he.elim
     |blk b cs' ty'=>
      obtain⟨l,hl,h⟩:=h;obtain⟨r,h1,h2⟩:=(he.2.dropD o).takeD hl;simp only [loadOf,hf'];exact⟨r,h1,mk_sim hK h h2⟩
   · exact h.elim
 · rename_i k z j o;simp only [RelD]at hr;obtain⟨rfl,_⟩:=hr;split at h
   · rename_i z' n l ty hf;obtain⟨e',hf',he⟩:=hs.H _ _ hf;cases e' with
     |blk=>exact he.elim
     |mp=>exact he.elim
     |row v n' xs sz ty'=>
      obtain⟨rfl,rfl,rfl,hrep,hfl,hlen⟩:=he;split at h
      · rename_i hz;obtain rfl:=beqT hz;obtain⟨cs,⟨rfl,hj⟩,h⟩:=h;split at h
        · rename_i r hr hbl;have hbl:=Nat.le_of_ble_eq_true hbl;have hel:RepL (okS A st) st.w (el l z' j) ((xs.drop (j*z')).take z'):=(hrep.drop _).take _;obtain⟨h1,h2,h3⟩:=hel.part hr;obtain⟨x,hx,hkx⟩:=kvalY_some h;obtain⟨s,h4,h5⟩:=valOf_rel (R:=keyS st) h1 hx;simp only [loadOf,hf'];have hle:=el_len hlen hj;have hjz:(j+1)*z'≤n*z':=Nat.mul_le_mul_right z' hj;rw [Nat.add_mul]at hjz;refine⟨_,⟨by rw [←h1.length,h2],by omega,fun jj hjj=> ?_⟩,by rw [h4];exact val_sim hK hkx h5 (mkD_ne hx)⟩;rw [List.getElem?_take,if_pos hjj,List.getElem?_drop,List.getElem?_take,if_pos (by omega),List.getElem?_drop];congr 1;omega
        · exact h.elim
      · exact h.elim
   · exact h.elim
 · rename_i l o;simp only [RelD,Rep]at hr;obtain⟨y,rfl,b,p,xs,rfl,hok,hfl,hrep,hmem⟩:=hr;split at h
   · rename_i r hr;obtain⟨h1,h2,h3⟩:=hrep.part hr;obtain⟨x,hx,hkx⟩:=kvalY_some h;obtain⟨s,h4,h5⟩:=valOf_rel (R:=keyS st) h1 hx;simp only [loadOf];refine⟨_,⟨by rw [←h1.length,h2], .inr ⟨hok.2.2,fun jj hjj=> ?_⟩⟩,by rw [h4];exact val_sim hK hkx h5 (mkD_ne hx)⟩;rw [show p+o+jj=p+(o+jj) from by omega,hmem (o+jj) (by omega),List.getElem?_take,if_pos hjj,List.getElem?_drop]
   · exact h.elim
 · exact h.elim
theorem storeY_sim (hs:Sim A st sy) {i:TI} {p d:D} {s t:SV} (h:storeY sy i p d KY) (hr:RelD (okS A st) st.w (keyS st) p s) (hd:RelD (okS A st) st.w (keyS st) d t):storeOf st i s t K:=by
 unfold storeY at h;split at h
 · rename_i l hl;obtain⟨r,hc,hrl⟩:=hd.cells hl;split at h
   · rename_i hn hfl;simp only [storeOf,hc,←hrl.length,hn,hrl.one (rowsR st) hfl];split at h
     · rename_i k o;simp only [RelD]at hr;obtain⟨rfl,_⟩:=hr;split at h
       · rename_i cs ty hf;obtain⟨e',hf',he⟩:=hs.H _ _ hf;cases e' with
         |row=>exact he.elim
         |mp=>exact he.elim
         |blk b cs' ty'=>
          split at h
          · rename_i q hq;obtain⟨q',h1,h2⟩:=he.2.over hrl hq;simp only [hf',h1];exact hK (.upd k q) _ ⟨rfl,h2⟩ h
          · exact h.elim
       · exact h.elim
     · rename_i k o;simp only [RelD]at hr;obtain⟨rfl,_⟩:=hr;split at h
       · rename_i cs ty hf;obtain⟨e',hf',he⟩:=hs.H _ _ hf;cases e' with
         |row=>exact he.elim
         |mp=>exact he.elim
         |blk b cs' ty'=>
          obtain⟨q,hq,h⟩:=h;obtain⟨q',h1,h2⟩:=he.2.over hrl hq;simp only [hf'];exact⟨q',h1,hK (.upd k q) _ ⟨rfl,h2⟩ h⟩
       · exact h.elim
     · rename_i k z j o;simp only [RelD]at hr;obtain⟨rfl,_⟩:=hr;split at h
       · rename_i z' n q ty hf;obtain⟨e',hf',he⟩:=hs.H _ _ hf;cases e' with
         |blk=>exact he.elim
         |mp=>exact he.elim
         |row v n' xs sz ty'=>
          obtain⟨rfl,rfl,rfl,hrep,hfq,hlen⟩:=he;split at h
          · rename_i hz hno;obtain rfl:=beqT hz;obtain⟨cs,⟨rfl,hj⟩,h⟩:=h;split at h
            · rename_i cs' ho;obtain⟨r',rfl,h⟩:=h;obtain⟨vals,rfl,hv⟩:=hrl.vals hno;obtain⟨hcs,hle⟩:=over_eq ho;have hel:=el_len hlen hj;have hjz:(j+1)*z'≤n*z':=Nat.mul_le_mul_right z' hj;rw [Nat.add_mul]at hjz;have hvl:=hv.length;have hxl:=hrep.length;have hov:over (j*z'+o) vals xs=some (xs.take (j*z'+o)++vals++xs.drop (j*z'+o+vals.length)):=over_of (by omega);simp only [hf'];refine⟨_,by rw [denL_vs];exact hov,hK (.updR k _) _ ⟨rfl, ?_, ?_,fun v n ys z ty hq=> ?_⟩ h⟩
              · have e1:setEl q z' j cs'=q.take (j*z'+o)++l++q.drop (j*z'+o+l.length):=by
                 rw [hcs];simp only [setEl,el]
                 have a1:q.take (j*z'+o)=q.take (j*z')++((q.drop (j*z')).take z').take o:=by
                  rw [List.take_add,List.take_take,Nat.min_eq_left (by omega)]
                 have a2:q.drop (j*z'+o+l.length)=((q.drop (j*z')).take z').drop (o+l.length)++q.drop (j*z'+z'):=by
                  rw [List.drop_take,List.drop_drop];have:q.drop (j*z'+z')=(q.drop (j*z'+(o+l.length))).drop (z'-(o+l.length)):=by rw [List.drop_drop];congr 1;omega
                  rw [this,List.take_append_drop];congr 1;omega
                 rw [a1,a2];simp [List.append_assoc]
                rw [e1,←hvl];exact(((hrep.take _).app hv).app (hrep.drop _))
              · refine flatD_of fun d hd=> ?_
                simp only [setEl,hcs,List.mem_append]at hd;rcases hd with(hd|(hd|hd)|hd)|hd
                · exact flatD_mem hfq (List.mem_of_mem_take hd)
                · exact flatD_mem hfq (el_mem (List.mem_of_mem_take hd))
                · exact flatD_mem hfl hd
                · exact flatD_mem hfq (el_mem (List.mem_of_mem_drop hd))
                · exact flatD_mem hfq (List.mem_of_mem_drop hd)
              · rw [hf']at hq;cases hq;have hcl:=over_length ho;simp only [setEl,List.length_append,List.length_take,List.length_drop,hcl,hel,hlen];omega
            · exact h.elim
          · exact h.elim
       · exact h.elim
     · exact h.elim
   · exact h.elim
 · exact h.elim
end
theorem findM_now {i:Int} {f:Nat}:∀(l:List (Int×Nat)) (es:List MapEntry) (k:Nat),es.map (fun e=>(e.key,e.val))=l.map (fun p=>(Value.int .i64 p.1,Value.func (.func p.2) #[] #[]))→findM l i=some f→
 ∃j,Instr.findNow (.int .i64) (.int .i64 i) es k=some (some (j, .func (.func f) #[] #[]))
 | [],_,_,_,h=>by simp [findM]at h
 |(a,g)::l, [],_,he,_=>by simp at he
 |(a,g)::l,e::es,k,he,h=>by
  simp only [List.map_cons,List.cons.injEq,Prod.mk.injEq]at he;obtain⟨⟨h1,h2⟩,h3⟩:=he;have hs:Instr.sameNow (.int .i64) (.int .i64 i) e.key=some (i==a):=by rw [h1];simp [Instr.sameNow]
  simp only [findM]at h;simp only [Instr.findNow,hs];cases hb:(i==a)with
  |true=>rw [hb]at h;cases h;exact⟨k,by rw [h2]⟩
  |false=>rw [hb]at h;exact findM_now l es (k+1) h3 h
theorem valsV_vs {ok:Nat→Prop} {w:World} {R:Bool→Nat→Prop}:∀ {l:List D} {kc:List Value} {cs:List SV},valsV l=some kc→RelDL ok w R l cs→cs=vs kc
 | [],kc,cs,h,hr=>by
  simp only [valsV]at h;cases h;cases cs with
  |nil=>rfl
  |cons=>simp [RelDL]at hr
 |d::l,kc,cs,h,hr=>by
  cases cs with
  |nil=>simp [RelDL]at hr
  |cons c cs=>
   simp only [RelDL]at hr;cases d<;>simp only [valsV]at h<;>try cases h
   split at h
   · rename_i r hr';cases h;have h2:=hr.1;simp only [RelD]at h2;rw [h2.1,valsV_vs hr' hr.2];rfl
   · cases h
theorem vs_inj:∀ {a b:List Value},vs a=vs b→a=b
 | [], [],_=>rfl
 |x::a,y::b,h=>by simp only [vs,List.cons.injEq,SV.v.injEq]at h;rw [h.1,vs_inj h.2]
 | [],_::_,h=>by simp [vs]at h
 |_::_, [],h=>by simp [vs]at h
theorem keyCells_den {ok:Nat→Prop} {w:World} {R:Bool→Nat→Prop} {H:Hp} {ag:Bool} {kd:D} {kc:List Value} {s:SV} (h:keyCells ag kd=some kc) (hr:RelD ok w R kd s):den H s=mkKey ag kc:=by
 unfold keyCells at h;split at h
 · rename_i l;simp only [RelD]at hr;obtain⟨cs,h1,h2,_⟩:=hr;have:=valsV_vs h h2;subst this;cases s<;>simp [aggL]at h1
   · rename_i y;cases y<;>simp at h1;have:=vs_inj h1;simp [den,mkKey,←this]
   · subst h1;simp [den,mkKey,denL_vs]
 · cases h;simp only [RelD]at hr;rw [hr.1];simp [den,mkKey]
 · cases h
section
variable {A : Nat → Prop} {ok : Nat → Prop} {w : World} {R : Bool → Nat → Prop}
theorem RelD.int {k:IntKind} {a:Int} {s:SV} (h:RelD ok w R (.v (.int k a)) s):s= .v (.int k a):=by simp only [RelD]at h;exact h.1
theorem RelD.sc {x:Value} {s:SV} (h:RelD ok w R (.v x) s):s= .v x:=by simp only [RelD]at h;exact h.1
theorem eqC_sim {k:CK} {x y:D} {s t:SV} {e:Bool} (h:eqCY k x y=some e) (h1:RelD ok w R x s) (h2:RelD ok w R y t):eqC k s t=some e:=by
 unfold eqCY at h;split at h
 · rw [h1.sc,h2.sc];exact h
 · rw [h1.sc,h2.sc];exact h
 · rw [h1.sc,h2.sc];exact h
 · cases h
theorem eqCs_sim {ks : List CK} {l m : List D} {s t : List SV} {e : Bool} (h : eqCsY ks l m = some e) (h1 : RelDL ok w R l s) (h2 : RelDL ok w R m t) : eqCs ks s t = some e := by
  induction ks generalizing l m s t e with
  | nil => cases l <;> cases m <;> simp [eqCsY] at h
           cases s <;> cases t <;> simp [RelDL] at h1 h2;simpa [eqCs] using h
  | cons k ks ih =>
    cases l with
    | nil => cases m <;> simp [eqCsY] at h
    | cons x l => cases m with
      | nil => simp [eqCsY] at h
      | cons y m => cases s with
        | nil => simp [RelDL] at h1
        | cons s ss => cases t with
          | nil => simp [RelDL] at h2
          | cons t tt =>
            simp only [RelDL] at h1 h2
            have gen : ∀ {e}, (match eqCY k x y, eqCsY ks l m with | some a, some b => some (a && b) | _, _ => none) = some e → (match eqC k s t, eqCs ks ss tt with | some a, some b => some (a && b) | _, _ => none) = some e := by
              intro e h;split at h
              · rename_i a b ha hb;cases h;rw [eqC_sim ha h1.1 h2.1, ih hb h1.2 h2.2]
              · cases h
            cases ks with
            | nil => cases l with
              | nil => cases m with
                | nil => cases ss <;> cases tt <;> simp [RelDL] at h1 h2
                         simp only [eqCsY] at h;simp only [eqCs];exact eqC_sim h h1 h2
                | cons => simp [eqCsY] at h
              | cons => cases m <;> simp [eqCsY] at h
            | cons k' ks' =>
              have e1 : eqCsY (k :: k' :: ks') (x :: l) (y :: m) = (match eqCY k x y, eqCsY (k' :: ks') l m with | some a, some b => some (a && b) | _, _ => none) := by
                cases l <;> cases m <;> rfl
              have e2 : eqCs (k :: k' :: ks') (s :: ss) (t :: tt) = (match eqC k s t, eqCs (k' :: ks') ss tt with | some a, some b => some (a && b) | _, _ => none) := by
                cases ss <;> cases tt <;> rfl
              rw [e1] at h;rw [e2];exact gen h
theorem cellsA_sim {b:Bool} {x:D} {s:SV} {l:List D} (h:cellsAD b x=some l) (h1:RelD ok w R x s):(∃r,cellsA b s=some r∧RelDL ok w R l r)∧((b=true∧∃cs,aggL s=some cs)∨(∃c,s= .v (.bool c))):=by
 unfold cellsAD at h;split at h
 · cases h;simp only [RelD]at h1;obtain⟨cs,h2,h3,_⟩:=h1;refine⟨⟨cs, ?_,h3⟩, .inl ⟨rfl,cs,h2⟩⟩;cases s<;>simp [aggL]at h2
   · rename_i y;cases y<;>simp at h2;subst h2;rfl
   · subst h2;rfl
 · cases h;have:=h1.sc;subst this;exact⟨⟨_,rfl,h1,trivial⟩, .inr ⟨_,rfl⟩⟩
 · cases h
theorem aggD_sim {x:D} {s:SV} {l:List D} (h:aggD x=some l) (h1:RelD ok w R x s):∃r,aggL s=some r∧RelDL ok w R l r:=by
 unfold aggD at h;split at h
 · cases h;simp only [RelD]at h1;obtain⟨cs,h2,h3,_⟩:=h1;exact⟨cs,h2,h3⟩
 · cases h
theorem ptrAdd_sim {x y:D} {s:SV} {off:Nat} (h:ptrAddY x off=some y) (h1:RelD ok w R x s):∃t,ptrAdd s off=some t∧RelD ok w R y t∧y≠ .bad:=by
 unfold ptrAddY at h;split at h
 · cases h;simp only [RelD]at h1;obtain⟨rfl,h1⟩:=h1;exact⟨_,rfl,by simp only [RelD];exact⟨trivial,h1⟩,by simp⟩
 · cases h;simp only [RelD]at h1;obtain⟨rfl,h1⟩:=h1;exact⟨_,rfl,by simp only [RelD];exact⟨trivial,h1⟩,by simp⟩
 · cases h;simp only [RelD]at h1;obtain⟨rfl,h1⟩:=h1;exact⟨_,rfl,by simp only [RelD];exact⟨by rw [Nat.add_assoc],h1⟩,by simp⟩
 · cases h;simp only [RelD,Rep]at h1;obtain⟨y,rfl,b,p,xs,rfl,h2,h3,h4,h5⟩:=h1;refine⟨_,rfl, ?_,by simp⟩;simp only [RelD,Rep];exact⟨_,rfl,b,p,xs,by rw [Nat.add_assoc],h2,h3,h4,h5⟩
 · cases h
theorem ptrAddx_sim {x y:D} {s:SV} {off:Nat} (h:ptrAddxY x off=some y) (h1:RelD ok w R x s):∃t,ptrAddx s off=some t∧RelD ok w R y t∧y≠ .bad:=by
 unfold ptrAddxY at h;split at h
 · cases h;simp only [RelD]at h1;obtain⟨rfl,h1⟩:=h1;exact⟨_,rfl,by simp only [RelD];exact⟨trivial,h1⟩,by simp⟩
 · cases h;simp only [RelD]at h1;obtain⟨rfl,h1⟩:=h1;exact⟨_,rfl,by simp only [RelD];exact⟨trivial,h1⟩,by simp⟩
 · cases h;simp only [RelD,Rep]at h1;obtain⟨y,rfl,b,p,xs,rfl,h2,h3,h4,h5⟩:=h1;refine⟨_,rfl, ?_,by simp⟩;simp only [RelD,Rep];exact⟨_,rfl,b,p,xs,by rw [Nat.add_assoc],h2,h3,h4,h5⟩
 · cases h
theorem RelDL.one1 {d:D} {s:List SV} (h:RelDL ok w R [d] s):∃s1,s= [s1]∧RelD ok w R d s1:=by
 match s,h with
 | [s1],h=>exact⟨s1,rfl,h.1⟩
theorem RelDL.three {a b c:D} {s:List SV} (h:RelDL ok w R [a,b,c] s):∃s1 s2 s3,s= [s1,s2,s3]∧RelD ok w R a s1∧RelD ok w R b s2∧RelD ok w R c s3:=by
 match s,h with
 | [s1,s2,s3],h=>exact⟨s1,s2,s3,rfl,h.1,h.2.1,h.2.2.1⟩
theorem RelDL.two {d e:D} {s:List SV} (h:RelDL ok w R [d,e] s):∃s1 s2,s= [s1,s2]∧RelD ok w R d s1∧RelD ok w R e s2:=by
 match s,h with
 | [s1,s2],h=>exact⟨s1,s2,rfl,h.1,h.2.1⟩
theorem el_rep {l:List D} {z n b o:Nat} {i:Int} {xs:List Value} (hlen:l.length=n*z) (hfl:flatD l=true) (hok:ok b) (hrep:RepL ok w l xs) (hcell:∀j,j<n*z→w.cell? ⟨b,o+j,none⟩=xs[j]?) (h0:0≤i) (hlt:i<n):
 Rep ok w (.ptr (el l z i.toNat) 0) (.pointer (some ⟨b,o+i.toNat*z,none⟩)):=by
 have hj:i.toNat<n:=by omega
 have hel:=el_len hlen hj;have hjz:(i.toNat+1)*z≤n*z:=Nat.mul_le_mul_right z hj;rw [Nat.add_mul]at hjz;simp only [Rep];refine⟨b,o+i.toNat*z,(xs.drop (i.toNat*z)).take z,rfl,hok,flatD_sub hfl fun d hd=>el_mem hd,(hrep.drop _).take _,fun j hj=> ?_⟩;rw [hel]at hj;rw [show o+i.toNat*z+j=o+(i.toNat*z+j) from by omega,hcell _ (by omega),List.getElem?_take,if_pos hj,List.getElem?_drop]
theorem sub_rep {l:List D} {z n p q c':Nat} {a a':Option Addr} {m:Nat} {xs:List Value} (hlen:l.length=n*z) (hmx:(n:Int)≤9223372036854775807) (hfl:flatD l=true)
 (hmem:c'=0∨∃b o xs,a=some ⟨b,o,none⟩∧ok b∧RepL ok w l xs∧∀j,j<n*z→w.cell? ⟨b,o+j,none⟩=xs[j]?) (hpq:p≤q) (hqn:q≤n) (hqc:q≤c') (ha':a'=subA a p c' z):
 Rep ok w (.lst z (q-p) ((l.drop (p*z)).take ((q-p)*z))) (.slice a' (q-p) (c'-p)):=by
 simp only [Rep];have hqz:q*z≤n*z:=Nat.mul_le_mul_right z hqn;have hpz:p*z≤q*z:=Nat.mul_le_mul_right z hpq;refine⟨a',c'-p,rfl,by omega,by omega,by simp [hlen,Nat.sub_mul];omega,flatD_sub hfl fun d hd=>List.mem_of_mem_drop (List.mem_of_mem_take hd), ?_⟩;rcases hmem with rfl|⟨b,o,xs,rfl,hok,hrep,hcell⟩
 · left;omega
 · right;have hq:(q-p)*z=q*z-p*z:=Nat.sub_mul ..;by_cases hpc:c'=p
   · refine⟨b,o,(xs.drop (p*z)).take ((q-p)*z), ?_,hok,(hrep.drop _).take _,fun j hj=> ?_⟩
     · rw [ha'];unfold subA;rw [if_pos hpc]
     · have:q=p:=by omega
       subst this;simp at hj
   · refine⟨b,o+p*z,(xs.drop (p*z)).take ((q-p)*z), ?_,hok,(hrep.drop _).take _,fun j hj=> ?_⟩
     · rw [ha'];unfold subA;rw [if_neg hpc];simp [add_off]
     · rw [show o+p*z+j=o+(p*z+j) from by omega,hcell _ (by omega),List.getElem?_take,if_pos hj,List.getElem?_drop]
theorem binOp_gen {X:Cx} {st:St} {x y:Operand} {s t:SV} {op:BinOp} {ty yt:TypeId} {K:Out→Prop} {n:Nat} {agg:Bool} {z:List Value} {ks:List CK} {d:TD} {l m:List SV} {e:Bool} (hs:ev st x=some s) (ht:ev st y=some t)
 (n1:∀k a,s≠ .v (.int k a)) (n2:∀a,s≠ .v (.string a)) (hi:getT X.tt ty=some ⟨n,agg,z,some ks,d⟩) (hl:cellsA agg s=some l) (hm:cellsA agg t=some m) (he:eqCs ks l m=some e) (h:boolOp op e K):ev1 X st (.binOp op ty x y yt) K:=by
 simp only [ev1,hs,ht];split
 · rename_i e1 _;cases e1;exact absurd rfl (n1 _ _)
 · rename_i e1 _;cases e1;exact absurd rfl (n2 _)
 · rename_i e1 e2;cases e1;cases e2;rw [hi];simp only [hl,hm,he];exact h
 · rename_i hno;exact hno _ _ rfl rfl
theorem fillA_len {z:Nat} {st:Sy}:∀ {ps:List (Nat×Operand)} {l l':List D},fillAY z st ps l=some l'→l'.length=l.length
 | [],l,l',h=>by simp only [fillAY]at h;cases h;rfl
 |(i,x)::ps,l,l',h=>by
  simp only [fillAY]at h;split at h
  · split at h
    · split at h
      · split at h
        · rename_i q hq;rw [fillA_len h,over_length hq]
        · cases h
      · cases h
    · cases h
  · cases h
theorem vD_len (l:List Value):(vD l).length=l.length:=by
 induction l with
 |nil=>rfl
 |cons x l ih=>simp [vD,ih]
theorem repD_len (n:Nat) (l:List D):(repD n l).length=n*l.length:=by
 induction n with
 |zero=>simp [repD]
 |succ n ih=>simp [repD,ih,Nat.add_mul,Nat.add_comm]
theorem vD_no (l:List Value):noOwnL (vD l)=true:=by
 induction l with
 |nil=>rfl
 |cons x l ih=>simp only [vD,noOwnL,noOwn];exact ih
theorem noOwn_app {l r:List D} (h:noOwnL l=true) (h':noOwnL r=true):noOwnL (l++r)=true:=by
 induction l with
 |nil=>exact h'
 |cons x l ih=>
  simp only [noOwnL]at h;simp only [List.cons_append,noOwnL];cases hx:noOwn x with
  |true=>rw [hx]at h;exact ih h
  |false=>rw [hx]at h;cases h
theorem repD_no (n:Nat) {l:List D} (h:noOwnL l=true):noOwnL (repD n l)=true:=by
 induction n with
 |zero=>rfl
 |succ n ih=>exact noOwn_app h ih
theorem noOwn_one {l:List D} (h:noOwnL l=true):flatD l=true:=flatD_of fun d hd=>by
 have:=noOwnL_mem h hd;cases d<;>simp [noOwn]at this<;>rfl
theorem repD_sim {l:List D} {r:List SV} (h:RelDL ok w R l r) (n:Nat):RelDL ok w R (repD n l) (repL n r):=by
 induction n with
 |zero=>trivial
 |succ n ih=>exact h.app ih
end
section
variable {A : Nat → Prop} {X : Cy} {w0 : World} {bor : List Nat} {st : St} {sy : Sy} {KY : OutY → Prop} {K : Out → Prop}
theorem fillS_sim (hs:Sim A st sy) {fs:List (Nat×Nat×Nat)}:∀ {ps:List (Nat×Operand)} {l l':List D} {r:List SV},fillSY fs sy ps l=some l'→RelDL (okS A st) st.w (keyS st) l r→
 ∃r',fillS fs st ps r=some r'∧RelDL (okS A st) st.w (keyS st) l' r'
 | [],l,l',r,h,hr=>by simp only [fillSY]at h;cases h;exact⟨r,rfl,hr⟩
 |(i,x)::ps,l,l',r,h,hr=>by
  simp only [fillSY]at h;split at h
  · rename_i a off n d hn hd;obtain⟨s,h1,h2,_⟩:=evY_sim hs hd;split at h
    · rename_i cs hc;obtain⟨cs',h3,h4⟩:=h2.cells hc;split at h
      · rename_i hl hf;split at h
        · rename_i q hq;obtain⟨q',h5,h6⟩:=hr.over h4 hq;obtain⟨r',h7,h8⟩:=fillS_sim hs h h6;refine⟨r', ?_,h8⟩;simp only [fillS,hn,h1,h3,←h4.length,hl,h4.one (rowsR st) hf,h5];exact h7
        · cases h
      · cases h
    · cases h
  · cases h
theorem fillA_sim (hs:Sim A st sy) {z:Nat}:∀ {ps:List (Nat×Operand)} {l l':List D} {r:List SV},fillAY z sy ps l=some l'→RelDL (okS A st) st.w (keyS st) l r→
 ∃r',fillA z st ps r=some r'∧RelDL (okS A st) st.w (keyS st) l' r'
 | [],l,l',r,h,hr=>by simp only [fillAY]at h;cases h;exact⟨r,rfl,hr⟩
 |(i,x)::ps,l,l',r,h,hr=>by
  simp only [fillAY]at h;split at h
  · rename_i d hd;obtain⟨s,h1,h2,_⟩:=evY_sim hs hd;split at h
    · rename_i cs hc;obtain⟨cs',h3,h4⟩:=h2.cells hc;split at h
      · rename_i hl hf;split at h
        · rename_i q hq;obtain⟨q',h5,h6⟩:=hr.over h4 hq;obtain⟨r',h7,h8⟩:=fillA_sim hs h h6;refine⟨r', ?_,h8⟩;simp only [fillA,h1,h3,←h4.length,hl,h4.one (rowsR st) hf,h5];exact h7
        · cases h
      · cases h
    · cases h
  · cases h
theorem bnd_sim (hs:Sim A st sy) {len cap cap':Nat} {lo hi mx:Option Operand} {B:Nat→Nat→Nat→Prop} {B':Nat→Nat→Nat→Prop} (hc:cap≤cap') (hlc:len≤cap) (h:bndY sy len cap lo hi mx B)
 (hB:∀a b m,a≤b→b≤cap→B a b m→B' a b cap'):bnd st len cap' lo hi mx B':=by
 unfold bndY at h;split at h
 · split at h
   · split at h
     · exact hB _ _ _ (Nat.zero_le _) hlc h
     · split at h
       · rename_i hl;obtain⟨s,h1,h2,_⟩:=evY_sim hs hl;have:=h2.sc;subst this;simp only [bnd,h1];refine⟨h.1,hB _ _ _ (by omega) hlc h.2⟩
       · exact h.elim
   · split at h
     · rename_i hl;obtain⟨s,h1,h2,_⟩:=evY_sim hs hl;have:=h2.sc;subst this;simp only [bnd,h1];refine⟨⟨h.1.1,by omega⟩, ?_⟩;replace h:=h;obtain⟨h0,h⟩:=h;split at h
       · exact hB _ _ _ (Nat.zero_le _) (by omega) h
       · split at h
         · rename_i hl2;obtain⟨s,h3,h4,_⟩:=evY_sim hs hl2;have:=h4.sc;subst this;simp only [h3];exact⟨h.1,hB _ _ _ (by omega) (by omega) h.2⟩
         · exact h.elim
     · exact h.elim
 · exact h.elim
theorem bndX_sim (hs:Sim A st sy) {len cap cap':Nat} {lo hi:Option Operand} {m:Operand} {B:Nat→Nat→Prop} {B':Nat→Nat→Nat→Prop} (hc:cap≤cap') (h:bndX sy cap lo hi m B)
 (hB:∀a b x,a≤b→b≤x→x≤cap→B a b→B' a b x):bnd st len cap' lo hi (some m) B':=by
 unfold bndX at h;split at h
 · rename_i hm;obtain⟨s,h1,h2,_⟩:=evY_sim hs hm;have:=h2.sc;subst this;obtain⟨h0,h⟩:=h;simp only [bnd,h1];refine⟨⟨h0.1,by omega⟩, ?_⟩;split at h
   · rename_i hh;obtain⟨s,h3,h4,_⟩:=evY_sim hs hh;have:=h4.sc;subst this;obtain⟨h5,h⟩:=h;simp only [h3];refine⟨h5, ?_⟩;split at h
     · exact hB _ _ _ (Nat.zero_le _) (by omega) (by omega) h
     · split at h
       · rename_i hl;obtain⟨s,h6,h7,_⟩:=evY_sim hs hl;have:=h7.sc;subst this;simp only [h6];exact⟨h.1,hB _ _ _ (by omega) (by omega) (by omega) h.2⟩
       · exact h.elim
   · exact h.elim
 · exact h.elim
variable (hK : ∀ oy o, RelOut st.H (okS A st) st.w (keyS st) oy o → KY oy → K o)
include hK
theorem sc_sim {x:Value} (h:KY (.val (.v x))) (ho:oneV x=true):K (.val (.v x)):=val_sim hK h (by simp only [RelD];exact⟨trivial,ho⟩) (by simp)
theorem builtin_sim (hs:Sim A st sy) {b:Builtin} {args:List Operand} {tys:List TypeId} (h:builtinY X sy b args tys KY):evBuiltin (cx X w0 bor) st b args tys K:=by
 unfold builtinY at h;split at h
 · split at h
   · rename_i ht he;obtain⟨s,h1,h2⟩:=evsY_sim hs he;obtain⟨s1,rfl,h3⟩:=h2.one1;have:=h3.sc;subst this;simp only [evBuiltin,cx,ht,h1];exact sc_sim hK h rfl
   · rename_i ht he;obtain⟨s,h1,h2⟩:=evsY_sim hs he;obtain⟨s1,rfl,h3⟩:=h2.one1;simp only [RelD,Rep]at h3;obtain⟨y,rfl,a,c,rfl,_⟩:=h3;simp only [evBuiltin,cx,ht,h1];exact sc_sim hK h rfl
   · rename_i ht he;obtain⟨s,h1,h2⟩:=evsY_sim hs he;obtain⟨s1,rfl,h3⟩:=h2.one1;simp only [RelD]at h3;obtain⟨rfl,_⟩:=h3;simp only [evBuiltin,cx,ht,h1];exact sc_sim hK h rfl
   · rename_i ht he;obtain⟨s,h1,h2⟩:=evsY_sim hs he;obtain⟨s1,rfl,h3⟩:=h2.one1;simp only [RelD]at h3;obtain⟨rfl,_⟩:=h3;split at h
     · rename_i hf;obtain⟨e',hf',he⟩:=hs.H _ _ hf;cases e' with
       |blk=>exact he.elim
       |mp=>exact he.elim
       |row v n' xs z' ty'=>
        obtain⟨rfl,_⟩:=he;simp only [evBuiltin,cx,ht,h1,hf'];exact sc_sim hK h rfl
     · exact h.elim
   · rename_i ht he;obtain⟨s,h1,h2⟩:=evsY_sim hs he;obtain⟨s1,rfl,h3⟩:=h2.one1;have:=h3.sc;subst this;simp only [evBuiltin,cx,ht,h1];exact sc_sim hK h rfl
   · exact h.elim
 · split at h
   · rename_i he;obtain⟨s,h1,h2⟩:=evsY_sim hs he;obtain⟨s1,s2,rfl,h3,h4⟩:=h2.two;have:=h3.sc;subst this;have:=h4.sc;subst this;simp only [evBuiltin,h1];exact sc_sim hK h rfl
   · rename_i he;obtain⟨s,h1,h2⟩:=evsY_sim hs he;obtain⟨s1,s2,s3,rfl,h3,h4,h5⟩:=h2.three;have:=h3.sc;subst this;have:=h4.sc;subst this;have:=h5.sc;subst this;simp only [evBuiltin,h1];exact sc_sim hK h rfl
   · exact h.elim
 · split at h
   · rename_i he;obtain⟨s,h1,h2⟩:=evsY_sim hs he;obtain⟨s1,s2,rfl,h3,h4⟩:=h2.two;have:=h3.sc;subst this;have:=h4.sc;subst this;simp only [evBuiltin,h1];exact sc_sim hK h rfl
   · exact h.elim
 · split at h
   · rename_i hb ht he;obtain⟨s,h1,h2⟩:=evsY_sim hs he;obtain⟨s1,s2,rfl,h3,h4⟩:=h2.two;split at h
     · rename_i i hi;split at h
       · rename_i hn;simp only [evBuiltin,cx,hb,ht,h1,hi,hn];exact hK _ _ (by exact⟨rfl,rfl,rfl,h3,h4⟩) h
       · exact h.elim
     · exact h.elim
   · exact h.elim
 · exact h.elim
theorem field_sim {fs:List (Nat×Nat×Nat)} {f:Nat} {x:D} {s:SV} (h:fieldY X fs f x KY) (hr:RelD (okS A st) st.w (keyS st) x s):fieldOf (cx X w0 bor) fs f s K:=by
 unfold fieldY at h;split at h
 · rename_i hn ha;obtain⟨r,h1,h2⟩:=aggD_sim ha hr;split at h
   · rename_i hi hq;obtain⟨q,h3,h4⟩:=(h2.dropD _).takeD hq;split at h
     · rename_i hb;simp only [fieldOf,cx,hn,h1,hi,h3,hb];exact mk_sim hK h h4
     · exact h.elim
   · exact h.elim
 · exact h.elim
theorem makeSlice_sim (hz:∀t i,getT X.tt t=some i→(∀x,x∈i.z→oneV x=true)∧i.z.length=i.n) (hs:Sim A st sy) {t:TypeId} {l c:Operand} (h:y1 X sy (.makeSlice t l c) KY):ev1 (cx X w0 bor) st (.makeSlice t l c) K:=by
 simp only [y1]at h;split at h
 · rename_i n0 agg0 z0 eq0 e esz bytes k1 p k2 q hi hl hc;obtain⟨s,h1,h2,_⟩:=evY_sim hs hl;obtain⟨u,h3,h4,_⟩:=evY_sim hs hc;have:=h2.sc;subst this;have:=h4.sc;subst this;split at h
   · rename_i i hie;split at h
     · rename_i hn;obtain⟨h0,l',n',⟨rfl,rfl⟩,h⟩:=h;simp only [ev1,cx,hi,h1,h3,hie,hn];have hzi:=hz _ _ hie;have hrel:RelDL (okS A st) st.w (keyS st) (repD p.toNat (vD i.z)) (repL p.toNat (vs i.z)):=repD_sim (vD_rel hzi.1) _;have hno:noOwnL (repD p.toNat (vD i.z))=true:=repD_no _ (vD_no i.z);obtain⟨xs,hx,h5⟩:=hrel.vals hno;refine⟨h0,hK (.newR (repD p.toNat (vD i.z)) e esz p.toNat) _ (by exact⟨rfl,rfl,by rw [repD_len,vD_len,hzi.2,beqT hn],by simp only [maxLen];omega,noOwn_one hno,xs,hx,h5⟩) h⟩
     · exact h.elim
   · exact h.elim
 · exact h.elim
theorem extract_sim (hs:Sim A st sy) {x:Operand} {n:Nat} (h:y1 X sy (.extract x n) KY):ev1 (cx X w0 bor) st (.extract x n) K:=by
 simp only [y1]at h;cases hx:evY sy x with
 |none=>rw [hx]at h;exact h.elim
 |some d=>
  rw [hx]at h;obtain⟨s,h1,h2,_⟩:=evY_sim hs hx;cases d with
  |tup l=>
   simp only at h;simp only [RelD]at h2;cases hq:dropD n l with
   |nil=>rw [hq]at h;exact h.elim
   |cons d r=>
    rw [hq]at h;have hne:d≠ .bad:=fun e=>by subst e;exact h.elim
    have hk:KY (.val d):=by cases d<;>first|exact h|exact absurd rfl hne
    rcases h2 with⟨cs,rfl,h2⟩|⟨a,rfl,h2⟩
    · have h3:=h2.dropD n;rw [hq]at h3;simp only [ev1,h1];cases hq2:dropN n cs with
      |nil=>rw [hq2]at h3;simp [RelDL]at h3
      |cons q qs=>
       rw [hq2]at h3;have hqb:=h3.1.ne hne;have:=val_sim hK hk h3.1 hne;cases q<;>first|exact this|exact absurd rfl hqb
    · have h3:=h2.dropD n;rw [hq]at h3;simp only [ev1,h1];cases hq2:dropN n (vs a.toList)with
      |nil=>rw [hq2]at h3;simp [RelDL]at h3
      |cons q qs=>rw [hq2]at h3;exact val_sim hK hk h3.1 hne
  |_=>exact h.elim
theorem buildSlice_sim (hz:∀t i,getT X.tt t=some i→(∀x,x∈i.z→oneV x=true)∧i.z.length=i.n) (hs:Sim A st sy) {t:TypeId} {n:Nat} {ps:Array (Nat×Operand)} (h:y1 X sy (.buildSlice t n ps) KY):ev1 (cx X w0 bor) st (.buildSlice t n ps) K:=by
 simp only [y1]at h;cases hi:getT X.tt t with
 |none=>rw [hi]at h;exact h.elim
 |some i=>
  rw [hi]at h;obtain⟨in_,agg,iz,ieq,d⟩:=i;cases d with
  |slice e esz bytes=>
   simp only at h;cases hie:getT X.tt e with
   |none=>rw [hie]at h;exact h.elim
   |some i=>
    rw [hie]at h;simp only at h;cases hb:Nat.ble (n*esz) 16777216 with
    |false=>rw [hb]at h;exact h.elim
    |true=>
     rw [hb]at h;cases hn:Nat.beq i.n esz with
     |false=>rw [hn]at h;exact h.elim
     |true=>
      rw [hn]at h;cases hl:fillAY esz sy ps.toList (repD n (vD i.z))with
      |none=>rw [hl]at h;exact h.elim
      |some l=>
       rw [hl]at h;simp only at h;obtain⟨r,h1,h2⟩:=fillA_sim hs hl (repD_sim (vD_rel (hz _ _ hie).1) _);simp only [ev1,cx,hi,hie,hb,hn,h1];have hlen:l.length=n*esz:=by rw [fillA_len hl,repD_len,vD_len,(hz _ _ hie).2,beqT hn]
       cases hno:noOwnL l with
       |false=>rw [hno]at h;exact hK (.new l e (some (esz,n))) _ (by exact⟨rfl,h2,rfl⟩) (by cases Nat.ble n 16777216<;>exact h)
       |true=>
        rw [hno]at h;cases hbn:Nat.ble n 16777216 with
        |false=>rw [hbn]at h;exact hK (.new l e (some (esz,n))) _ (by exact⟨rfl,h2,rfl⟩) h
        |true=>
         rw [hbn]at h;obtain⟨l',n',⟨rfl,rfl⟩,h⟩:=h;obtain⟨xs,rfl,h3⟩:=h2.vals hno;exact hK (.newR l e esz n) _ (by exact⟨rfl,rfl,hlen,(by have:=Nat.le_of_ble_eq_true hbn;simp only [maxLen];omega),noOwn_one hno,xs,rfl,h3⟩) h
  |_=>exact h.elim
theorem lookup_sim (hs:Sim A st sy) {t:TypeId} {x ix:Operand} {ok:Bool} (h:y1 X sy (.lookup t x ix ok) KY):ev1 (cx X w0 bor) st (.lookup t x ix ok) K:=by
 simp only [y1]at h;split at h
 · rename_i l hx;obtain⟨s,h1,h2,_⟩:=evY_sim hs hx;split at h
   · rename_i i hi;obtain⟨hT,f,hf,hk⟩:=h;obtain⟨s',h3,h4,_⟩:=evY_sim hs hi;have:=h4.sc;subst this;simp only [RelD,Rep]at h2;obtain⟨y,rfl,r,es,c,rfl,hok,hb,he⟩:=h2;obtain⟨j,hj⟩:=findM_now l es.toList 0 he hf;simp only [ev1,h1,h3];exact⟨hT,es,c,j,_, .inr ⟨hok.2.2,hb⟩,hj,val_sim hK hk (by simp only [RelD];exact .inr ⟨#[], #[],rfl,trivial,trivial⟩) (by simp)⟩
   · exact h.elim
 · rename_i k z0 hx;obtain⟨s,h1,h2,_⟩:=evY_sim hs hx;simp only [RelD]at h2;obtain⟨rfl,_⟩:=h2;split at h
   · rename_i kd es m hi hf;obtain⟨hm,kc,v,b,⟨hkc,hty,hv,hb,hpl⟩,hk⟩:=h;obtain⟨s',h3,h4,_⟩:=evY_sim hs hi;obtain⟨e',hf',he⟩:=hs.H _ _ hf;cases e' with
     |blk=>exact he.elim
     |row=>exact he.elim
     |mp bl es' m'=>
      obtain⟨rfl,rfl⟩:=he;simp only [ev1,h1,h3,hf'];have h1v:oneV v=true:=by cases v<;>first|rfl|simp [plV]at hpl
      refine⟨hm,kc,v,b,⟨keyCells_den hkc h4,hty,hv,hb⟩,val_sim hK hk ?_ (by cases ok<;>simp)⟩;cases ok with
      |true=>
       simp only [RelD];exact .inl ⟨_,rfl,by simp only [RelDL,RelD];exact⟨⟨trivial,h1v⟩,⟨trivial,rfl⟩,trivial⟩⟩
      |false=>simp only [RelD];exact⟨trivial,h1v⟩
   · exact h.elim
 · exact h.elim
theorem call_sim (hs:Sim A st sy) {c:Call} (h:y1 X sy (.call c) KY):ev1 (cx X w0 bor) st (.call c) K:=by
 obtain⟨callee,args,tys⟩:=c;cases callee with
 |value f=>
  simp only [y1]at h;cases hf:evY sy f with
  |none=>rw [hf]at h;exact h.elim
  |some d=>
   rw [hf]at h;cases d with
   |fn g l caps=>
    try simp only at h
    cases ha:evsY sy args.toList with
    |none=>rw [ha]at h;exact h.elim
    |some as=>
     rw [ha]at h
     try simp only at h
     obtain⟨s,h1,h2,_⟩:=evY_sim hs hf;obtain⟨t,h3,h4⟩:=evsY_sim hs ha;simp only [RelD]at h2;rcases h2 with⟨p,q,rfl,h5,h6⟩|⟨p,q,rfl,h5,h6⟩
     · simp only [ev1,h1,h3];exact hK (.call g _) _ (by exact⟨rfl,h5.app (h4.app h6)⟩) h
     · simp only [ev1,h1,h3];exact hK (.call g _) _ (by exact⟨rfl,h5.app (h4.app h6)⟩) h
   |_=>exact h.elim
 |builtin b=>
  simp only [y1]at h;simp only [ev1];exact builtin_sim hK hs h
 |_=>exact h.elim
theorem y1_sim (hz:∀t i,getT X.tt t=some i→(∀x,x∈i.z→oneV x=true)∧i.z.length=i.n) (hs:Sim A st sy) {op:Op} (h:y1 X sy op KY):ev1 (cx X w0 bor) st op K:=by
 unfold y1 at h;split at h
 · exact ev_sim hK hs h
 · exact ev_sim hK hs h
 · split at h
   · rename_i hc;obtain⟨s,h1,h2,_⟩:=evY_sim hs hc;have:=h2.sc;subst this;simp only [ev1,h1];rename_i t _;cases t
     · exact ev_sim hK hs h
     · exact ev_sim hK hs h
   · exact h.elim
 · split at h
   · rename_i i hi;simp only [ev1,cx,hi];exact hK _ _ (by exact⟨rfl,vD_rel (hz _ _ hi).1,rfl⟩) h
   · exact h.elim
 · split at h
   · rename_i i d hi hd;obtain⟨s,h1,h2,_⟩:=evY_sim hs hd;split at h
     · rename_i l hl;obtain⟨r,h3,h4⟩:=h2.cells hl;split at h
       · rename_i hf;simp only [ev1,cx,hi,h1,h3,h4.one (rowsR st) hf];exact hK _ _ (by exact⟨rfl,h4,rfl⟩) h
       · exact h.elim
     · exact h.elim
   · exact h.elim
 · split at h
   · rename_i i d hi hd;obtain⟨s,h1,h2,_⟩:=evY_sim hs hd;simp only [ev1,h1];simp only [cx,hi];exact loadY_sim (X:=X) (w0:=w0) (bor:=bor) hK hs h h2
   · exact h.elim
 · split at h
   · rename_i i d e hi hd he;obtain⟨s,h1,h2,_⟩:=evY_sim hs hd;obtain⟨t,h3,h4,_⟩:=evY_sim hs he;simp only [ev1,cx,hi,h1,h3];exact storeY_sim hK hs h h2 h4
   · exact h.elim
 · split at h
   · rename_i hd;obtain⟨s,h1,h2,h3⟩:=evY_sim hs hd;have h2':=h2;simp only [RelD]at h2;obtain⟨rfl,_⟩:=h2;simp only [ev1,h1];exact val_sim hK h h2' h3
   · rename_i hd;obtain⟨s,h1,h2,h3⟩:=evY_sim hs hd;have h2':=h2;simp only [RelD]at h2;obtain⟨rfl,_⟩:=h2;simp only [ev1,h1];exact val_sim hK h h2' h3
   · rename_i hd;obtain⟨s,h1,h2,h3⟩:=evY_sim hs hd;have h2':=h2;simp only [RelD]at h2;obtain⟨rfl,_⟩:=h2;simp only [ev1,h1];exact val_sim hK h h2' h3
   · rename_i hd;obtain⟨s,h1,h2,h3⟩:=evY_sim hs hd;have h2':=h2;simp only [RelD,Rep]at h2;obtain⟨y,rfl,b,p,xs,rfl,_⟩:=h2;simp only [ev1,h1];exact val_sim hK h h2' h3
   · exact h.elim
 · split at h
   · rename_i hi hd;obtain⟨s,h1,h2,_⟩:=evY_sim hs hd;split at h
     · rename_i hn;obtain⟨y,h3,h4⟩:=kvalY_some h;obtain⟨t,h5,h6,h7⟩:=ptrAdd_sim h3 h2;simp only [ev1,cx,hi,h1,hn,h5];exact val_sim hK h4 h6 h7
     · exact h.elim
   · exact h.elim
 · split at h
   · rename_i hi hd;obtain⟨s,h1,h2,_⟩:=evY_sim hs hd;simp only [ev1,h1];simp only [cx,hi];exact field_sim (X:=X) (w0:=w0) (bor:=bor) hK h h2
   · exact h.elim
 · --indexAddr
   split at h
   · rename_i hi hd hx;obtain⟨s,h1,h2,_⟩:=evY_sim hs hd;obtain⟨t,h3,h4,_⟩:=evY_sim hs hx;have:=h4.sc;subst this;split at h
     · rename_i hz;obtain rfl:=beqT hz;obtain⟨cs,⟨rfl,h0,hlt⟩,h⟩:=h;simp only [RelD,Rep]at h2;obtain⟨y,rfl,a,c,rfl,hnc,hmx,hlen,hfl,hmem⟩:=h2;simp only [ev1,cx,hi,h1,h3];rcases hmem with rfl|⟨b,o,xs,rfl,hok,hrep,hcell⟩
       · omega
       · refine⟨b,o,⟨rfl,h0,hlt⟩,val_sim hK h ?_ (by simp)⟩;simp only [RelD];exact⟨_,rfl,el_rep hlen hfl hok hrep hcell h0 hlt⟩
     · exact h.elim
   · rename_i hi hd hx;obtain⟨s,h1,h2,_⟩:=evY_sim hs hd;obtain⟨t,h3,h4,_⟩:=evY_sim hs hx;have:=h4.sc;subst this;simp only [RelD]at h2;obtain⟨rfl,h2⟩:=h2;split at h
     · rename_i hz;obtain rfl:=beqT hz;simp only [ev1,cx,hi,h1,h3];exact⟨h.1,val_sim hK h.2 (by simp only [RelD];exact⟨trivial,h2⟩) (by simp)⟩
     · exact h.elim
   · rename_i hi hd hx;obtain⟨s,h1,h2,_⟩:=evY_sim hs hd;obtain⟨t,h3,h4,_⟩:=evY_sim hs hx;have:=h4.sc;subst this;simp only [RelD]at h2;obtain⟨rfl,h2⟩:=h2;split at h
     · rename_i hz hf;obtain rfl:=beqT hz;obtain⟨e',hf',he⟩:=hs.H _ _ hf;cases e' with
       |blk=>exact he.elim
       |mp=>exact he.elim
       |row v n' xs z' ty'=>
        obtain⟨rfl,_⟩:=he;split at h
        · rename_i hz2;simp only [ev1,cx,hi,h1,h3,hf'];exact⟨h.1,val_sim hK h.2 (by simp only [RelD];exact⟨rfl,h2⟩) (by simp)⟩
        · exact h.elim
     · exact h.elim
   · omega
   · rename_i hi hd hx;obtain⟨s,h1,h2,_⟩:=evY_sim hs hd;obtain⟨t,h3,h4,_⟩:=evY_sim hs hx;have:=h4.sc;subst this;obtain⟨h0,h⟩:=h;obtain⟨y,h5,h6⟩:=kvalY_some h;simp only [ev1,cx,hi,h1,h3];refine⟨h0, ?_⟩;split at h5
     · obtain⟨u,h7,h8,h9⟩:=ptrAdd_sim h5 h2;rename_i hc;simp only [hc,h7];exact val_sim hK h6 h8 h9
     · obtain⟨u,h7,h8,h9⟩:=ptrAddx_sim h5 h2;rename_i hc;simp only [hc,h7];exact val_sim hK h6 h8 h9
   · exact h.elim
 · --index
   split at h
   · rename_i hi hd hx;obtain⟨s,h1,h2,_⟩:=evY_sim hs hd;obtain⟨t,h3,h4,_⟩:=evY_sim hs hx;have:=h4.sc;subst this;have:=h2.sc;subst this;obtain⟨c,h0,h⟩:=h;simp only [ev1,cx,hi,h1,h3];exact⟨c,h0,sc_sim hK h rfl⟩
   · rename_i hi hd hx;obtain⟨s,h1,h2,_⟩:=evY_sim hs hd;obtain⟨t,h3,h4,_⟩:=evY_sim hs hx;have:=h4.sc;subst this;split at h
     · rename_i ha hti;obtain⟨r,h5,h6⟩:=aggD_sim ha h2;obtain⟨h0,h⟩:=h;simp only [ev1,cx,hi,h1,h3,h5,hti];refine⟨h0, ?_⟩;split at h
       · rename_i _ hb;split at h
         · rename_i hq;obtain⟨q,h7,h8⟩:=(h6.dropD _).takeD hq;simp only [hb,h7];exact mk_sim hK h h8
         · exact h.elim
       · rename_i _ hb;obtain⟨r,hq,h⟩:=h;obtain⟨q,h7,h8⟩:=(h6.dropD _).takeD hq;simp only [hb,h7];exact mk_sim hK h h8
       · exact h.elim
     · exact h.elim
   · exact h.elim
 · --binOp
   split at h
   · rename_i hx hy;obtain⟨s,h1,h2,_⟩:=evY_sim hs hx;obtain⟨t,h3,h4,_⟩:=evY_sim hs hy;have:=h2.sc;subst this;have:=h4.sc;subst this;simp only [ev1,h1,h3];generalize hb1:isSh _=b1 at h⊢;generalize hb2:kEq _ _=b2 at h⊢;cases b1<;>cases b2<;>simp only at h⊢
     · exact intOp_mono (fun o ho=>outOf_sim hK ho) h
     · exact shOp_mono (fun o ho=>outOf_sim hK ho) h
     · exact shOp_mono (fun o ho=>outOf_sim hK ho) h
   · rename_i hx hy;obtain⟨s,h1,h2,_⟩:=evY_sim hs hx;obtain⟨t,h3,h4,_⟩:=evY_sim hs hy;have:=h2.sc;subst this;have:=h4.sc;subst this;simp only [ev1,h1,h3];exact strOp_mono (fun o ho=>outOf_sim hK ho) h
   · rename_i hx hy;obtain⟨s,h1,h2,_⟩:=evY_sim hs hx;obtain⟨t,h3,h4,_⟩:=evY_sim hs hy;split at h
     · rename_i hi;split at h
       · rename_i hl hm;obtain⟨⟨l',h5,h6⟩,h7⟩:=cellsA_sim hl h2;obtain⟨⟨m',h8,h9⟩,h10⟩:=cellsA_sim hm h4;split at h
         · rename_i e he;have he':=eqCs_sim he h6 h9
           have nots:(∀k a,s≠ .v (.int k a))∧(∀a,s≠ .v (.string a)):=by
            rcases h7 with⟨_,cs,hcs⟩|⟨c,rfl⟩
            · exact⟨fun k a e=>by subst e;simp [aggL]at hcs,fun a e=>by subst e;simp [aggL]at hcs⟩
            · exact⟨fun k a e=>(by cases e),fun a e=>(by cases e)⟩
           exact binOp_gen h1 h3 nots.1 nots.2 hi h5 h8 he' (boolOp_mono (fun o ho=>outOf_sim hK ho) h)
         · exact h.elim
       · exact h.elim
     · rename_i hi;split at h
       · simp only [RelD,Rep]at h2;obtain⟨y,rfl,a,c,rfl,hnc,hmx,hlen,hfl,hmem⟩:=h2;have:=h4.sc;subst this;simp only [ev1,cx,h1,h3,hi];refine boolOp_mono (fun o ho=>outOf_sim hK ho) (h a.isNone fun hb=> ?_);rcases hmem with rfl|⟨b,o,xs,rfl,_⟩
         · omega
         · cases hb
       · have:=h2.sc;subst this;have:=h4.sc;subst this;simp only [ev1,cx,h1,h3,hi];exact boolOp_mono (fun o ho=>outOf_sim hK ho) h
       · exact h.elim
     · exact h.elim
   · exact h.elim
 · split at h
   · rename_i hx;obtain⟨s,h1,h2,_⟩:=evY_sim hs hx;have:=h2.sc;subst this;simp only [ev1,h1];exact sc_sim hK h rfl
   · rename_i hx;obtain⟨s,h1,h2,_⟩:=evY_sim hs hx;have:=h2.sc;subst this;simp only [ev1,h1];exact sc_sim hK h rfl
   · exact h.elim
 · split at h
   · rename_i h1 h2 hx;obtain⟨s,g1,g2,_⟩:=evY_sim hs hx;have:=g2.sc;subst this;simp only [ev1,cx,h1,h2,g1];exact sc_sim hK h rfl
   · exact h.elim
 · exact extract_sim hK hs (by simpa only [y1]using h)
 · split at h
   · rename_i hl hc;obtain⟨l',h1,h2⟩:=evsY_sim hs hl;obtain⟨c',h3,h4⟩:=evsY_sim hs hc;simp only [ev1,h1,h3];exact val_sim hK h (by simp only [RelD];exact .inl ⟨_,_,rfl,h2,h4⟩) (by simp)
   · exact h.elim
 · split at h
   · rename_i hi;split at h
     · rename_i l hl;have hzz:=(hz _ _ hi).1;obtain⟨r,h1,h2⟩:=fillS_sim hs hl (vD_rel hzz);split at h
       · rename_i hf;simp only [ev1,cx,hi,h1];exact val_sim hK h (by simp only [RelD];exact⟨r,rfl,h2,hf⟩) (by simp)
       · exact h.elim
     · exact h.elim
   · rename_i hi;split at h
     · rename_i l hl;have hzz:=(hz _ _ hi).1;obtain⟨r,h1,h2⟩:=fillA_sim hs hl (vD_rel hzz);split at h
       · rename_i hf;simp only [ev1,cx,hi,h1];exact val_sim hK h (by simp only [RelD];exact⟨r,rfl,h2,hf⟩) (by simp)
       · exact h.elim
     · exact h.elim
   · exact h.elim
 · exact buildSlice_sim hK hz hs (by simpa only [y1]using h)
 · exact makeSlice_sim hK hz hs (by simpa only [y1]using h)
 · split at h
   · rename_i hi hd;obtain⟨s,h1,h2,_⟩:=evY_sim hs hd;split at h
     · rename_i hzz;obtain rfl:=beqT hzz;simp only [RelD,Rep]at h2;obtain⟨y,rfl,a,c,rfl,hnc,hmx,hlen,hfl,hmem⟩:=h2;simp only [ev1,cx,hi,h1];split at h
       · refine bnd_sim hs hnc (Nat.le_refl _) h fun p q m hpq hqn hk a' ha'=> ?_
         obtain⟨r,rfl,hk⟩:=hk;refine val_sim hK hk ?_ (by simp);simp only [RelD];exact⟨_,rfl,sub_rep (xs:= []) (m:=0) hlen hmx hfl hmem hpq hqn (Nat.le_trans hqn hnc) ha'⟩
       · refine bndX_sim hs hnc h fun p q x hpq hqx hxn hk a' ha'=> ?_
         obtain⟨r,rfl,hk⟩:=hk;refine val_sim hK hk ?_ (by simp);simp only [RelD];exact⟨_,rfl,sub_rep (xs:= []) (m:=0) hlen hmx hfl (hmem.imp (fun e=>by omega) id) hpq (Nat.le_trans hqx hxn) hqx ha'⟩
     · exact h.elim
   · rename_i mx _ _ _ _ _ _ _ esz _ k z hi hd;obtain⟨s,h1,h2,_⟩:=evY_sim hs hd;simp only [RelD]at h2;obtain⟨rfl,hkey⟩:=h2;split at h
     · rename_i hzz hf;obtain rfl:=beqT hzz;obtain⟨h0,h⟩:=h
       have hmx:mx=none:=by
        cases mx with
        |none=>rfl
        |some m=>simp [bndY]at h
       subst hmx;obtain⟨e',hf',he⟩:=hs.H _ _ hf;cases e' with
       |blk=>exact he.elim
       |mp=>exact he.elim
       |row v n' xs z' ty'=>
        obtain⟨rfl,rfl,rfl,_⟩:=he;simp only [ev1,cx,hi,h1,hf'];refine⟨h0,fun c hnc=>bnd_sim hs hnc (Nat.le_refl _) h fun p q m hpq hqn hk=> ?_⟩;refine val_sim hK (hk (if c=p then 0 else p*z) ⟨?_,fun hp=>by subst hp;simp⟩) ?_ (by simp)
        · by_cases hc:c=p
          · left;omega
          · right;rw [if_neg hc]
        · simp only [RelD];exact⟨trivial,hkey.1,by simp⟩
     · exact h.elim
   · rename_i hi hd;obtain⟨s,h1,h2,_⟩:=evY_sim hs hd;have:=h2.sc;subst this;simp only [ev1,cx,hi,h1];rename_i mx _ _ _ _ _ _ _ _
     have hmx:mx=none:=by
      cases mx with
      |none=>rfl
      |some m=>simp [bndY]at h
     subst hmx;exact bnd_sim hs (Nat.le_refl _) (Nat.le_refl _) h fun p q m _ _ hk=>sc_sim hK hk rfl
   · rename_i len ety esz k hi hd;obtain⟨s,h1,h2,_⟩:=evY_sim hs hd;simp only [RelD]at h2;obtain⟨rfl,hkey⟩:=h2;split at h
     · split at h
       · rename_i hf;obtain⟨e',hf',he⟩:=hs.H _ _ hf;cases e' with
         |row=>exact he.elim
         |mp=>exact he.elim
         |blk b cs ty=>
          simp only [ev1,cx,hi,h1,hf'];exact val_sim hK h (by simp only [RelD];exact⟨trivial,hkey⟩) (by simp)
       · exact h.elim
     · exact h.elim
   · exact h.elim
 · exact lookup_sim hK hs (by simpa only [y1]using h)
 · exact call_sim hK hs (by simpa only [y1]using h)
 · exact h.elim
end
mutual
def mentD (k:Nat):D→Bool
 | .own j _=>Nat.beq j k
 | .ownx j _=>Nat.beq j k
 | .row j _=>Nat.beq j k
 | .elr j _ _ _=>Nat.beq j k
 | .osl j _ _ _ _=>Nat.beq j k
 | .agg l=>mentDL k l
 | .tup l=>mentDL k l
 | .fn _ f c=>match mentDL k f with|true=>true|false=>mentDL k c
 |_=>false
def mentDL (k:Nat):List D→Bool
 | []=>false
 |s::l=>match mentD k s with|true=>true|false=>mentDL k l
end
def hideD (k:Nat) (s:D):D:=match mentD k s with|true=> .bad|false=>s
def hideDL (k:Nat):List D→List D
 | []=> []
 |s::l=>hideD k s::hideDL k l
def hideEY (k:Nat):E→E
 | .blk cs ty=> .blk (hideDL k cs) ty
 |e=>e
def hideHY (k:Nat):Hy→Hy
 | []=> []
 |(j,e)::H=>(j,hideEY k e)::hideHY k H
def hideDK (k:Nat):List D→(List D→Prop)→Prop
 | [],K=>K []
 |s::l,K=>match mentD k s with
  |true=>hideDK k l fun l'=>K (.bad::l')
  |false=>hideDK k l fun l'=>K (s::l')
def hideHK (k:Nat):Hy→(Hy→Prop)→Prop
 | [],K=>K []
 |(j, .blk cs ty)::H,K=>hideDK k cs fun cs'=>hideHK k H fun H'=>K ((j, .blk cs' ty)::H')
 |(j,e)::H,K=>hideHK k H fun H'=>K ((j,e)::H')
theorem hideDK_eq {k:Nat}:∀(l:List D) (K:List D→Prop),hideDK k l K=K (hideDL k l)
 | [],K=>rfl
 |s::l,K=>by
  simp only [hideDK,hideDL,hideD];cases mentD k s<;>simp only [hideDK_eq l]
theorem hideHK_eq {k:Nat}:∀(H:Hy) (K:Hy→Prop),hideHK k H K=K (hideHY k H)
 | [],K=>rfl
 |(j,e)::H,K=>by
  cases e<;>simp only [hideHK,hideHY,hideEY,hideDK_eq,hideHK_eq H]
def hideTY (k:Nat) (T:List (Nat×D)) (K:List (Nat×D)→Prop):Prop:=match T with
 | []=>K []
 |(d,s)::T=>match mentD k s with
  |true=>hideTY k T fun T'=>K ((d, .bad)::T')
  |false=>hideTY k T fun T'=>K ((d,s)::T')
def setY:Hy→Nat→E→(Hy→Prop)→Prop
 | [],_,_,_=>False
 |(k',e')::H,k,e,K=>match Nat.beq k' k with
  |true=>K ((k',e)::H)
  |false=>setY H k e fun H'=>K ((k',e')::H')
mutual
def fzO (k:Nat) (e:E):D→Option D
 | .own j o=>match Nat.beq j k with
  |false=>some (.own j o)
  |true=>match e with| .blk cs _=>some (.ptr cs o)|_=>none
 | .ownx j o=>match Nat.beq j k with|false=>some (.ownx j o)|true=>none
 | .row j z=>match Nat.beq j k with
  |false=>some (.row j z)
  |true=>match e with| .row z' n l _=>some (.lst z' n l)|_=>none
 | .elr j z i o=>match Nat.beq j k with|false=>some (.elr j z i o)|true=>none
 | .osl j o z n c=>match Nat.beq j k with
  |false=>some (.osl j o z n c)
  |true=>match e with
   | .blk cs _=>match takeD (n*z) (dropD o cs),Nat.ble n c,Nat.ble n 9223372036854775807 with|some l,true,true=>some (.lst z n l)|_,_,_=>none
   |_=>none
 | .agg l=>match fzL k e l with|some l'=>some (.agg l')|none=>none
 | .tup l=>match fzL k e l with|some l'=>some (.tup l')|none=>none
 | .fn f a b=>match fzL k e a,fzL k e b with|some a',some b'=>some (.fn f a' b')|_,_=>none
 | .v x=>some (.v x)
 | .lst z n l=>some (.lst z n l)
 | .ptr l o=>some (.ptr l o)
 | .mp l=>some (.mp l)
 | .und=>some .und
 | .bad=>none
def fzL (k:Nat) (e:E):List D→Option (List D)
 | []=>some []
 |x::l=>match fzO k e x,fzL k e l with|some y,some r=>some (y::r)|_,_=>none
end
def fzG (k:Nat) (e:E) (x:D):D:=match fzO k e x with|some y=>y|none=> .bad
def fzT (k:Nat) (e:E):List (Nat×D)→List (Nat×D)
 | []=> []
 |(d,x)::T=>(d,fzG k e x)::fzT k e T
def fzC (k:Nat) (e:E):List D→List D
 | []=> []
 |x::l=>fzG k e x::fzC k e l
def fzE (k:Nat) (e:E):E→E
 | .blk cs ty=> .blk (fzC k e cs) ty
 |x=>x
def fzH (k:Nat) (e:E):Hy→Hy
 | []=> []
 |(j,x)::H=>match Nat.beq j k with
  |true=>fzH k e H
  |false=>(j,fzE k e x)::fzH k e H
mutual
def clean:D→Bool
 | .v _=>true
 | .lst _ _ _=>true
 | .ptr _ _=>true
 | .mp _=>true
 | .agg l=>match cleanL l with|true=>flatD l|false=>false
 | .tup l=>cleanL l
 | .fn _ a b=>match cleanL a with|true=>cleanL b|false=>false
 |_=>false
def cleanL:List D→Bool
 | []=>true
 |x::l=>match clean x with|true=>cleanL l|false=>false
end
def okE:E→Bool
 | .blk cs _=>match cleanL cs with|true=>flatD cs|false=>false
 | .row _ _ _ _=>true
 | .mp _ _=>false
def fzTs (k:Nat) (e:E):List (Nat×D)→Option (List (Nat×D))
 | []=>some []
 |(d,x)::T=>match fzO k e x with
  |some y=>match fzTs k e T with
   |some T'=>some ((d,y)::T')
   |none=>none
  |none=>match fzTs k e T with
   |some T'=>some ((d, .bad)::T')
   |none=>none
def fzCs (k:Nat) (e:E):List D→Option (List D)
 | []=>some []
 |x::l=>match fzO k e x with
  |some y=>match fzCs k e l with
   |some l'=>some (y::l')
   |none=>none
  |none=>match fzCs k e l with
   |some l'=>some (.bad::l')
   |none=>none
def fzHs (k:Nat) (e:E):Hy→Option Hy
 | []=>some []
 |(j,x)::H=>match Nat.beq j k with
  |true=>fzHs k e H
  |false=>match x with
   | .blk cs ty=>match fzCs k e cs with
    |some cs'=>match fzHs k e H with
     |some H'=>some ((j, .blk cs' ty)::H')
     |none=>none
    |none=>none
   | .row t c n m=>match fzHs k e H with
    |some H'=>some ((j, .row t c n m)::H')
    |none=>none
   | .mp es ty=>match fzHs k e H with
    |some H'=>some ((j, .mp es ty)::H')
    |none=>none
theorem fzTs_eq (k:Nat) (e:E):∀T,fzTs k e T=some (fzT k e T)
 | []=>rfl
 |(d,x)::T=>by
  simp only [fzTs,fzTs_eq k e T,fzT,fzG];cases fzO k e x<;>rfl
theorem fzCs_eq (k:Nat) (e:E):∀l,fzCs k e l=some (fzC k e l)
 | []=>rfl
 |x::l=>by
  simp only [fzCs,fzCs_eq k e l,fzC,fzG];cases fzO k e x<;>rfl
theorem fzHs_eq (k:Nat) (e:E):∀H,fzHs k e H=some (fzH k e H)
 | []=>rfl
 |(j,x)::H=>by
  simp only [fzHs,fzHs_eq k e H,fzH];cases Nat.beq j k with
  |true=>rfl
  |false=>cases x<;>simp only [fzCs_eq,fzE]
def fzAll:List Nat→Sy→List D→Option (Sy×List D)
 | [],st,l=>some (st,l)
 |k::ks,⟨T,H,nk⟩,l=>match findY H k with
  |some e=>match okE e,fzL k e l with
   |true,some l'=>match fzTs k e T with
    |some T'=>match fzHs k e H with
     |some H'=>fzAll ks ⟨T',H',nk⟩ l'
     |none=>none
    |none=>none
   |_,_=>none
  |none=>none
mutual
def keysD:Nat→Hy→List Nat→D→List Nat
 |0,_,acc,_=>acc
 |n+1,H,acc, .own j _=>keyOne n H acc j
 |n+1,H,acc, .ownx j _=>keyOne n H acc j
 |n+1,H,acc, .row j _=>keyOne n H acc j
 |n+1,H,acc, .elr j _ _ _=>keyOne n H acc j
 |n+1,H,acc, .osl j _ _ _ _=>keyOne n H acc j
 |n+1,H,acc, .agg l=>keysDL n H acc l
 |n+1,H,acc, .tup l=>keysDL n H acc l
 |n+1,H,acc, .fn _ a b=>match keysDL n H acc a with
  | []=>keysDL n H [] b
  |y::r=>keysDL n H (y::r) b
 |_,_,acc,_=>acc
def keyOne:Nat→Hy→List Nat→Nat→List Nat
 |0,_,acc,_=>acc
 |n+1,H,acc,j=>match memN j acc with
  |true=>acc
  |false=>match findY H j with
   |some (.blk cs _)=>match keysDL n H acc cs with
    | []=> [j]
    |y::r=>j::y::r
   |_=>j::acc
def keysDL:Nat→Hy→List Nat→List D→List Nat
 |0,_,acc,_=>acc
 |_+1,_,acc, []=>acc
 |n+1,H,acc,x::l=>match keysD n H acc x with
  | []=>keysDL n H [] l
  |y::r=>keysDL n H (y::r) l
end
def revN:List Nat→List Nat→List Nat
 | [],acc=>acc
 |x::l,acc=>revN l (x::acc)
def keysF (H:Hy) (l:List D):List Nat:=revN (keysDL 40 H [] l) []
mutual
def scal:D→Bool
 | .v _=>true
 | .agg l=>scalL l
 | .tup l=>scalL l
 |_=>false
def scalL:List D→Bool
 | []=>true
 |x::l=>match scal x with|true=>scalL l|false=>false
end
def GN (nm:String) (o:Option Obj):Prop:=
 (nm= "internal/strconv.uint64pow10" →∃ty fr,o=some (.cells ((List.range 20).map fun i=>Value.int .u64 ((10^i:Nat):Int)).toArray ty fr))∧
 (nm= "strconv.ErrSyntax" ∨nm= "strconv.ErrRange" →∃tp p ty fr,o=some (.cells #[.iface tp p] ty fr))
structure GIW (P:Program) (w:World):Prop where
 size:P.globals.size≤w.heap.size
 var:∀(b:Nat) (g:Global),P.globals[b]?=some g→GN g.name w.heap[b]?
theorem GIW.pow10 {P:Program} {w:World} (h:GIW P w) {b:Nat} {g:Global} (hb:P.globals[b]?=some g) (hn:g.name= "internal/strconv.uint64pow10") (hg:P.globalNamed "internal/strconv.uint64pow10" =some b):
 w.var? P "internal/strconv.uint64pow10" =some ((List.range 20).map fun i=>Value.int .u64 ((10^i:Nat):Int)).toArray:=by
 obtain⟨ty,fr,h⟩:=(h.var b g hb).1 hn;unfold World.var?;rw [hg,Option.bind_some,h]
theorem GIW.err {P:Program} {w:World} (h:GIW P w) {b:Nat} {g:Global} (hb:P.globals[b]?=some g) (hn:g.name= "strconv.ErrSyntax" ∨g.name= "strconv.ErrRange"):∃tp p,w.cell? ⟨b,0,none⟩=some (.iface tp p):=by
 obtain⟨tp,p,ty,fr,h⟩:=(h.var b g hb).2 hn;exact⟨tp,p,by simp [World.cell?,h]⟩
theorem GIW.same {P:Program} {w w':World} (h:GIW P w) (hs:w.heap.size≤w'.heap.size) (hb:∀b,b<P.globals.size→w'.heap[b]?=w.heap[b]?):GIW P w':=
 ⟨Nat.le_trans h.size hs,fun b g hg=>by rw [hb b (Array.getElem?_eq_some_iff.1 hg).1];exact h.var b g hg⟩
theorem GIW.below {P:Program} {w w':World} (h:GIW P w) (hb:Below w.heap.size w w'):GIW P w':=h.same hb.size fun b hg=>hb.block b (Nat.lt_of_lt_of_le hg h.size)
structure AG (A:Nat→Prop) (P:Program) (w0:World) (bor:List Nat):Prop where
 a:∀b,(w0.heap.size≤b∨b∈bor)→A b
 g:GIW P w0
 n:∀b,b∈bor→P.globals.size≤b
theorem AG.fx {A:Nat→Prop} {P:Program} {w0 w:World} {bor:List Nat} (h:AG A P w0 bor) (hf:Fx bor w0 w):GIW P w:=
 h.g.same hf.size fun b hb=>hf.block b (Nat.lt_of_lt_of_le hb h.g.size) fun c hc e=>by have:=h.n c hc;omega
theorem AG.giw {A:Nat→Prop} {X:Cy} {w0 wc w:World} {bor:List Nat} {H:Hp} {nk:Nat} (h:AG A X.P w0 bor) (hc:Cls (cx X w0 bor) H nk w wc):GIW X.P wc:=h.fx hc.fx0
theorem AG.nil {P:Program} {w:World} (ok:Nat→Prop) (h:GIW P w):AG (fun b=>b<w.heap.size→ok b) P w []:=
 ⟨fun b hb hl=>(by
  rcases hb with hb|hb
  · omega
  · cases hb),h,fun b hb=>by cases hb⟩
theorem AG.lb {A:Nat→Prop} {X:Cy} {w0 wc w:World} {bor:List Nat} {H:Hp} {nk b:Nat} (h:AG A X.P w0 bor) (hc:Cls (cx X w0 bor) H nk w wc) (hb:b∈bs H):X.P.globals.size≤b:=
 (hc.lb b hb).elim (h.n b) fun hb=>Nat.le_trans h.g.size hb
def Does (P:Program) (f:FuncId) (args:List D) (Q:D→Prop):Prop:=
 ∀(ok:Nat→Prop) (w:World) (vs:List Value),RepL ok w args vs→(∀b,ok b→b<w.heap.size)→GIW P w→
  Calls P f vs.toArray w fun e w'=>∃v r,e= .returned v∧Q r∧Rep (fun b=>ok b∨(w.heap.size≤b∧b<w'.heap.size)) w' r v∧Below w.heap.size w w'
def putY (X:Cy) (st:Sy) (dst:Option Nat) (s:D) (K:Sy→Prop):Prop:=
 match dst with
 |none=>K st
 |some d=>match Nat.blt d X.nt,st with
  |true,⟨T,H,nk⟩=>K ⟨(d,s)::T,H,nk⟩
  |false,_=>False
mutual
def leD:D→D→Prop
 | .v x,y=>y= .v x∨(x= .slice none 0 0∧∃z,y= .lst z 0 [])
 | .agg l,y=>∃r,y= .agg r∧leDL l r
 | .tup l,y=>∃r,y= .tup r∧leDL l r
 |x,y=>x=y
def leDL:List D→List D→Prop
 | [], []=>True
 |x::l,y::r=>leD x y∧leDL l r
 |_,_=>False
end
mutual
def back (n:Nat):D→D
 | .row k z=>match Nat.blt k n with|true=> .row k z|false=> .v (.slice none 0 0)
 | .agg l=> .agg (backL n l)
 | .tup l=> .tup (backL n l)
 | .fn f a b=> .fn f (backL n a) (backL n b)
 |x=>x
def backL (n:Nat):List D→List D
 | []=> []
 |x::l=>back n x::backL n l
end
mutual
def inK (n:Nat) (ks:List Nat):D→Bool
 | .own j _=>match Nat.blt j n with|true=>memN j ks|false=>false
 | .ownx j _=>match Nat.blt j n with|true=>memN j ks|false=>false
 | .row j _=>memN j ks
 | .elr j _ _ _=>match Nat.blt j n with|true=>memN j ks|false=>false
 | .osl j _ _ _ _=>match Nat.blt j n with|true=>memN j ks|false=>false
 | .agg l=>inKL n ks l
 | .tup l=>inKL n ks l
 | .fn _ a b=>match inKL n ks a with|true=>inKL n ks b|false=>false
 | .bad=>false
 |_=>true
def inKL (n:Nat) (ks:List Nat):List D→Bool
 | []=>true
 |x::l=>match inK n ks x with|true=>inKL n ks l|false=>false
end
def inKT (n:Nat) (ks:List Nat):List (Nat×D)→Bool
 | []=>true
 |(_,x)::T=>match inK n ks x with|true=>inKT n ks T|false=>false
def inKB (n:Nat) (ks:List Nat):List D→Bool
 | []=>true
 | .bad::l=>inKB n ks l
 |x::l=>match inK n ks x,oneD x with|true,true=>inKB n ks l|_,_=>false
def inKH (n:Nat) (ks:List Nat):Hy→Bool
 | []=>true
 |(k, .blk cs _)::H=>match Nat.blt k n,inKB n ks cs with|true,true=>inKH n ks H|_,_=>false
 |(_, .row _ _ _ _)::H=>inKH n ks H
 |(k, .mp _ _)::H=>match Nat.blt k n with|true=>inKH n ks H|false=>false
def keysY:Hy→List Nat
 | []=> []
 |(k,_)::H=>k::keysY H
def ltY (n:Nat):Hy→Bool
 | []=>true
 |(k,_)::H=>match Nat.blt k n with|true=>ltY n H|false=>false
def okShape (n:Nat) (st:Sy):Bool:=match ndB (keysY st.H),ltY st.nk st.H,inKT n (keysY st.H) st.T,inKH n (keysY st.H) st.H with|true,true,true,true=>true|_,_,_,_=>false
def leBL:List D→List D→Prop
 | [], []=>True
 |_::l, .bad::r=>leBL l r
 |x::l,y::r=>leD x y∧leBL l r
 |_,_=>False
def subTY (n:Nat) (T:List (Nat×D)):List (Nat×D)→Prop
 | []=>True
 |(d,s)::r=>(∃y,lookY T d=some y∧leD y (back n s))∧subTY n T r
def subEY (n:Nat) (H:Hy) (k:Nat):E→Prop
 | .blk cs ty=>∃cs0,findY H k=some (.blk cs0 ty)∧leBL cs0 (backL n cs)
 | .row z m l ty=>match Nat.blt k n with
  |true=>∃m0 l0,findY H k=some (.row z m0 l0 ty)∧m0=m∧l0=l
  |false=>m=0∧l= []
 | .mp es ty=>∃es0,findY H k=some (.mp es0 ty)∧es0=es
def subHY (n:Nat) (H:Hy):Hy→Prop
 | []=>True
 |(k,e)::r=>subEY n H k e∧subHY n H r
structure SubK (st st':Sy):Prop where
 ex:∃n,okShape n st'=true∧subTY n st.T st'.T∧subHY n st.H st'.H
def swN (a b k:Nat):Nat:=match Nat.beq k a with|true=>b|false=>(match Nat.beq k b with|true=>a|false=>k)
mutual
def swD (a b:Nat):D→D
 | .own k o=> .own (swN a b k) o
 | .ownx k o=> .ownx (swN a b k) o
 | .row k z=> .row (swN a b k) z
 | .elr k z i o=> .elr (swN a b k) z i o
 | .osl k o z n c=> .osl (swN a b k) o z n c
 | .agg l=> .agg (swDL a b l)
 | .tup l=> .tup (swDL a b l)
 | .fn f p q=> .fn f (swDL a b p) (swDL a b q)
 |x=>x
def swDL (a b:Nat):List D→List D
 | []=> []
 |x::l=>swD a b x::swDL a b l
end
def swE (a b:Nat):E→E
 | .blk cs ty=> .blk (swDL a b cs) ty
 |e=>e
def swTY (a b:Nat):List (Nat×D)→List (Nat×D)
 | []=> []
 |(d,x)::T=>(d,swD a b x)::swTY a b T
def swHY (a b:Nat):Hy→Hy
 | []=> []
 |(k,e)::H=>(swN a b k,swE a b e)::swHY a b H
structure SubR (st st':Sy):Prop where
 ex:SubK st st'∨∃a b m,(Nat.blt a m=true∧Nat.blt b m=true)∧SubK st ⟨swTY a b st'.T,swHY a b st'.H,m⟩∧SubK ⟨st'.T,st'.H,m⟩ st'
structure SubY (st st':Sy):Prop where
 ex:∃ks st1,fzAll ks st []=some (st1, [])∧SubR st1 st'
def resY (X:Cy) (st:Sy):List ResultVar→Option (List D)
 | []=>some []
 | .tmp t::r=>match lookRY st.T t,resY X st r with
  |some .bad,_=>none
  |some s,some l=>some (s::l)
  |_,_=>none
 | .cell a t::r=>match getT X.tt t,lookRY st.T a,resY X st r with
  |some i,some (.own k o),some l=>match findY st.H k with
   |some (.blk cs _)=>match takeD i.n (dropD o cs)with
    |some c=>match mkD i.agg c with
     |some s=>some (s::l)
     |none=>none
    |none=>none
   |_=>none
  |_,_,_=>none
def zipY:Nat→List D→List (Nat×D)
 |_, []=> []
 |n,s::l=>(n,s)::zipY (n+1) l
def shiftT {α:Type} (nt:Nat):List (Nat×α)→List (Nat×α)
 | []=> []
 |(d,x)::T=>match Nat.blt d nt with
  |true=>(Nat.add 1000000 d,x)::shiftT nt T
  |false=>match Nat.blt d 1000000 with
   |true=>shiftT nt T
   |false=>(Nat.add d nt,x)::shiftT nt T
def unshiftT {α:Type} (nt:Nat):List (Nat×α)→List (Nat×α)
 | []=> []
 |(d,x)::T=>match Nat.blt d 1000000 with
  |true=>unshiftT nt T
  |false=>match Nat.blt d (Nat.add 1000000 nt)with
   |true=>(Nat.mod d 1000000,x)::unshiftT nt T
   |false=>(Nat.sub d nt,x)::unshiftT nt T
def resD:List D→D
 | [x]=>x
 |l=> .tup l
def retIn (X X':Cy) (rs:List ResultVar) (dst:Option Nat) (K:Sy→Prop) (e:Exit) (st:Sy):Prop:=
 match e,st with
 | .normal,⟨T,H,nk⟩=>match resY X' ⟨T,H,nk⟩ rs with
  |some l=>putY X ⟨unshiftT X.nt T,H,nk⟩ dst (resD l) K
  |none=>False
 | .ret,⟨T,H,nk⟩=>match resY X' ⟨T,H,nk⟩ rs with
  |some l=>putY X ⟨unshiftT X.nt T,H,nk⟩ dst (resD l) K
  |none=>False
 |_,_=>False
def BodyT (X:Cy) (c:Code) (st0:Sy) (K:Exit→Sy→Prop):Prop:=
 ∀(A:Nat→Prop) (w0:World) (bor:List Nat) (sv:List Value) (st:St) (a:Act) (w:World) (Q:Exit→Act→World→Prop),AG A X.P w0 bor→Sim A st st0→Rel (cx { X with sv:=sv} w0 bor) st a w→
  (∀e st' sy' a' w',plain e→K e sy'→Sim A st' sy'→Lv (cx { X with sv:=sv} w0 bor) st.H w st' a' w'→Q e a' w')→c.wp X.P Q a w
structure CallIn (X:Cy) (f:FuncId) (args:List D) (dst:Option Nat) (st:Sy) (K:Sy→Prop):Prop where
 ex:∃(nt:Nat) (pl:List (Nat×PT)) (ln un inl:List Nat) (fn:Func) (c:Code) (st0 st1:Sy),
  (X.P.funcs[f]?=some fn∧fn.body=some c∧nt=fn.ntmps∧Nat.ble nt 1000000=true∧Nat.ble args.length nt=true)∧
  SubY ⟨zipY 0 args++shiftT X.nt st.T,st.H,st.nk⟩ st0∧BodyT ⟨X.P,X.tt,nt,pl,ln,un, [],inl, []⟩ c st0 (retIn X ⟨X.P,X.tt,nt,pl,ln,un, [],inl, []⟩ fn.results.toList dst fun sy=>SubY sy st1)∧K st1
structure CallOwn (P:Program) (seq:Bool) (f:FuncId) (fa:List D) (st st':Sy) (K:Sy→D→Prop):Prop where
 ex:∃Q,Does P f fa Q∧∀r,Q r→match scal r,seq with
  |true,_=>K st r
  |false,true=>K st' r
  |false,false=>False
structure CallY (P:Program) (f:FuncId) (args:List D) (st:Sy) (K:Sy→D→Prop):Prop where
 ex:∃Q,Does P f args Q∧∀r,Q r→K st r
def RowAt (ok:Nat→Prop) (w:World) (z n:Nat) (l:List D) (ty:TypeId) (v:Value):Prop:=
 ∃xs,w.ownsRow 0 ty z v n xs∧RepL ok w l xs∧flatD l=true∧l.length=n*z
def DoesU (P:Program) (f:FuncId) (args:List D) (z n:Nat) (l:List D) (ty:TypeId):Prop:=
 ∀(ok:Nat→Prop) (w:World) (vs:List Value),RepL ok w args vs→(∀b,ok b→b<w.heap.size)→GIW P w→
  Calls P f vs.toArray w fun e w'=>∃v,e= .returned v∧(∀b,b∈ownB v→w.heap.size≤b)∧RowAt (fun b=>(ok b∨(w.heap.size≤b∧b<w'.heap.size))∧b∉ownB v) w' z n l ty v∧Below w.heap.size w w'
def DoesL (P:Program) (f:FuncId) (z n:Nat) (l:List D) (ty:TypeId) (args:List D) (z' n':Nat) (l':List D):Prop:=
 ∀(ok:Nat→Prop) (w:World) (v:Value) (vs:List Value),RowAt ok w z n l ty v→(∀b,b∈ownB v→¬ok b∧P.globals.size≤b)→RepL ok w args vs→(∀b,ok b→b<w.heap.size)→GIW P w→
  Calls P f (v::vs).toArray w fun e w'=>∃v',e= .returned v'∧(∀b,b∈ownB v'→b∈ownB v∨w.heap.size≤b)∧
   RowAt (fun b=>(ok b∨b∈ownB v∨(w.heap.size≤b∧b<w'.heap.size))∧b∉ownB v') w' z' n' l' ty v'∧Fx (ownB v) w w'
structure CallU (P:Program) (f:FuncId) (args:List D) (st:Sy) (K:Sy→D→Prop):Prop where
 ex:∃z n l ty,DoesU P f args z n l ty∧K ⟨st.T,(st.nk, .row z n l ty)::st.H,st.nk+1⟩ (.row st.nk z)
def CellsM (ok:Nat→Prop) (w:World) (rv:List Value):List D→List Value→Prop
 | [], []=>True
 | .row i _::l,y::r=>rv[i]?=some y∧CellsM ok w rv l r
 |d::l,y::r=>Rep ok w d y∧CellsM ok w rv l r
 |_,_=>False
def RowsM (ok:Nat→Prop) (w:World):List (Nat×Nat×List D×TypeId)→List Value→Prop
 | [], []=>True
 |(z,n,l,ty)::rs,v::vs=>RowAt ok w z n l ty v∧RowsM ok w rs vs
 |_,_=>False
def DoesM (P:Program) (f:FuncId) (args:List D) (rows:List (Nat×Nat×List D×TypeId)) (cells:List D):Prop:=
 flatD cells=true∧∀(ok:Nat→Prop) (w:World) (vs:List Value),RepL ok w args vs→(∀b,ok b→b<w.heap.size)→GIW P w→
  Calls P f vs.toArray w fun e w'=>∃(a rv:List Value),e= .returned (.agg a.toArray)∧(∀b,b∈rv.flatMap ownB→w.heap.size≤b∧b<w'.heap.size)∧(rv.flatMap ownB).Nodup∧
   RowsM (fun b=>(ok b∨(w.heap.size≤b∧b<w'.heap.size))∧b∉rv.flatMap ownB) w' rows rv∧CellsM (fun b=>(ok b∨(w.heap.size≤b∧b<w'.heap.size))∧b∉rv.flatMap ownB) w' rv cells a∧Below w.heap.size w w'
def rowsH:Nat→List (Nat×Nat×List D×TypeId)→Hy→Hy
 |_, [],H=>H
 |k,(z,n,l,ty)::rs,H=>rowsH (k+1) rs ((k, .row z n l ty)::H)
def shC (nk:Nat):List D→List D
 | []=> []
 | .row i z::l=> .row (nk+i) z::shC nk l
 |d::l=>d::shC nk l
structure CallM (P:Program) (f:FuncId) (args:List D) (st:Sy) (K:Sy→D→Prop):Prop where
 ex:∃rows cells,DoesM P f args rows cells∧K ⟨st.T,rowsH st.nk rows st.H,st.nk+rows.length⟩ (.agg (shC st.nk cells))
structure CallL (P:Program) (f:FuncId) (k:Nat) (e:E) (fa:List D) (st:Sy) (K:Sy→D→Prop):Prop where
 ex:∃z n l ty z' n' l',e= .row z n l ty∧DoesL P f z n l ty fa z' n' l'∧hideHK k st.H fun H0=>setY H0 k (.row z' n' l' ty) fun H'=>hideTY k st.T fun T'=>K ⟨T',H',st.nk⟩ (.row k z')
def DoesS (P:Program) (f:FuncId) (z n:Nat) (l:List D) (ty:TypeId) (args:List D) (n':Nat) (l':List D):Prop:=
 n'=n∧∀(ok:Nat→Prop) (w:World) (v:Value) (vs:List Value),RowAt ok w z n l ty v→(∀b,b∈ownB v→¬ok b∧P.globals.size≤b)→RepL ok w args vs→(∀b,ok b→b<w.heap.size)→GIW P w→
  Calls P f (v::vs).toArray w fun e w'=>e= .returned (.tuple #[])∧RowAt (fun b=>ok b∧b∉ownB v) w' z n l' ty v∧Fx (ownB v) w w'
structure CallS (P:Program) (f:FuncId) (k:Nat) (e:E) (fa:List D) (st:Sy) (K:Sy→D→Prop):Prop where
 ex:∃z n l ty n' l',e= .row z n l ty∧DoesS P f z n l ty fa n' l'∧setY st.H k (.row z n' l' ty) fun H'=>K ⟨st.T,H',st.nk⟩ (.tup [])
def callY (X:Cy) (seq:Bool) (f:FuncId) (args:List D) (st:Sy) (K:Sy→D→Prop):Prop:=
 match memN f X.ln,memN f X.un with
 |true,_=>match seq,args with
  |true,x::rest=>match fzAll (keysF st.H rest) st (x::rest)with
   |some (st', .row k _::fa)=>match cleanL fa,findY st'.H k with
    |true,some e=>CallL X.P f k e fa st' K∨CallS X.P f k e fa st' K
    |_,_=>False
   |_=>False
  |_,_=>False
 |false,true=>match seq,cleanL args with
  |true,true=>CallU X.P f args st K∨CallM X.P f args st K
  |_,_=>False
 |false,false=>match cleanL args with
  |true=>CallY X.P f args st K
  |false=>match fzAll (keysF st.H args) st args with
   |some (st',fa)=>match cleanL fa with
    |true=>CallOwn X.P seq f fa st st' K
    |false=>False
   |none=>False
def newsY (st:Sy) (esz:Nat) (x:D) (K:Nat→List D→Prop):Prop:=
 match x with
 | .osl k o z n _=>match Nat.beq z esz,findY st.H k with
  |true,some (.blk cs _)=>match takeD (n*z) (dropD o cs)with
   |some l=>match noOwnL l with|true=>K n l|false=>False
   |none=>False
  |true,some (.row z' N r _)=>match Nat.beq z' z with
   |true=>(n=0∨o+n*z≤N*z)∧K n ((r.drop o).take (n*z))
   |false=>False
  |_,_=>False
 | .row k _=>match findY st.H k with
  |some (.row z n l _)=>match Nat.beq z esz with|true=>K n l|false=>False
  |_=>False
 | .v (.slice none 0 0)=>K 0 []
 | .lst z n l=>match Nat.beq z esz with|true=>K n l|false=>False
 |_=>False
def appY (e esz bytes:Nat) (s x:D) (st:Sy) (K:Sy→D→Prop):Prop:=
 match Nat.ble 1 esz with
 |false=>False
 |true=>newsY st esz x fun m l=>match s,st with
  | .v (.slice none 0 0),⟨T,H,nk⟩=>(m*bytes≤140737488355328∧m≤9223372036854775807)∧∃r' n',(l=r'∧m=n')∧K ⟨T,(nk, .row esz n' r' e)::H,nk+1⟩ (.row nk esz)
  | .row k _,⟨T,H,nk⟩=>match findY H k with
   |some (.row z n r ty)=>match Nat.beq z esz,Nat.beq ty e with
    |true,true=>((n+m)*bytes≤140737488355328∧n+m≤9223372036854775807)∧∃r' n',(r++l=r'∧n+m=n')∧hideHK k H fun H0=>setY H0 k (.row esz n' r' e) fun H'=>hideTY k T fun T'=>K ⟨T',H',nk⟩ (.row k esz)
    |_,_=>False
   |_=>False
  | .osl k o z0 n c,⟨T,H,nk⟩=>match Nat.beq o 0,Nat.beq c 0,Nat.beq z0 esz,findY H k with
   |true,true,true,some (.row z N r ty)=>match Nat.beq z esz,Nat.beq ty e with
    |true,true=>(0<N∧n≤N∧(n+m)*bytes≤140737488355328∧n+m≤9223372036854775807)∧∃r' n',(r.take (n*z)++l=r'∧n+m=n')∧hideHK k H fun H0=>setY H0 k (.row esz n' r' e) fun H'=>hideTY k T fun T'=>K ⟨T',H',nk⟩ (.row k esz)
    |_,_=>False
   |_,_,_,_=>False
  |_,_=>False
def finY (X:Cy) (seq:Bool) (st:Sy) (dst:Option Nat) (K:Sy→Prop) (o:OutY):Prop:=
 match o with
 | .val s=>putY X st dst s K
 | .new cs ty sl=>match st with
  |⟨T,H,nk⟩=>putY X ⟨T,(nk, .blk cs ty)::H,nk+1⟩ dst (match sl with|none=> .own nk 0|some (z,n)=> .osl nk 0 z n n) K
 | .newR l ty z n=>match st with
  |⟨T,H,nk⟩=>putY X ⟨T,(nk, .row z n l ty)::H,nk+1⟩ dst (.row nk z) K
 | .call f args=>match memN f X.inl with
  |true=>match seq with
   |true=>CallIn X f args dst st K
   |false=>False
  |false=>callY X seq f args st fun st' s=>putY X st' dst s K
 | .upd k cs=>match st,findY st.H k with
  |⟨T,H,nk⟩,some (.blk _ ty)=>setY H k (.blk cs ty) fun H'=>putY X ⟨T,H',nk⟩ dst .und K
  |_,_=>False
 | .updR k l=>match st,findY st.H k with
  |⟨T,H,nk⟩,some (.row z n _ ty)=>setY H k (.row z n l ty) fun H'=>putY X ⟨T,H',nk⟩ dst .und K
  |_,_=>False
 | .app e esz bytes s x=>appY e esz bytes s x st fun st' s=>putY X st' dst s K
def guardY (ops:List Oper) (g:Option (Nat×Bool)) (st:Sy) (yes no:Sy→Prop):Prop:=
 match g with
 |none=>yes st
 |some (j,want)=>match dstOf ops j with
  |some d=>match lookRY st.T d with
   |some (.v (.bool b))=>match st with
    |⟨T,H,nk⟩=>VIf b
     (match want with|true=>yes ⟨(d, .v (.bool true))::T,H,nk⟩|false=>no ⟨(d, .v (.bool true))::T,H,nk⟩)
     (match want with|true=>no ⟨(d, .v (.bool false))::T,H,nk⟩|false=>yes ⟨(d, .v (.bool false))::T,H,nk⟩)
   |some .und=>no st
   |_=>False
  |none=>False
def bytesD (s:ByteArray):List D:=s.data.toList.map fun b=> .v (.int .u8 b.toNat)
def bstr (xs:List Int):ByteArray:=⟨(xs.map fun n=>UInt8.ofNat n.toNat).toArray⟩
def xk (st:Sy):Op→Bool
 | .makeMap _ _=>true
 | .mapUpdate _ _ _ _=>true
 | .convert _ _ x=>match evY st x with|some (.v (.string _))=>true|some (.lst _ _ _)=>true|some (.row _ _)=>true|_=>false
 |_=>false
def xop (X:Cy) (st:Sy) (dst:Option Nat) (op:Op) (K:Sy→Prop):Prop:=
 match op with
 | .makeMap t r=>match r,st with
  |none,⟨T,H,nk⟩=>∃m:MTy,(m.t=t∧MTok X.P X.tt m)∧putY X ⟨T,(nk, .mp [] m)::H,nk+1⟩ dst (.row nk 0) K
  |_,_=>False
 | .mapUpdate t m k x=>match evY st m,evY st k,evY st x with
  |some (.row j _),some kd,some (.v xv)=>match findY st.H j with
   |some (.mp es mt)=>(MTok X.P X.tt mt∧mt.t=t∧plV xv=true)∧∃kc es',(keyCells mt.ag kd=some kc∧typedCs mt.ks kc∧updV (mkKey mt.ag kc) xv es kc=es')∧
    setY st.H j (.mp es' mt) fun H'=>match st with|⟨T,_,nk⟩=>putY X ⟨T,H',nk⟩ dst .und K
   |_=>False
  |_,_,_=>False
 | .convert src dt x=>match evY st x with
  |some (.v (.string s))=>(∃e u,X.P.underlying src=some u∧X.P.underlying dt=some (.slice e)∧X.P.underlying e=some (.int .u8))∧s.size≤9223372036854775807∧∃l n,(bytesD s=l∧s.size=n)∧putY X st dst (.lst 1 n l) K
  |some (.lst z n l)=>(z=1∧∃e,X.P.underlying src=some (.slice e)∧X.P.underlying e=some (.int .u8)∧X.P.underlying dt=some .string)∧∃xs:List Int,l=xs.map (fun x=> .v (.int .u8 x))∧putY X st dst (.v (.string (bstr xs))) K
  |some (.row j _)=>match findY st.H j with
   |some (.row z n l _)=>(z=1∧∃e,X.P.underlying src=some (.slice e)∧X.P.underlying e=some (.int .u8)∧X.P.underlying dt=some .string)∧∃xs:List Int,l=xs.map (fun x=> .v (.int .u8 x))∧putY X st dst (.v (.string (bstr xs))) K
   |_=>False
  |_=>False
 |_=>False
def slR (st:Sy):Op→Option Nat
 | .slice _ x _ _ _=>match evY st x with|some (.row k _)=>some k|_=>none
 |_=>none
def stepO (X:Cy) (st:Sy) (o:Oper) (K:Sy→Prop):Prop:=
 match xk st o.op with
 |true=>xop X st o.dst o.op K
 |false=>match slR st o.op with
  |none=>y1 X st o.op (finY X true st o.dst K)
  |some k=>y1 X st o.op (finY X true st o.dst K)∨∃st1,fzAll [k] st []=some (st1, [])∧y1 X st1 o.op (finY X true st1 o.dst K)
def opsY (X:Cy) (ops:List Oper):List Oper→Sy→(Sy→Prop)→Prop
 | [],st,K=>K st
 |o::rest,st,K=>guardY ops o.guard st
  (fun st=>stepO X st o fun st=>opsY X ops rest st K)
  (fun st=>putY X st o.dst .und fun st=>opsY X ops rest st K)
def tagY:D→Option Nat
 | .own k _=>some k
 | .ownx k _=>some k
 | .elr k _ _ _=>some k
 |_=>none
def keyOfY:OutY→Option Nat
 | .upd k _=>some k
 | .updR k _=>some k
 | .app _ _ _ (.row k _) _=>some k
 | .app _ _ _ (.osl k _ _ _ _) _=>some k
 |_=>none
def rdY (fl:Bool) (i:Nat) (op:Op) (st:Sy) (pr:List (Nat×Option Nat)) (K:List (Nat×Option Nat)→Prop):Prop:=
 match op with
 | .load _ p=>match evY st p with
  |some s=>match tagY s with
   |some k=>K ((i,some k)::pr)
   |none=>match s with
    | .ptr _ _=>K ((i,none)::pr)
    |_=>False
  |none=>False
 | .lookup _ m _ _=>match evY st m with
  |some (.row k _)=>K ((i,some k)::pr)
  |_=>False
 |_=>K pr
def finPY (X:Cy) (i:Nat) (S:List Nat) (fl:Bool) (pr:List (Nat×Option Nat)) (o:Oper) (st:Sy) (K:Sy→List (Nat×Option Nat)→Prop) (out:OutY):Prop:=
 match isVal o with
 |true=>(match out with| .val s=>rdY fl i o.op st pr fun pr=>putY X st o.dst s fun st=>K st pr|_=>False)
 |false=>match isAlloc o with
  |true=>(match out with| .new _ _ none=>finY X false st o.dst (fun st=>K st pr) out| .newR _ _ _ _=>finY X false st o.dst (fun st=>K st pr) out|_=>False)
  |false=>match isCall o with
   |true=>(match out with| .call _ _=>finY X false st o.dst (fun st=>K st pr) out|_=>False)
   |false=>(match out with
    | .call _ _=>False
    |out=>match keyOfY out with
     |some k=>match sepB pr S k with|true=>finY X false st o.dst (fun st=>K st pr) out|false=>False
     |none=>finY X false st o.dst (fun st=>K st pr) out)
def finSY (X:Cy) (S:List Nat) (st:Sy) (dst:Option Nat) (K:Sy→Prop) (o:OutY):Prop:=
 match S with
 | []=>finY X true st dst K o
 |_::_=>match o with
  | .call f args=>match memN f X.inl,memN f X.ln with
   |false,false=>callY X true f args st fun st' s=>putY X st' dst s K
   |_,_=>False
  |_=>False
def killK (ops:List Oper):List Nat→List (Nat×D)→(List (Nat×D)→Prop)→Prop
 | [],T,K=>K T
 |i::r,T,K=>match nthO ops i with
  |some o=>match isAlloc o,o.dst with
   |true,some d=>killK ops r T fun T'=>K ((d, .bad)::T')
   |_,_=>killK ops r T K
  |none=>killK ops r T K
theorem killK_eq {ops:List Oper} {T:List (Nat×D)}:∀(l:List Nat) (K:List (Nat×D)→Prop),killK ops l T K=K (killG .bad ops l T)
 | [],K=>rfl
 |i::r,K=>by
  simp only [killK,killG];cases nthO ops i with
  |none=>exact killK_eq r K
  |some o=>
   simp only;cases isAlloc o<;>cases o.dst<;>simp only [killK_eq r]
def stepY (X:Cy) (ops:List Oper) (rest:PT) (i:Nat) (S:List Nat) (fl:Bool) (pr:List (Nat×Option Nat)) (o:Oper) (st:Sy) (K:Sy→List (Nat×Option Nat)→Prop):Prop:=
 match isCall o,fl with
 |true,true=>y1 X st o.op (finSY X S st o.dst fun st=>match st with|⟨T,H,nk⟩=>killK ops (idxP rest) T fun T'=>K ⟨T',H,nk⟩ pr)
 |_,_=>y1 X st o.op (finPY X i S fl pr o st K)
def planY (X:Cy) (ops:List Oper):PT→Sy→List (Nat×Option Nat)→(Sy→Prop)→Prop
 | .nil,st,_,K=>K st
 | .op i S fl rest,st,pr,K=>match nthO ops i with
  |some o=>guardY ops o.guard st
   (fun st=>stepY X ops rest i S fl pr o st fun st pr=>planY X ops rest st pr K)
   (fun st=>putY X st o.dst .und fun st=>planY X ops rest st pr K)
  |none=>False
 | .fork a b,st,pr,K=>planY X ops a st pr K∧planY X ops b st pr K
def killY:List Oper→List (Nat×D)→List (Nat×D)
 | [],T=>T
 |o::l,T=>match isAlloc o,o.dst with
  |true,some d=>(d, .bad)::killY l T
  |_,_=>killY l T
def killYK:List Oper→List (Nat×D)→(List (Nat×D)→Prop)→Prop
 | [],T,K=>K T
 |o::l,T,K=>match isAlloc o,o.dst with
  |true,some d=>killYK l T fun T'=>K ((d, .bad)::T')
  |_,_=>killYK l T K
theorem killYK_eq {T:List (Nat×D)}:∀(l:List Oper) (K:List (Nat×D)→Prop),killYK l T K=K (killY l T)
 | [],K=>rfl
 |o::l,K=>by
  simp only [killYK,killY];cases isAlloc o<;>cases o.dst<;>simp only [killYK_eq l]
structure LoopY (body:Sy→(Exit→Sy→Prop)→Prop) (st:Sy) (K:Exit→Sy→Prop):Prop where
 ex:∃(α:Type) (f:α→Sy) (inv:α→Prop) (μ:α→Nat),
  (∃x,SubY st (f x)∧inv x)∧
  ∀x,inv x→body (f x) fun e st2=>match e with
   | .normal=>∃y,SubY st2 (f y)∧inv y∧μ y<μ x
   |e=>K e st2
def codeY (X:Cy):Code→Sy→(Exit→Sy→Prop)→Prop
 | .skip,st,K=>K .normal st
 | .region id ops draw,st,K=>match draw with
  |false=>opsY X ops.toList ops.toList st (K .normal)
  |true=>match getP X.pl id with
   |some p=>planOK X.tt X.nt ops p=true∧(match st with|⟨T,H,nk⟩=>planY X ops.toList p ⟨killY ops.toList T,H,nk⟩ [] (K .normal))
   |none=>False
 | .seq a b,st,K=>codeY X a st fun e st'=>match e with
  | .normal=>codeY X b st' K
  |e=>K e st'
 | .cond c t e,st,K=>match evY st c with
  |some (.v (.bool b))=>VIf b (codeY X t st K) (codeY X e st K)
  |_=>False
 | .block id c,st,K=>codeY X c st fun e st'=>match e with
  | .exit j=>match Nat.beq j id with
   |true=>K .normal st'
   |false=>K (.exit j) st'
  |e=>K e st'
 | .loop c,st,K=>LoopY (codeY X c) st K
 | .exit id,st,K=>K (.exit id) st
 | .ret,st,K=>K .ret st
 | .scope c,st,K=>codeY X c st K
 | .label _,st,K=>K .normal st
 |_,_,_=>False
structure RetY (r:D) (Q:D→Prop):Prop where
 ex:∃r',leD r r'∧Q r'
def retOf (st:Sy) (r:D) (Q:D→Prop):Prop:=
 match clean r with
 |true=>RetY r Q
 |false=>match fzAll (keysF st.H [r]) st [r]with
  |some (_, [r'])=>match clean r' with
   |true=>RetY r' Q
   |false=>False
  |_=>False
def retY (X:Cy) (rs:List ResultVar) (Q:D→Prop) (e:Exit) (st:Sy):Prop:=
 match e with
 | .normal=>match resY X st rs with
  |some [s]=>retOf st s Q
  |some l=>retOf st (.tup l) Q
  |none=>False
 | .ret=>match resY X st rs with
  |some [s]=>retOf st s Q
  |some l=>retOf st (.tup l) Q
  |none=>False
 |_=>False
mutual
theorem RelD.mentE {ok:Nat→Prop} {w:World} {R:Bool→Nat→Prop} (k:Nat):∀(d:D) (s:SV),RelD ok w R d s→ment k s=mentD k d
 | .v x,s,h=>by simp only [RelD]at h;rw [h.1];rfl
 | .agg l,s,h=>by
  simp only [RelD]at h;obtain⟨cs,h1,h2,_⟩:=h;have:=RelDL.mentE k l _ h2;cases s<;>simp [aggL]at h1
  · rename_i x;cases x<;>simp at h1;subst h1;rw [ment_vs]at this;simp only [mentD,←this];rfl
  · subst h1;simpa [ment,mentD]using this
 | .lst z n l,s,h=>by simp only [RelD]at h;obtain⟨y,rfl,_⟩:=h;rfl
 | .ptr l o,s,h=>by simp only [RelD]at h;obtain⟨y,rfl,_⟩:=h;rfl
 | .own j o,s,h=>by simp only [RelD]at h;rw [h.1];rfl
 | .ownx j o,s,h=>by simp only [RelD]at h;rw [h.1];rfl
 | .row j z,s,h=>by simp only [RelD]at h;rw [h.1];rfl
 | .elr j z i o,s,h=>by simp only [RelD]at h;rw [h.1];rfl
 | .osl j o z n c,s,h=>by simp only [RelD]at h;rw [h.1];rfl
 | .tup l,s,h=>by
  simp only [RelD]at h;rcases h with⟨cs,rfl,h2⟩|⟨a,rfl,h2⟩
  · have:=RelDL.mentE k l _ h2;simpa [ment,mentD]using this
  · have:=RelDL.mentE k l _ h2;rw [ment_vs]at this;simp only [mentD,←this];rfl
 | .fn f a b,s,h=>by
  simp only [RelD]at h;rcases h with⟨p,q,rfl,h2,h3⟩|⟨p,q,rfl,h2,h3⟩
  · have e1:=RelDL.mentE k a _ h2;have e2:=RelDL.mentE k b _ h3;simp only [ment,mentD,e1,e2];cases mentDL k a<;>rfl
  · have e1:=RelDL.mentE k a _ h2;have e2:=RelDL.mentE k b _ h3;rw [ment_vs]at e1 e2;simp only [mentD,←e1,←e2];rfl
 | .mp l,s,h=>by simp only [RelD]at h;obtain⟨y,rfl,_⟩:=h;rfl
 | .und,s,h=>by simp only [RelD]at h;rw [h];rfl
 | .bad,s,h=>by simp only [RelD]at h;rw [h];rfl
theorem RelDL.mentE {ok:Nat→Prop} {w:World} {R:Bool→Nat→Prop} (k:Nat):∀(l:List D) (r:List SV),RelDL ok w R l r→mentL k r=mentDL k l
 | [], [],_=>rfl
 |d::l,y::r,h=>by
  simp only [RelDL]at h;simp only [mentL,mentDL,RelD.mentE k d y h.1,RelDL.mentE k l r h.2];cases mentD k d<;>rfl
 | [],_::_,h=>by simp [RelDL]at h
 |_::_, [],h=>by simp [RelDL]at h
end
theorem hideDL_rel {ok:Nat→Prop} {w:World} {R:Bool→Nat→Prop} {k:Nat} {l:List D} {r:List SV} (h:RelDL ok w R l r):RelDL ok w R (hideDL k l) (hideL k r):=by
 induction l generalizing r with
 |nil=>cases r with
  |nil=>trivial
  |cons=>simp [RelDL]at h
 |cons d l ih=>cases r with
  |nil=>simp [RelDL]at h
  |cons s r=>
   simp only [RelDL]at h;refine⟨?_,ih h.2⟩;simp only [hideD,hide,h.1.mentE k];cases mentD k d
   · exact h.1
   · simp only [RelD]
theorem look_hideT {k:Nat} {T:List (Nat×SV)} {d:Nat} {s:SV} (h:look T d=some s):look (hideT k T) d=some (hide k s):=by
 induction T with
 |nil=>simp [look]at h
 |cons x T ih=>
  obtain⟨d',s'⟩:=x;simp only [look,hideT]at h⊢;split at h
  · cases h;rfl
  · exact ih h
def hideTL (k:Nat):List (Nat×D)→List (Nat×D)
 | []=> []
 |(d,s)::T=>(d,hideD k s)::hideTL k T
theorem hideTY_eq {k:Nat} {T:List (Nat×D)} {K:List (Nat×D)→Prop}:hideTY k T K=K (hideTL k T):=by
 induction T generalizing K with
 |nil=>rfl
 |cons x T ih=>
  obtain⟨d,s⟩:=x;simp only [hideTY,hideTL,hideD];split<;>rw [ih]
theorem lookY_hide {k:Nat} {T:List (Nat×D)} {d:Nat} {x:D} (h:lookY (hideTL k T) d=some x):∃y,lookY T d=some y∧x=hideD k y:=by
 induction T with
 |nil=>simp [lookY,hideTL]at h
 |cons q T ih=>
  obtain⟨d',s'⟩:=q;simp only [lookY,hideTL]at h⊢;split at h
  · cases h;exact⟨_,rfl,rfl⟩
  · exact ih h
theorem freshT_hide {j k:Nat} {T:List (Nat×SV)} (h:freshT j T=true):freshT j (hideT k T)=true:=by
 induction T with
 |nil=>rfl
 |cons x T ih=>
  obtain⟨d,s⟩:=x;simp only [freshT,hideT]at h⊢;split at h
  · cases h
  · rename_i hm;have:ment j (hide k s)=false:=by unfold hide;split;rfl;exact hm
    rw [this];exact ih h
theorem mentL_hide {j k:Nat} {l:List SV} (h:mentL j l=false):mentL j (hideL k l)=false:=by
 induction l with
 |nil=>rfl
 |cons s l ih=>
  simp only [mentL,hideL]at h⊢;split at h
  · cases h
  · rename_i hm;have:ment j (hide k s)=false:=by unfold hide;split;rfl;exact hm
    rw [this];exact ih h
theorem freshH_hide {j k:Nat} {H:Hp} (h:freshH j H=true):freshH j (hideH k H)=true:=by
 induction H with
 |nil=>rfl
 |cons x H ih=>
  obtain⟨i,e⟩:=x;cases e with
  |blk b cs ty=>
   simp only [freshH,hideH,hideE]at h⊢;split at h
   · cases h
   · rename_i hm;rw [mentL_hide hm];exact ih h
  |row v n xs sz ty=>simp only [freshH,hideH,hideE]at h⊢;exact ih h
  |mp b es ty=>simp only [freshH,hideH,hideE]at h⊢;exact ih h
def updE:Hp→Nat→Ent→Hp
 | [],_,_=> []
 |(k',e')::H,k,e=>match Nat.beq k' k with|true=>(k',e)::H|false=>(k',e')::updE H k e
def updY:Hy→Nat→E→Hy
 | [],_,_=> []
 |(k',e')::H,k,e=>match Nat.beq k' k with|true=>(k',e)::H|false=>(k',e')::updY H k e
theorem setE_intro {H:Hp} {k:Nat} {e e0:Ent} {K:Hp→Prop} (h:findE H k=some e0) (hK:K (updE H k e)):setE H k e K:=by
 induction H generalizing K with
 |nil=>simp [findE]at h
 |cons x H ih=>
  obtain⟨k',e'⟩:=x;simp only [findE,setE,updE]at h hK⊢;split
  · rename_i hb;rw [hb]at hK;exact hK
  · rename_i hb;rw [hb]at hK h;exact ih h hK
theorem setY_elim {H:Hy} {k:Nat} {e:E} {K:Hy→Prop} (h:setY H k e K):K (updY H k e):=by
 induction H generalizing K with
 |nil=>exact h.elim
 |cons x H ih=>
  obtain⟨k',e'⟩:=x;simp only [setY,updY]at h⊢;split at h
  · rename_i hb
    try rw [hb]
    exact h
  · rename_i hb
    try rw [hb]
    exact ih h
theorem findE_upd {H:Hp} {k j:Nat} {e e0:Ent} (h:findE H k=some e0):findE (updE H k e) j=if j=k then some e else findE H j:=by
 induction H with
 |nil=>simp [findE]at h
 |cons x H ih=>
  obtain⟨k',e'⟩:=x;simp only [findE,updE]at h⊢;cases hb:Nat.beq k' k with
  |true=>
   have:=beqT hb;subst this;simp only [findE];by_cases hj:j=k'
   · subst hj;simp
   · rw [if_neg hj,beqN (Ne.symm hj)]
  |false=>
   rw [hb]at h;simp only [findE];by_cases hj:j=k
   · subst hj;rw [hb];simp only;rw [ih h];simp
   · cases hb2:Nat.beq k' j with
     |true=>simp [hj]
     |false=>simp only;rw [ih h]
theorem findY_upd {H:Hy} {k j:Nat} {e x:E} (h:findY (updY H k e) j=some x):(j=k∧x=e)∨(j≠k∧findY H j=some x):=by
 induction H with
 |nil=>simp [findY,updY]at h
 |cons q H ih=>
  obtain⟨k',e'⟩:=q;simp only [updY]at h;cases hb:Nat.beq k' k with
  |true=>
   have:=beqT hb;subst this;rw [hb]at h;simp only [findY]at h⊢;cases hb2:Nat.beq k' j with
   |true=>rw [hb2]at h;cases h;exact .inl ⟨(beqT hb2).symm,rfl⟩
   |false=>rw [hb2]at h;exact .inr ⟨fun e=>beqF hb2 e.symm,h⟩
  |false=>
   rw [hb]at h;simp only [findY]at h⊢;cases hb2:Nat.beq k' j with
   |true=>rw [hb2]at h;cases h;exact .inr ⟨fun e=>by subst e;exact beqF hb (beqT hb2),rfl⟩
   |false=>rw [hb2]at h;exact ih h
theorem bs_upd {H:Hp} {k c:Nat} {e:Ent} (h:c∈bs (updE H k e)):c∈bs H∨c∈bsE e:=by
 induction H with
 |nil=>simp [updE,bs]at h
 |cons x H ih=>
  obtain⟨k',e'⟩:=x;simp only [updE]at h;split at h
  · simp only [bs,List.mem_append]at h⊢;rcases h with h|h
    · exact .inr h
    · exact .inl (.inr h)
  · simp only [bs,List.mem_append]at h⊢;rcases h with h|h
    · exact .inl (.inl h)
    · rcases ih h with h|h
      · exact .inl (.inr h)
      · exact .inr h
def freshE (j:Nat):Ent→Bool
 | .blk _ cs _=> !mentL j cs
 | .row _ _ _ _ _=>true
 | .mp _ _ _=>true
theorem freshH_cons {j k:Nat} {e:Ent} {H:Hp} (he:freshE j e=true) (h:freshH j H=true):freshH j ((k,e)::H)=true:=by
 cases e with
 |blk b cs ty=>simp only [freshE,Bool.not_eq_true']at he;simp only [freshH,he];exact h
 |row v n xs sz ty=>exact h
 |mp b es ty=>exact h
theorem freshH_inv {j k:Nat} {e:Ent} {H:Hp} (h:freshH j ((k,e)::H)=true):freshE j e=true∧freshH j H=true:=by
 cases e with
 |blk b cs ty=>
  simp only [freshH]at h;split at h
  · cases h
  · rename_i hm;exact⟨by simp [freshE,hm],h⟩
 |row v n xs sz ty=>exact⟨rfl,h⟩
 |mp b es ty=>exact⟨rfl,h⟩
theorem freshH_upd {j k:Nat} {e:Ent} {H:Hp} (he:freshE j e=true) (h:freshH j H=true):freshH j (updE H k e)=true:=by
 induction H with
 |nil=>rfl
 |cons x H ih=>
  obtain⟨k',e'⟩:=x;obtain⟨h1,h2⟩:=freshH_inv h;simp only [updE];split
  · exact freshH_cons he h2
  · exact freshH_cons h1 (ih h2)
theorem findY_hide {H:Hy} {k j:Nat} {x:E} (h:findY (hideHY k H) j=some x):∃y,findY H j=some y∧x=hideEY k y:=by
 induction H with
 |nil=>simp [findY,hideHY]at h
 |cons q H ih=>
  obtain⟨k',e'⟩:=q;simp only [findY,hideHY]at h⊢;split at h
  · cases h;exact⟨_,rfl,rfl⟩
  · exact ih h
section
variable {A : Nat → Prop} {X : Cy} {w0 : World} {bor : List Nat} {st : St} {sy : Sy} {KY : Sy → Prop}
theorem not_key {st:St} {j:Nat} (h:st.nk≤j) (q:Bool):¬keyS st q j:=fun hk=>by have:=hk.1;omega
theorem Sim.mono {st st':St} {T:List (Nat×D)} {H:Hy} {nk:Nat} (hs:Sim A st ⟨T,H,nk⟩) (hok:∀b,okS A st b→okS A st' b∧st'.w.heap[b]?=st.w.heap[b]?) (hk:∀q k,keyS st q k→keyS st' q k)
 (hT:∀d s,look st.T d=some s→look st'.T d=some s) (hH:∀k e,findE st.H k=some e→findE st'.H k=some e) (hn:st'.nk=st.nk) (fT:∀j,st'.nk≤j→freshT j st'.T=true) (fH:∀j,st'.nk≤j→freshH j st'.H=true):Sim A st' ⟨T,H,nk⟩:=by
 refine⟨fun d x hx=> ?_,fun k e he=> ?_,by rw [hn];exact hs.nk,fT,fH⟩
 · rcases hs.T d x hx with h|⟨s,h1,h2⟩
   · exact .inl h
   · exact .inr ⟨s,hT d s h1,RelD.mono hok hk _ _ h2⟩
 · obtain⟨e',h1,h2⟩:=hs.H k e he;refine⟨e',hH k e' h1, ?_⟩;cases e<;>cases e'<;>simp only [RelE]at h2⊢
   · exact⟨h2.1,RelDL.mono hok hk _ _ h2.2⟩
   · exact⟨h2.1,h2.2.1,h2.2.2.1,RepL.mono hok _ _ h2.2.2.2.1,h2.2.2.2.2⟩
   · exact h2
theorem RelE.mono {ok ok':Nat→Prop} {w w':World} {R R':Bool→Nat→Prop} (hok:∀b,ok b→ok' b∧w'.heap[b]?=w.heap[b]?) (hk:∀q k,R q k→R' q k) {e:E} {e':Ent} (h:RelE ok w R e e'):RelE ok' w' R' e e':=by
 cases e<;>cases e'<;>simp only [RelE]at h⊢
 · exact⟨h.1,RelDL.mono hok hk _ _ h.2⟩
 · exact⟨h.1,h.2.1,h.2.2.1,RepL.mono hok _ _ h.2.2.2.1,h.2.2.2.2⟩
 · exact h
theorem putY_sim {dst:Option Nat} {x:D} {s:SV} (h:putY X sy dst x KY) (hs:Sim A st sy) (hr:RelD (okS A st) st.w (keyS st) x s):put (cx X w0 bor) st dst s fun st'=>∃sy',KY sy'∧Sim A st' sy':=by
 unfold putY at h;cases dst with
 |none=>exact⟨sy,h,hs⟩
 |some d=>
  obtain⟨T,H,nk⟩:=sy;obtain⟨T',H',nk',w,lo,iv⟩:=st;simp only at h;simp only [put,cx];split at h
  · rename_i hd heq;cases heq;rw [hd];refine⟨_,h,fun d' x' hx'=> ?_,hs.H,hs.nk,fun j hj=> ?_,hs.fH⟩
    · simp only [lookY]at hx';simp only [look];cases hb:Nat.beq d d' with
      |true=>rw [hb]at hx';cases hx';exact .inr ⟨s,rfl,hr⟩
      |false=>rw [hb]at hx';exact hs.T d' x' hx'
    · simp only [freshT,hr.ment (fun q=>not_key hj q)];exact hs.fT j hj
  · exact h.elim
theorem new_sim {T:List (Nat×D)} {H:Hy} {nk:Nat} {T':List (Nat×SV)} {H':Hp} {nk':Nat} {w:World} {lo:Nat} {iv:List (Nat×Nat)} {b:Nat} {cs:List D} {cs':List SV} {ty:TypeId}
 (hs:Sim A ⟨T',H',nk',w,lo,iv⟩ ⟨T,H,nk⟩) (hr:RelDL (okS A ⟨T',H',nk',w,lo,iv⟩) w (keyS ⟨T',H',nk',w,lo,iv⟩) cs cs') (hb:lo≤b) (hiv:ivOK iv b):
 Sim A ⟨T',(nk', .blk b cs' ty)::H',nk'+1,w,lo,iv⟩ ⟨T,(nk, .blk cs ty)::H,nk+1⟩:=by
 have hnk:nk=nk':=hs.nk;subst hnk
 have hok:∀c,okS A ⟨T',H',nk,w,lo,iv⟩ c→okS A ⟨T',(nk, .blk b cs' ty)::H',nk+1,w,lo,iv⟩ c∧w.heap[c]?=w.heap[c]?:=by
  intro c ⟨h1,h2,h3⟩;refine⟨⟨h1,h2,fun x hx=> ?_⟩,rfl⟩;simp only [bs,bsE,List.mem_append,List.mem_singleton]at hx;rcases hx with rfl|hx
  · intro e;subst e;rcases h1 with h1|⟨p,hp,h4,h5⟩
    · simp only at h1;omega
    · simp only at hp;clear hr hs h2 h3
      induction iv with
      |nil=>cases hp
      |cons y l ih=>
       simp only [ivOK]at hiv;rcases List.mem_cons.1 hp with rfl|hp
       · omega
       · exact ih hiv.2 hp
  · exact h3 x hx
 have hk:∀q k,keyS ⟨T',H',nk,w,lo,iv⟩ q k→keyS ⟨T',(nk, .blk b cs' ty)::H',nk+1,w,lo,iv⟩ q k:=by
  intro q k ⟨h1,h2⟩;simp only at h1;refine⟨by simp only;omega,fun hq=> ?_⟩;simp only;rw [findE_cons_ne (by omega)];exact h2 hq
 refine⟨fun d x hx=> ?_,fun k e he=> ?_,rfl,fun j hj=>hs.fT j (by simp only at hj⊢;omega),fun j hj=> ?_⟩
 · rcases hs.T d x hx with h|⟨s,h1,h2⟩
   · exact .inl h
   · exact .inr ⟨s,h1,RelD.mono hok hk _ _ h2⟩
 · simp only [findY]at he;simp only [findE];cases hb:Nat.beq nk k with
   |true=>
    rw [hb]at he;cases he;exact⟨_,rfl,by exact⟨rfl,RelDL.mono hok hk _ _ hr⟩⟩
   |false=>
    rw [hb]at he;obtain⟨e',h1,h2⟩:=hs.H k e he;exact⟨e',h1,RelE.mono hok hk h2⟩
 · simp only at hj;refine freshH_cons ?_ (hs.fH j (by simp only;omega));simp only [freshE,Bool.not_eq_true'];exact RelDL.ment (fun q=>not_key (st:=⟨T',H',nk,w,lo,iv⟩) (by simp only;omega) q) _ _ hr
theorem newR_sim {T:List (Nat×D)} {H:Hy} {nk:Nat} {T':List (Nat×SV)} {H':Hp} {nk':Nat} {w:World} {lo:Nat} {iv:List (Nat×Nat)} {b:Nat} {l:List D} {xs:List Value} {z n:Nat} {ty:TypeId}
 (hs:Sim A ⟨T',H',nk',w,lo,iv⟩ ⟨T,H,nk⟩) (hr:RepL (okS A ⟨T',H',nk',w,lo,iv⟩) w l xs) (hfl:flatD l=true) (hlen:l.length=n*z) (hb:lo≤b) (hiv:ivOK iv b):
 Sim A ⟨T',(nk', .row (.slice (some ⟨b,0,none⟩) n n) n xs z ty)::H',nk'+1,w,lo,iv⟩ ⟨T,(nk, .row z n l ty)::H,nk+1⟩:=by
 have hnk:nk=nk':=hs.nk;subst hnk
 have hok:∀c,okS A ⟨T',H',nk,w,lo,iv⟩ c→okS A ⟨T',(nk, .row (.slice (some ⟨b,0,none⟩) n n) n xs z ty)::H',nk+1,w,lo,iv⟩ c∧w.heap[c]?=w.heap[c]?:=by
  intro c ⟨h1,h2,h3⟩;refine⟨⟨h1,h2,fun x hx=> ?_⟩,rfl⟩;simp only [bs,bsE,ownB,List.mem_append,List.mem_singleton]at hx;rcases hx with rfl|hx
  · intro e;subst e;rcases h1 with h1|⟨p,hp,h4,h5⟩
    · simp only at h1;omega
    · simp only at hp;clear hr hs h2 h3
      induction iv with
      |nil=>cases hp
      |cons y l ih=>
       simp only [ivOK]at hiv;rcases List.mem_cons.1 hp with rfl|hp
       · omega
       · exact ih hiv.2 hp
  · exact h3 x hx
 have hk:∀q k,keyS ⟨T',H',nk,w,lo,iv⟩ q k→keyS ⟨T',(nk, .row (.slice (some ⟨b,0,none⟩) n n) n xs z ty)::H',nk+1,w,lo,iv⟩ q k:=by
  intro q k ⟨h1,h2⟩;simp only at h1;refine⟨by simp only;omega,fun hq=> ?_⟩;simp only;rw [findE_cons_ne (by omega)];exact h2 hq
 refine⟨fun d x hx=> ?_,fun k e he=> ?_,rfl,fun j hj=>hs.fT j (by simp only at hj⊢;omega),fun j hj=> ?_⟩
 · rcases hs.T d x hx with h|⟨s,h1,h2⟩
   · exact .inl h
   · exact .inr ⟨s,h1,RelD.mono hok hk _ _ h2⟩
 · simp only [findY]at he;simp only [findE];cases hb:Nat.beq nk k with
   |true=>
    rw [hb]at he;cases he;exact⟨_,rfl,by exact⟨rfl,rfl,rfl,RepL.mono hok _ _ hr,hfl,hlen⟩⟩
   |false=>
    rw [hb]at he;obtain⟨e',h1,h2⟩:=hs.H k e he;exact⟨e',h1,RelE.mono hok hk h2⟩
 · simp only at hj;exact freshH_cons rfl (hs.fH j (by simp only;omega))
theorem upd_sim {T:List (Nat×D)} {H:Hy} {nk:Nat} {T':List (Nat×SV)} {H':Hp} {nk':Nat} {w:World} {lo:Nat} {iv:List (Nat×Nat)} {k:Nat} {e:E} {e0 e':Ent}
 (hs:Sim A ⟨T',H',nk',w,lo,iv⟩ ⟨T,H,nk⟩) (hf:findE H' k=some e0) (hr:RelE (okS A ⟨T',H',nk',w,lo,iv⟩) w (keyS ⟨T',H',nk',w,lo,iv⟩) e e') (hb:bsE e'=bsE e0)
 (hrow:isR e0=true→isR e'=true) (hfe:∀j,nk'≤j→freshE j e'=true):
 Sim A ⟨T',updE H' k e',nk',w,lo,iv⟩ ⟨T,updY H k e,nk⟩:=by
 have hok:∀c,okS A ⟨T',H',nk',w,lo,iv⟩ c→okS A ⟨T',updE H' k e',nk',w,lo,iv⟩ c∧w.heap[c]?=w.heap[c]?:=by
  intro c ⟨h1,h2,h3⟩;refine⟨⟨h1,h2,fun x hx=> ?_⟩,rfl⟩;rcases bs_upd hx with hx|hx
  · exact h3 x hx
  · rw [hb]at hx;exact h3 x (bs_mem.2 ⟨k,e0,findE_mem hf,hx⟩)
 have hk:∀q j,keyS ⟨T',H',nk',w,lo,iv⟩ q j→keyS ⟨T',updE H' k e',nk',w,lo,iv⟩ q j:=by
  intro q j ⟨h1,h2⟩;refine⟨h1,fun hq=> ?_⟩;simp only;rw [findE_upd hf];obtain⟨e1,h3,h4⟩:=h2 hq;split
  · rename_i hjk;subst hjk;simp only at h3;rw [hf]at h3;cases h3;exact⟨_,rfl,hrow h4⟩
  · exact⟨_,h3,h4⟩
 refine⟨fun d x hx=> ?_,fun j x hx=> ?_,hs.nk,hs.fT,fun j hj=>freshH_upd (hfe j hj) (hs.fH j hj)⟩
 · rcases hs.T d x hx with h|⟨s,h1,h2⟩
   · exact .inl h
   · exact .inr ⟨s,h1,RelD.mono hok hk _ _ h2⟩
 · simp only;rw [findE_upd hf];rcases findY_upd hx with⟨rfl,rfl⟩|⟨hne,hx⟩
   · exact⟨e',by simp,RelE.mono hok hk hr⟩
   · obtain⟨e1,h1,h2⟩:=hs.H j x hx;exact⟨e1,by rw [if_neg hne];exact h1,RelE.mono hok hk h2⟩
end
section
variable {A : Nat → Prop} {X : Cy} {w0 : World} {bor : List Nat} {st : St} {sy : Sy} {KY : Sy → Prop}
theorem news_sim {esz:Nat} {x:D} {s:SV} {Kn:Nat→List D→Prop} (h:newsY sy esz x Kn) (hs:Sim A st sy) (hr:RelD (okS A st) st.w (keyS st) x s):
 ∃m l news,Kn m l∧NewsOf (cx X w0 bor) st esz s m news∧RepL (okS A st) st.w l news∧flatD l=true∧l.length=m*esz:=by
 unfold newsY at h;split at h
 · rename_i k o z n c;simp only [RelD]at hr;obtain⟨rfl,_⟩:=hr;split at h
   · rename_i cs ty hz hf;obtain rfl:=beqT hz;obtain⟨e',hf',he⟩:=hs.H _ _ hf;cases e' with
     |row=>exact he.elim
     |mp=>exact he.elim
     |blk b cs' ty'=>
      split at h
      · rename_i l hl;split at h
        · rename_i hno;obtain⟨r,h1,h2⟩:=(he.2.dropD o).takeD hl;obtain⟨xs,rfl,h3⟩:=h2.vals hno;refine⟨n,l,xs,h, ?_,h3,noOwn_one hno,(takeD_eq hl).1⟩;simp only [NewsOf,hf'];exact⟨trivial,vs xs,h1,h2.one (rowsR st) (noOwn_one hno),(denL_vs _ _).symm⟩
        · exact h.elim
      · exact h.elim
   · rename_i z' N r ty hz hf;obtain rfl:=beqT hz;obtain⟨e',hf',he⟩:=hs.H _ _ hf;cases e' with
     |blk=>exact he.elim
     |mp=>exact he.elim
     |row v n' xs z2 ty'=>
      obtain⟨rfl,rfl,rfl,hrep,hfl,hlen⟩:=he;split at h
      · rename_i hzz;obtain rfl:=beqT hzz;obtain⟨hb,h⟩:=h;refine⟨n,_,(xs.drop o).take (n*z'),h, ?_,(hrep.drop _).take _,flatD_sub hfl fun d hd=>List.mem_of_mem_drop (List.mem_of_mem_take hd), ?_⟩
        · simp only [NewsOf,hf'];exact⟨trivial,trivial,hb,trivial,hrep.one hfl⟩
        · rcases hb with rfl|hb
          · simp
          · simp only [List.length_take,List.length_drop];omega
      · exact h.elim
   · exact h.elim
 · rename_i k z0;simp only [RelD]at hr;obtain⟨rfl,_⟩:=hr;split at h
   · rename_i z n l ty hf;obtain⟨e',hf',he⟩:=hs.H _ _ hf;cases e' with
     |blk=>exact he.elim
     |mp=>exact he.elim
     |row v n' xs z' ty'=>
      obtain⟨rfl,rfl,rfl,hrep,hfl,hlen⟩:=he;split at h
      · rename_i hz;obtain rfl:=beqT hz;refine⟨n,l,xs,h, ?_,hrep,hfl,hlen⟩;simp only [NewsOf,hf'];exact⟨trivial,trivial,trivial,hrep.one hfl⟩
      · exact h.elim
   · exact h.elim
 · have:=hr.sc;subst this;exact⟨0, [], [],h,by simp [NewsOf],trivial,rfl,by simp⟩
 · rename_i z n l;simp only [RelD,Rep]at hr;obtain⟨y,rfl,a,c,rfl,hnc,hmx,hlen,hfl,hmem⟩:=hr;split at h
   · rename_i hz;obtain rfl:=beqT hz;rcases hmem with rfl|⟨b,o,xs,rfl,hok,hrep,hcell⟩
     · have hn:n=0:=by omega
       subst hn;have hl:l= []:=List.eq_nil_of_length_eq_zero (by simpa using hlen)
       subst hl;refine⟨0, [], [],h, ?_,trivial,rfl,by simp⟩;cases a with
       |none=>simp [NewsOf]
       |some ad=>obtain⟨b,o,sp⟩:=ad;simp [NewsOf]
     · refine⟨n,l,xs,h, ?_,hrep,hfl,hlen⟩;simp only [NewsOf];have hxl:=hrep.length;exact .inr ⟨trivial,trivial,hrep.one hfl,by omega, .inr ⟨hok.2.2,fun j hj=>hcell j hj⟩⟩
   · exact h.elim
 · exact h.elim
theorem grow_sim {T:List (Nat×D)} {H:Hy} {nk:Nat} {T':List (Nat×SV)} {H':Hp} {nk':Nat} {w w1:World} {lo lo1:Nat} {iv iv1:List (Nat×Nat)} {k:Nat} {e0:Ent} {v':Value} {n z:Nat} {l:List D} {xs:List Value} {ty:TypeId}
 (hs:Sim A ⟨T',H',nk',w,lo,iv⟩ ⟨T,H,nk⟩) (hf:findE H' k=some e0) (hv:∀b,b∈ownB v'→b∈bs H'∨w.heap.size≤b) (hfx:Fx (bs H') w w1) (hlo:(lo1=w1.heap.size)∨(lo1=lo∧iv1=iv))
 (hrep:RepL (okS A ⟨T',H',nk',w,lo,iv⟩) w l xs) (hfl:flatD l=true) (hlen:l.length=n*z):
 Sim A ⟨hideT k T',updE (hideH k H') k (.row v' n xs z ty),nk',w1,lo1,iv1⟩ ⟨hideTL k T,updY (hideHY k H) k (.row z n l ty),nk⟩:=by
 have hf2:findE (hideH k H') k=some (hideE k e0):=by rw [findE_hide,hf];rfl
 have hok:∀c,okS A ⟨T',H',nk',w,lo,iv⟩ c→okS A ⟨hideT k T',updE (hideH k H') k (.row v' n xs z ty),nk',w1,lo1,iv1⟩ c∧w1.heap[c]?=w.heap[c]?:=by
  intro c ⟨h1,h2,h3⟩;refine⟨⟨⟨?_,h1.2⟩,Nat.lt_of_lt_of_le h2 hfx.size,fun x hx=> ?_⟩,hfx.block c h2 h3⟩
  · rcases hlo with rfl|⟨rfl,rfl⟩
    · exact .inl (Nat.lt_of_lt_of_le h2 hfx.size)
    · exact h1.1
  · rcases bs_upd hx with hx|hx
    · rw [bs_hide]at hx;exact h3 x hx
    · rcases hv x hx with hx|hx
      · exact h3 x hx
      · intro e;simp only at h2;omega
 have hk:∀q j,keyS ⟨T',H',nk',w,lo,iv⟩ q j→keyS ⟨hideT k T',updE (hideH k H') k (.row v' n xs z ty),nk',w1,lo1,iv1⟩ q j:=by
  intro q j ⟨h1,h2⟩;refine⟨h1,fun hq=> ?_⟩;simp only;rw [findE_upd hf2,findE_hide];obtain⟨e1,h3,h4⟩:=h2 hq;split
  · exact⟨_,rfl,rfl⟩
  · simp only at h3;rw [h3];exact⟨_,rfl,by cases e1<;>first|exact h4|rfl⟩
 refine⟨fun d x hx=> ?_,fun j x hx=> ?_,hs.nk,fun j hj=>freshT_hide (hs.fT j hj),fun j hj=>freshH_upd rfl (freshH_hide (hs.fH j hj))⟩
 · obtain⟨y,hy,rfl⟩:=lookY_hide hx;rcases hs.T d y hy with h|⟨s,h1,h2⟩
   · subst h;exact .inl (by simp [hideD,mentD])
   · unfold hideD;cases hm:mentD k y with
     |true=>exact .inl rfl
     |false=>
      refine .inr ⟨s, ?_,RelD.mono hok hk _ _ h2⟩;have:=look_hideT (k:=k) h1;simp only [hide,h2.mentE k,hm]at this;exact this
 · simp only;rw [findE_upd hf2,findE_hide];rcases findY_upd hx with⟨rfl,rfl⟩|⟨hne,hx⟩
   · exact⟨.row v' n xs z ty,by simp,by exact⟨rfl,rfl,rfl,RepL.mono hok _ _ hrep,hfl,hlen⟩⟩
   · obtain⟨y,hy,rfl⟩:=findY_hide hx;obtain⟨e1,h1,h2⟩:=hs.H j y hy;refine⟨hideE k e1,by rw [if_neg hne];simp only at h1;rw [h1];rfl, ?_⟩;have h3:=RelE.mono hok hk h2;cases y<;>cases e1<;>simp only [hideEY,hideE,RelE]at h3⊢
     · exact⟨h3.1,hideDL_rel h3.2⟩
     · exact h3
     · exact h3
theorem newrow_sim {T:List (Nat×D)} {H:Hy} {nk:Nat} {T':List (Nat×SV)} {H':Hp} {nk':Nat} {w w1:World} {lo lo1:Nat} {iv iv1:List (Nat×Nat)} {v':Value} {n z:Nat} {l:List D} {xs:List Value} {ty:TypeId}
 (hs:Sim A ⟨T',H',nk',w,lo,iv⟩ ⟨T,H,nk⟩) (hv:∀b,b∈ownB v'→b∈bs H'∨w.heap.size≤b) (hfx:Fx (bs H') w w1) (hlo:(lo1=w1.heap.size)∨(lo1=lo∧iv1=iv))
 (hrep:RepL (okS A ⟨T',H',nk',w,lo,iv⟩) w l xs) (hfl:flatD l=true) (hlen:l.length=n*z):
 Sim A ⟨T',(nk', .row v' n xs z ty)::H',nk'+1,w1,lo1,iv1⟩ ⟨T,(nk, .row z n l ty)::H,nk+1⟩:=by
 have hnk:nk=nk':=hs.nk;subst hnk
 have hok:∀c,okS A ⟨T',H',nk,w,lo,iv⟩ c→okS A ⟨T',(nk, .row v' n xs z ty)::H',nk+1,w1,lo1,iv1⟩ c∧w1.heap[c]?=w.heap[c]?:=by
  intro c ⟨h1,h2,h3⟩;refine⟨⟨⟨?_,h1.2⟩,Nat.lt_of_lt_of_le h2 hfx.size,fun x hx=> ?_⟩,hfx.block c h2 h3⟩
  · rcases hlo with rfl|⟨rfl,rfl⟩
    · exact .inl (Nat.lt_of_lt_of_le h2 hfx.size)
    · exact h1.1
  · simp only [bs,bsE,List.mem_append]at hx;rcases hx with hx|hx
    · rcases hv x hx with hx|hx
      · exact h3 x hx
      · intro e;simp only at h2;omega
    · exact h3 x hx
 have hk:∀q k,keyS ⟨T',H',nk,w,lo,iv⟩ q k→keyS ⟨T',(nk, .row v' n xs z ty)::H',nk+1,w1,lo1,iv1⟩ q k:=by
  intro q k ⟨h1,h2⟩;simp only at h1;refine⟨by simp only;omega,fun hq=> ?_⟩;simp only;rw [findE_cons_ne (by omega)];exact h2 hq
 refine⟨fun d x hx=> ?_,fun k e he=> ?_,rfl,fun j hj=>hs.fT j (by simp only at hj⊢;omega),fun j hj=>freshH_cons rfl (hs.fH j (by simp only at hj⊢;omega))⟩
 · rcases hs.T d x hx with h|⟨s,h1,h2⟩
   · exact .inl h
   · exact .inr ⟨s,h1,RelD.mono hok hk _ _ h2⟩
 · simp only [findY]at he;simp only [findE];cases hb:Nat.beq nk k with
   |true=>
    rw [hb]at he;cases he;exact⟨_,rfl,by exact⟨rfl,rfl,rfl,RepL.mono hok _ _ hrep,hfl,hlen⟩⟩
   |false=>
    rw [hb]at he;obtain⟨e',h1,h2⟩:=hs.H k e he;exact⟨e',h1,RelE.mono hok hk h2⟩
theorem grow_sim2 {T:List (Nat×D)} {H:Hy} {nk:Nat} {T':List (Nat×SV)} {H':Hp} {nk':Nat} {w w1:World} {lo lo1:Nat} {iv iv1:List (Nat×Nat)} {k:Nat} {e0:Ent} {v':Value} {n z:Nat} {l:List D} {xs:List Value} {ty:TypeId}
 (hs:Sim A ⟨T',H',nk',w,lo,iv⟩ ⟨T,H,nk⟩) (hf:findE H' k=some e0) (hv:∀b,b∈ownB v'→b∈bs H'∨w.heap.size≤b) (hfx:Fx (bs H') w w1) (hlo:(lo1=w1.heap.size)∨(lo1=lo∧iv1=iv))
 (hrep:RepL (okS A ⟨hideT k T',updE (hideH k H') k (.row v' n xs z ty),nk',w1,lo1,iv1⟩) w1 l xs) (hfl:flatD l=true) (hlen:l.length=n*z):
 Sim A ⟨hideT k T',updE (hideH k H') k (.row v' n xs z ty),nk',w1,lo1,iv1⟩ ⟨hideTL k T,updY (hideHY k H) k (.row z n l ty),nk⟩:=by
 have hf2:findE (hideH k H') k=some (hideE k e0):=by rw [findE_hide,hf];rfl
 have hok:∀c,okS A ⟨T',H',nk',w,lo,iv⟩ c→okS A ⟨hideT k T',updE (hideH k H') k (.row v' n xs z ty),nk',w1,lo1,iv1⟩ c∧w1.heap[c]?=w.heap[c]?:=by
  intro c ⟨h1,h2,h3⟩;refine⟨⟨⟨?_,h1.2⟩,Nat.lt_of_lt_of_le h2 hfx.size,fun x hx=> ?_⟩,hfx.block c h2 h3⟩
  · rcases hlo with rfl|⟨rfl,rfl⟩
    · exact .inl (Nat.lt_of_lt_of_le h2 hfx.size)
    · exact h1.1
  · rcases bs_upd hx with hx|hx
    · rw [bs_hide]at hx;exact h3 x hx
    · rcases hv x hx with hx|hx
      · exact h3 x hx
      · intro e;simp only at h2;omega
 have hk:∀q j,keyS ⟨T',H',nk',w,lo,iv⟩ q j→keyS ⟨hideT k T',updE (hideH k H') k (.row v' n xs z ty),nk',w1,lo1,iv1⟩ q j:=by
  intro q j ⟨h1,h2⟩;refine⟨h1,fun hq=> ?_⟩;simp only;rw [findE_upd hf2,findE_hide];obtain⟨e1,h3,h4⟩:=h2 hq;split
  · exact⟨_,rfl,rfl⟩
  · simp only at h3;rw [h3];exact⟨_,rfl,by cases e1<;>first|exact h4|rfl⟩
 refine⟨fun d x hx=> ?_,fun j x hx=> ?_,hs.nk,fun j hj=>freshT_hide (hs.fT j hj),fun j hj=>freshH_upd rfl (freshH_hide (hs.fH j hj))⟩
 · obtain⟨y,hy,rfl⟩:=lookY_hide hx;rcases hs.T d y hy with h|⟨s,h1,h2⟩
   · subst h;exact .inl (by simp [hideD,mentD])
   · unfold hideD;cases hm:mentD k y with
     |true=>exact .inl rfl
     |false=>
      refine .inr ⟨s, ?_,RelD.mono hok hk _ _ h2⟩;have:=look_hideT (k:=k) h1;simp only [hide,h2.mentE k,hm]at this;exact this
 · simp only;rw [findE_upd hf2,findE_hide];rcases findY_upd hx with⟨rfl,rfl⟩|⟨hne,hx⟩
   · exact⟨.row v' n xs z ty,by simp,by exact⟨rfl,rfl,rfl,hrep,hfl,hlen⟩⟩
   · obtain⟨y,hy,rfl⟩:=findY_hide hx;obtain⟨e1,h1,h2⟩:=hs.H j y hy;refine⟨hideE k e1,by rw [if_neg hne];simp only at h1;rw [h1];rfl, ?_⟩;have h3:=RelE.mono hok hk h2;cases y<;>cases e1<;>simp only [hideEY,hideE,RelE]at h3⊢
     · exact⟨h3.1,hideDL_rel h3.2⟩
     · exact h3
     · exact h3
theorem newrow_sim2 {T:List (Nat×D)} {H:Hy} {nk:Nat} {T':List (Nat×SV)} {H':Hp} {nk':Nat} {w w1:World} {lo lo1:Nat} {iv iv1:List (Nat×Nat)} {v':Value} {n z:Nat} {l:List D} {xs:List Value} {ty:TypeId}
 (hs:Sim A ⟨T',H',nk',w,lo,iv⟩ ⟨T,H,nk⟩) (hv:∀b,b∈ownB v'→b∈bs H'∨w.heap.size≤b) (hfx:Fx (bs H') w w1) (hlo:(lo1=w1.heap.size)∨(lo1=lo∧iv1=iv))
 (hrep:RepL (okS A ⟨T',(nk', .row v' n xs z ty)::H',nk'+1,w1,lo1,iv1⟩) w1 l xs) (hfl:flatD l=true) (hlen:l.length=n*z):
 Sim A ⟨T',(nk', .row v' n xs z ty)::H',nk'+1,w1,lo1,iv1⟩ ⟨T,(nk, .row z n l ty)::H,nk+1⟩:=by
 have hnk:nk=nk':=hs.nk;subst hnk
 have hok:∀c,okS A ⟨T',H',nk,w,lo,iv⟩ c→okS A ⟨T',(nk, .row v' n xs z ty)::H',nk+1,w1,lo1,iv1⟩ c∧w1.heap[c]?=w.heap[c]?:=by
  intro c ⟨h1,h2,h3⟩;refine⟨⟨⟨?_,h1.2⟩,Nat.lt_of_lt_of_le h2 hfx.size,fun x hx=> ?_⟩,hfx.block c h2 h3⟩
  · rcases hlo with rfl|⟨rfl,rfl⟩
    · exact .inl (Nat.lt_of_lt_of_le h2 hfx.size)
    · exact h1.1
  · simp only [bs,bsE,List.mem_append]at hx;rcases hx with hx|hx
    · rcases hv x hx with hx|hx
      · exact h3 x hx
      · intro e;simp only at h2;omega
    · exact h3 x hx
 have hk:∀q k,keyS ⟨T',H',nk,w,lo,iv⟩ q k→keyS ⟨T',(nk, .row v' n xs z ty)::H',nk+1,w1,lo1,iv1⟩ q k:=by
  intro q k ⟨h1,h2⟩;simp only at h1;refine⟨by simp only;omega,fun hq=> ?_⟩;simp only;rw [findE_cons_ne (by omega)];exact h2 hq
 refine⟨fun d x hx=> ?_,fun k e he=> ?_,rfl,fun j hj=>hs.fT j (by simp only at hj⊢;omega),fun j hj=>freshH_cons rfl (hs.fH j (by simp only at hj⊢;omega))⟩
 · rcases hs.T d x hx with h|⟨s,h1,h2⟩
   · exact .inl h
   · exact .inr ⟨s,h1,RelD.mono hok hk _ _ h2⟩
 · simp only [findY]at he;simp only [findE];cases hb:Nat.beq nk k with
   |true=>
    rw [hb]at he;cases he;exact⟨_,rfl,by exact⟨rfl,rfl,rfl,hrep,hfl,hlen⟩⟩
   |false=>
    rw [hb]at he;obtain⟨e',h1,h2⟩:=hs.H k e he;exact⟨e',h1,RelE.mono hok hk h2⟩
theorem app_sim {seq:Bool} {e esz bytes:Nat} {s x:D} {s' x':SV} {dst:Option Nat} (h:appY e esz bytes s x sy fun st' d=>putY X st' dst d KY) (hs:Sim A st sy) (h1:RelD (okS A st) st.w (keyS st) s s') (h2:RelD (okS A st) st.w (keyS st) x x'):
 AppVC (cx X w0 bor) seq e esz bytes s' x' st fun st' d=>put (cx X w0 bor) st' dst d fun st'=>∃sy',KY sy'∧Sim A st' sy':=by
 unfold appY at h;split at h
 · exact h.elim
 rename_i hez;have hez:=Nat.le_of_ble_eq_true hez;have hnews:=h;clear h;obtain⟨m,l,news,h,hn,hrep,hfl,hlen⟩:=news_sim (X:=X) (w0:=w0) (bor:=bor) hnews hs h2;clear hnews;obtain⟨T',H',nk',w,lo,iv⟩:=st
 have reW_of:∀ {w1:World} {K:List (Nat×SV)→Hp→Nat→World→Nat→List (Nat×Nat)→Prop},(∀lo1 iv1,(lo1=w1.heap.size∨(lo1=lo∧iv1=iv))→K T' H' nk' w1 lo1 iv1)→reW seq ⟨T',H',nk',w,lo,iv⟩ w1 K:=by
  intro w1 K hh;cases seq with
  |true=>exact hh _ _ (.inl rfl)
  |false=>exact hh _ _ (.inr ⟨rfl,rfl⟩)
 split at h
 · rename_i T H nk;have:=h1.sc;subst this;obtain⟨hb,r',n',⟨rfl,rfl⟩,h⟩:=h;have hnk:nk=nk':=hs.nk;subst hnk;refine⟨0,0,m, .slice none 0 0, [],news,⟨hez,hn,by simpa using hb.1,by simpa [maxLen]using hb.2⟩, .inl ⟨rfl,rfl,fun v' w1 hv hz hf=>reW_of fun lo1 iv1 hlo=> ?_⟩⟩
   have hsim:=newrow_sim (ty:=e) hs hz hf hlo hrep hfl hlen;refine⟨hs.fT nk (Nat.le_refl _),hs.fH nk (Nat.le_refl _),putY_sim h hsim ?_⟩;simp only [RelD];exact⟨trivial,by simp only;omega,fun _=>⟨_,by simp only [findE,Nat.beq_refl];rfl,rfl⟩⟩
 · rename_i k z0 T H nk;have h1':=h1;simp only [RelD]at h1;obtain⟨rfl,hkey⟩:=h1;split at h
   · rename_i z n r ty hfy;split at h
     · rename_i hzz hty;obtain rfl:=beqT hzz;obtain rfl:=beqT hty;obtain⟨hb,r',n',⟨rfl,rfl⟩,h⟩:=h;obtain⟨e',hf',he⟩:=hs.H _ _ hfy;cases e' with
       |blk=>exact he.elim
       |mp=>exact he.elim
       |row v n' xs z' ty'=>
        obtain⟨rfl,rfl,rfl,hrep0,hfl0,hlen0⟩:=he;refine⟨k,n,m,v,xs,news,⟨hez,hn,hb.1,by simpa [maxLen]using hb.2⟩, .inr (.inl ⟨rfl,hf',fun v' w1 hv hz hf=>reW_of fun lo1 iv1 hlo=> ?_⟩)⟩
        rw [hideHK_eq]at h;have h:=setY_elim h;rw [hideTY_eq]at h
        have hsim:=grow_sim (k:=k) (v':=v') (n:=n+m) (z:=z) (ty:=ty) (l:=r++l) (xs:=xs++news) hs hf' hz hf hlo (hrep0.app hrep) (flatD_of fun d hd=>by
         rcases List.mem_append.1 hd with hd|hd
         · exact flatD_mem hfl0 hd
         · exact flatD_mem hfl hd) (by simp [hlen0,hlen,Nat.add_mul])
        refine setE_intro (e0:=hideE k _) (by rw [findE_hide];simp only at hf';rw [hf'];rfl) ?_;rw [hideK_eq];refine putY_sim h hsim ?_;simp only [RelD];exact⟨trivial,hkey.1,fun _=>⟨_,by simp only;rw [findE_upd (e0:=hideE k _) (by rw [findE_hide];simp only at hf';rw [hf'];rfl),if_pos rfl],rfl⟩⟩
     · exact h.elim
   · exact h.elim
 · rename_i k o z0 n c T H nk;simp only [RelD]at h1;obtain⟨rfl,hkey⟩:=h1;split at h
   · rename_i z N r ty ho hc hz0 hfy;obtain rfl:=beqT ho;obtain rfl:=beqT hc;split at h
     · rename_i hzz hty;obtain rfl:=beqT hzz;obtain rfl:=beqT hty;obtain⟨⟨hN0,hnN,hb⟩,r',n',⟨rfl,rfl⟩,h⟩:=h;obtain⟨e',hf',he⟩:=hs.H _ _ hfy;cases e' with
       |blk=>exact he.elim
       |mp=>exact he.elim
       |row v N' xs z' ty'=>
        obtain⟨rfl,rfl,rfl,hrep0,hfl0,hlen0⟩:=he;have hle:n*z≤N*z:=Nat.mul_le_mul_right _ hnN;refine⟨k,n,m,v,xs.take (n*z),news,⟨hez,hn,hb.1,by simpa [maxLen]using hb.2⟩, .inr (.inr (.inl ⟨rfl,⟨v,N,xs,hf',hN0,hnN,rfl⟩,fun v' w1 hv hz hf=>reW_of fun lo1 iv1 hlo=> ?_⟩))⟩
        rw [hideHK_eq]at h;have h:=setY_elim h;rw [hideTY_eq]at h
        have hsim:=grow_sim (k:=k) (v':=v') (n:=n+m) (z:=z) (ty:=ty) (l:=r.take (n*z)++l) (xs:=xs.take (n*z)++news) hs hf' hz hf hlo ((hrep0.take _).app hrep) (flatD_of fun d hd=>by
         rcases List.mem_append.1 hd with hd|hd
         · exact flatD_mem hfl0 (List.mem_of_mem_take hd)
         · exact flatD_mem hfl hd) (by simp only [List.length_append,List.length_take,hlen0,hlen,Nat.min_eq_left hle,Nat.add_mul])
        refine setE_intro (e0:=hideE k _) (by rw [findE_hide];simp only at hf';rw [hf'];rfl) ?_;rw [hideK_eq];refine putY_sim h hsim ?_;simp only [RelD];exact⟨trivial,hkey.1,fun _=>⟨_,by simp only;rw [findE_upd (e0:=hideE k _) (by rw [findE_hide];simp only at hf';rw [hf'];rfl),if_pos rfl],rfl⟩⟩
     · exact h.elim
   · exact h.elim
 · exact h.elim
end
def dropE (k:Nat):Hp→Hp
 | []=> []
 |(j,e)::H=>match Nat.beq j k with|true=>dropE k H|false=>(j,e)::dropE k H
theorem findE_drop {H:Hp} {k j:Nat} (h:j≠k):findE (dropE k H) j=findE H j:=by
 induction H with
 |nil=>rfl
 |cons x H ih=>
  obtain⟨i,e⟩:=x;simp only [dropE,findE];cases hb:Nat.beq i k with
  |true=>
   have:=beqT hb;subst this;rw [beqN (Ne.symm h)];exact ih
  |false=>simp only [findE];rw [ih]
theorem mem_drop {H:Hp} {k j:Nat} {e:Ent} (h:(j,e)∈dropE k H):(j,e)∈H∧j≠k:=by
 induction H with
 |nil=>cases h
 |cons x H ih=>
  obtain⟨i,e'⟩:=x;simp only [dropE]at h;cases hb:Nat.beq i k with
  |true=>rw [hb]at h;obtain⟨h1,h2⟩:=ih h;exact⟨List.mem_cons_of_mem _ h1,h2⟩
  |false=>
   rw [hb]at h;rcases List.mem_cons.1 h with h|h
   · cases h;exact⟨List.mem_cons_self,beqF hb⟩
   · obtain⟨h1,h2⟩:=ih h;exact⟨List.mem_cons_of_mem _ h1,h2⟩
theorem drop_sub {k:Nat} (H:Hp):(dropE k H).Sublist H:=by
 induction H with
 |nil=>exact List.Sublist.slnil
 |cons x H ih=>
  obtain⟨i,e⟩:=x;simp only [dropE];cases hb:Nat.beq i k with
  |true=>exact List.Sublist.cons _ ih
  |false=>exact List.Sublist.cons_cons _ ih
theorem bs_sub {H H':Hp} (h:H.Sublist H'):(bs H).Sublist (bs H'):=by
 induction h with
 |slnil=>exact List.Sublist.slnil
 |cons x _ ih=>obtain⟨i,e⟩:=x;exact ih.trans (List.sublist_append_right _ _)
 |cons_cons x _ ih=>obtain⟨i,e⟩:=x;exact List.Sublist.append (List.Sublist.refl _) ih
def mapC (g:Nat→List SV→List SV):Hp→Hp
 | []=> []
 |(j, .blk b cs ty)::H=>(j, .blk b (g j cs) ty)::mapC g H
 |(j,e)::H=>(j,e)::mapC g H
theorem findE_map {g:Nat→List SV→List SV} {H:Hp} {j:Nat}:findE (mapC g H) j=(findE H j).map (fun| .blk b cs ty=> .blk b (g j cs) ty|e=>e):=by
 induction H with
 |nil=>rfl
 |cons x H ih=>
  obtain⟨i,e⟩:=x;cases e<;>simp only [mapC,findE]<;>cases hb:Nat.beq i j
  · exact ih
  · have:=beqT hb;subst this;rfl
  · exact ih
  · rfl
  · exact ih
  · rfl
theorem mem_map {g:Nat→List SV→List SV} {H:Hp} {j:Nat} {e:Ent} (h:(j,e)∈mapC g H):(∃b cs ty,(j, .blk b cs ty)∈H∧e= .blk b (g j cs) ty)∨((j,e)∈H∧isR e=true):=by
 induction H with
 |nil=>cases h
 |cons x H ih=>
  obtain⟨i,e'⟩:=x;cases e' with
  |blk b cs ty=>
   simp only [mapC]at h;rcases List.mem_cons.1 h with h|h
   · cases h;exact .inl ⟨b,cs,ty,List.mem_cons_self,rfl⟩
   · rcases ih h with⟨b,cs,ty,h1,h2⟩|⟨h1,h2⟩
     · exact .inl ⟨b,cs,ty,List.mem_cons_of_mem _ h1,h2⟩
     · exact .inr ⟨List.mem_cons_of_mem _ h1,h2⟩
  |row v n xs sz ty=>
   simp only [mapC]at h;rcases List.mem_cons.1 h with h|h
   · cases h;exact .inr ⟨List.mem_cons_self,rfl⟩
   · rcases ih h with⟨b,cs,ty,h1,h2⟩|⟨h1,h2⟩
     · exact .inl ⟨b,cs,ty,List.mem_cons_of_mem _ h1,h2⟩
     · exact .inr ⟨List.mem_cons_of_mem _ h1,h2⟩
  |mp b es ty=>
   simp only [mapC]at h;rcases List.mem_cons.1 h with h|h
   · cases h;exact .inr ⟨List.mem_cons_self,rfl⟩
   · rcases ih h with⟨b,cs,ty,h1,h2⟩|⟨h1,h2⟩
     · exact .inl ⟨b,cs,ty,List.mem_cons_of_mem _ h1,h2⟩
     · exact .inr ⟨List.mem_cons_of_mem _ h1,h2⟩
theorem bs_map {g:Nat→List SV→List SV} {H:Hp}:bs (mapC g H)=bs H:=by
 induction H with
 |nil=>rfl
 |cons x H ih=>obtain⟨i,e⟩:=x;cases e<;>simp [mapC,bs,bsE,ih]
theorem keys_map {g:Nat→List SV→List SV} {H:Hp}:(mapC g H).map (·.1)=H.map (·.1):=by
 induction H with
 |nil=>rfl
 |cons x H ih=>obtain⟨i,e⟩:=x;cases e<;>simp [mapC,ih]
theorem bOf_map {g:Nat→List SV→List SV} {H:Hp} (j:Nat):bOf (mapC g H) j=bOf H j∧rowVal (mapC g H) j=rowVal H j:=by
 simp only [bOf,rowVal,findE_map];cases findE H j with
 |none=>exact⟨rfl,rfl⟩
 |some e=>cases e<;>exact⟨rfl,rfl⟩
section
variable {A : Nat → Prop} {Xx : Cx} {w : World}
structure FzAt (ok ok':Nat→Prop) (R R':Bool→Nat→Prop) (H:Hp) (w:World) (k:Nat) (e:E):Prop where
 ok:∀b,ok b→ok' b
 R:∀q j,j≠k→R q j→R' q j
 blk:∀cs ty,e= .blk cs ty→flatD cs=true∧rowVal H k=undef∧∃b xs,bOf H k=b∧ok' b∧RepL ok' w cs xs∧∀j,j<cs.length→w.cell? ⟨b,j,none⟩=xs[j]?
 row:∀z n l ty,e= .row z n l ty→Rep ok' w (.lst z n l) (rowVal H k)
variable {ok ok' : Nat → Prop} {R R' : Bool → Nat → Prop} {H : Hp} {k : Nat} {e : E}
theorem den_drop {s:SV} (h:ment k s=false):den (dropE k H) s=den H s:=den_congr k (fun j hj=>⟨by simp [bOf,findE_drop hj],by simp [rowVal,findE_drop hj]⟩) s h
theorem fzO_one {x x':D} (h:fzO k e x=some x') (ho:oneD x=true):oneD x'=true:=by
 cases x<;>simp [oneD]at ho<;>simp only [fzO]at h
 · cases h;rfl
 · cases h;rfl
 · cases h;rfl
 · split at h
   · cases h;rfl
   · split at h<;>cases h;rfl
 · split at h<;>cases h;rfl
 · split at h
   · cases h;rfl
   · split at h<;>cases h;rfl
 · split at h<;>cases h;rfl
 · split at h
   · cases h;rfl
   · split at h
     · split at h<;>cases h;rfl
     · cases h
 · split at h<;>cases h;rfl
 · cases h;rfl
theorem fzL_flat {l l':List D} (h:fzL k e l=some l') (ho:flatD l=true):flatD l'=true:=by
 induction l generalizing l' with
 |nil=>simp [fzL]at h;subst h;rfl
 |cons x l ih=>
  simp only [fzL]at h;split at h
  · rename_i y r hy hr;cases h;simp only [flatD];rw [fzO_one hy (flatD_mem ho List.mem_cons_self)];exact ih hr (flatD_of fun d hd=>flatD_mem ho (List.mem_cons_of_mem _ hd))
  · cases h
mutual
theorem fz_rel (hz:FzAt ok ok' R R' H w k e):∀(x:D) (s:SV) (x':D),RelD ok w R x s→fzO k e x=some x'→∃s',RelD ok' w R' x' s'∧den (dropE k H) s'=den H s∧ment k s'=false
 | .v x,s,x',h,hx=>by
  simp only [RelD]at h;simp only [fzO]at hx;cases hx;obtain⟨rfl,h⟩:=h;exact⟨.v x,by simp only [RelD];exact⟨trivial,h⟩,rfl,rfl⟩
 | .lst z n l,s,x',h,hx=>by
  simp only [fzO]at hx;cases hx;simp only [RelD]at h;obtain⟨y,rfl,h⟩:=h;exact⟨.v y,by simp only [RelD];exact⟨y,rfl,Rep.mono (fun b hb=>⟨hz.ok b hb,rfl⟩) _ _ h⟩,rfl,rfl⟩
 | .ptr l o,s,x',h,hx=>by
  simp only [fzO]at hx;cases hx;simp only [RelD]at h;obtain⟨y,rfl,h⟩:=h;exact⟨.v y,by simp only [RelD];exact⟨y,rfl,Rep.mono (fun b hb=>⟨hz.ok b hb,rfl⟩) _ _ h⟩,rfl,rfl⟩
 | .own j o,s,x',h,hx=>by
  simp only [RelD]at h;obtain⟨rfl,h⟩:=h;simp only [fzO]at hx;cases hb:Nat.beq j k with
  |false=>
   rw [hb]at hx;cases hx;exact⟨_,by simp only [RelD];exact⟨trivial,hz.R _ _ (beqF hb) h⟩,den_drop (by simpa [ment]using hb),by simpa [ment]using hb⟩
  |true=>
   have:=beqT hb;subst this;rw [hb]at hx;simp only at hx;split at hx
   · cases hx;obtain⟨hfl,hrv,b,xs,h1,h2,h3,h4⟩:=hz.blk _ _ rfl;refine⟨.v (.pointer (some ⟨b,o,none⟩)), ?_,by simp [den,h1],rfl⟩;simp only [RelD,Rep];exact⟨_,rfl,b,0,xs,by rw [Nat.zero_add],h2,hfl,h3,fun i hi=>by rw [Nat.zero_add];exact h4 i hi⟩
   · cases hx
 | .ownx j o,s,x',h,hx=>by
  simp only [RelD]at h;obtain⟨rfl,h⟩:=h;simp only [fzO]at hx;cases hb:Nat.beq j k with
  |false=>rw [hb]at hx;cases hx;exact⟨_,by simp only [RelD];exact⟨trivial,hz.R _ _ (beqF hb) h⟩,den_drop (by simpa [ment]using hb),by simpa [ment]using hb⟩
  |true=>rw [hb]at hx;cases hx
 | .elr j z i o,s,x',h,hx=>by
  simp only [RelD]at h;obtain⟨rfl,h⟩:=h;simp only [fzO]at hx;cases hb:Nat.beq j k with
  |false=>rw [hb]at hx;cases hx;exact⟨_,by simp only [RelD];exact⟨trivial,hz.R _ _ (beqF hb) h⟩,den_drop (by simpa [ment]using hb),by simpa [ment]using hb⟩
  |true=>rw [hb]at hx;cases hx
 | .row j z,s,x',h,hx=>by
  simp only [RelD]at h;obtain⟨rfl,h⟩:=h;simp only [fzO]at hx;cases hb:Nat.beq j k with
  |false=>rw [hb]at hx;cases hx;exact⟨_,by simp only [RelD];exact⟨trivial,hz.R _ _ (beqF hb) h⟩,den_drop (by simpa [ment]using hb),by simpa [ment]using hb⟩
  |true=>
   have:=beqT hb;subst this;rw [hb]at hx;simp only at hx;split at hx
   · cases hx;exact⟨.v (rowVal H j),by simp only [RelD];exact⟨_,rfl,hz.row _ _ _ _ rfl⟩,rfl,rfl⟩
   · cases hx
 | .osl j o z n c,s,x',h,hx=>by
  simp only [RelD]at h;obtain⟨rfl,h⟩:=h;simp only [fzO]at hx;cases hb:Nat.beq j k with
  |false=>rw [hb]at hx;cases hx;exact⟨_,by simp only [RelD];exact⟨trivial,hz.R _ _ (beqF hb) h⟩,den_drop (by simpa [ment]using hb),by simpa [ment]using hb⟩
  |true=>
   have:=beqT hb;subst this;rw [hb]at hx;simp only at hx;split at hx
   · split at hx
     · rename_i l hl hnc hnm;cases hx;obtain⟨hfl,hrv,b,xs,h1,h2,h3,h4⟩:=hz.blk _ _ rfl;obtain⟨g1,g2,g3⟩:=h3.part hl;refine⟨.v (.slice (some ⟨b,o,none⟩) n c), ?_,by simp [den,h1,hrv,capOf,undef],rfl⟩;simp only [RelD,Rep];have hll:=(takeD_eq hl).2.1;rw [dropD_eq]at hll;refine⟨_,rfl,_,c,rfl,Nat.le_of_ble_eq_true hnc,by have:=Nat.le_of_ble_eq_true hnm;omega,g2,flatD_sub hfl fun d hd=>List.mem_of_mem_drop (List.mem_of_mem_take (hll▸hd)), .inr ⟨b,o,_,rfl,h2,g1,fun i hi=> ?_⟩⟩;rw [h4 (o+i) (by omega),List.getElem?_take,if_pos hi,List.getElem?_drop]
     · cases hx
   · cases hx
 | .agg l,s,x',h,hx=>by
  simp only [RelD]at h;obtain⟨cs,h1,h2,h3⟩:=h;simp only [fzO]at hx;split at hx
  · rename_i l' hl;cases hx;obtain⟨cs',g1,g2,g3⟩:=fz_relL hz l cs l' h2 hl;refine⟨.agg cs',by simp only [RelD];exact⟨cs',rfl,g1,fzL_flat hl h3⟩, ?_,by simpa [ment]using g3⟩
    cases s<;>simp [aggL]at h1
    · rename_i y;cases y<;>simp at h1;subst h1;rw [denL_vs]at g2;simp [den,g2]
    · subst h1;simp [den,g2]
  · cases hx
 | .tup l,s,x',h,hx=>by
  simp only [RelD]at h;simp only [fzO]at hx;split at hx
  · rename_i l' hl;cases hx;rcases h with⟨cs,rfl,h2⟩|⟨a,rfl,h2⟩
    · obtain⟨cs',g1,g2,g3⟩:=fz_relL hz l cs l' h2 hl;exact⟨.tup cs',by simp only [RelD];exact .inl ⟨cs',rfl,g1⟩,by simp [den,g2],by simpa [ment]using g3⟩
    · obtain⟨cs',g1,g2,g3⟩:=fz_relL hz l _ l' h2 hl;rw [denL_vs]at g2;exact⟨.tup cs',by simp only [RelD];exact .inl ⟨cs',rfl,g1⟩,by simp [den,g2],by simpa [ment]using g3⟩
  · cases hx
 | .fn f a b,s,x',h,hx=>by
  simp only [RelD]at h;simp only [fzO]at hx;split at hx
  · rename_i a' b' ha hb;cases hx;rcases h with⟨p,q,rfl,h2,h3⟩|⟨p,q,rfl,h2,h3⟩
    · obtain⟨p',g1,g2,g3⟩:=fz_relL hz a p a' h2 ha;obtain⟨q',g4,g5,g6⟩:=fz_relL hz b q b' h3 hb;exact⟨.fn f p' q',by simp only [RelD];exact .inl ⟨p',q',rfl,g1,g4⟩,by simp [den,g2,g5],by simp only [ment,g3,g6]⟩
    · obtain⟨p',g1,g2,g3⟩:=fz_relL hz a _ a' h2 ha;obtain⟨q',g4,g5,g6⟩:=fz_relL hz b _ b' h3 hb;rw [denL_vs]at g2 g5;exact⟨.fn f p' q',by simp only [RelD];exact .inl ⟨p',q',rfl,g1,g4⟩,by simp [den,g2,g5],by simp only [ment,g3,g6]⟩
  · cases hx
 | .mp l,s,x',h,hx=>by
  simp only [fzO]at hx;cases hx;simp only [RelD]at h⊢;obtain⟨y,rfl,h⟩:=h;exact⟨.v y,⟨y,rfl,Rep.mono (fun b hb=>⟨hz.ok b hb,rfl⟩) _ _ h⟩,rfl,rfl⟩
 | .und,s,x',h,hx=>by
  simp only [fzO]at hx;cases hx;simp only [RelD]at h;subst h;exact⟨.v undef,by simp only [RelD],rfl,rfl⟩
 | .bad,_,_,_,hx=>by simp [fzO]at hx
theorem fz_relL (hz:FzAt ok ok' R R' H w k e):∀(l:List D) (r:List SV) (l':List D),RelDL ok w R l r→fzL k e l=some l'→∃r',RelDL ok' w R' l' r'∧denL (dropE k H) r'=denL H r∧mentL k r'=false
 | [], [],l',_,hx=>by simp only [fzL]at hx;cases hx;exact⟨[],trivial,rfl,rfl⟩
 |d::l,y::r,l',h,hx=>by
  simp only [RelDL]at h;simp only [fzL]at hx;split at hx
  · rename_i d' l'' hd hl;cases hx;obtain⟨s',g1,g2,g3⟩:=fz_rel hz d y d' h.1 hd;obtain⟨r',g4,g5,g6⟩:=fz_relL hz l r l'' h.2 hl;exact⟨s'::r',⟨g1,g4⟩,by simp [denL,g2,g5],by simp only [mentL,g3,g6]⟩
  · cases hx
 | [],_::_,_,h,_=>by simp [RelDL]at h
 |_::_, [],_,h,_=>by simp [RelDL]at h
end
theorem fzC_rel (hz:FzAt ok ok' R R' H w k e):∀(l:List D) (r:List SV),RelDL ok w R l r→∃r',RelDL ok' w R' (fzC k e l) r'∧mentL k r'=false∧∀xs,cellsR H r xs→cellsR (dropE k H) r' xs
 | [], [],_=>⟨[],trivial,rfl,fun xs h=>by cases xs with
  |nil=>trivial
  |cons=>simp [cellsR]at h⟩
 |d::l,y::r,h=>by
  simp only [RelDL]at h;obtain⟨r',g4,g5,g6⟩:=fzC_rel hz l r h.2;simp only [fzC,fzG];cases hd:fzO k e d with
  |none=>exact⟨.bad::r',⟨by simp only [RelD],g4⟩,by simp only [mentL,ment,g5],fun xs hc=>by
   cases xs with
   |nil=>simp [cellsR]at hc
   |cons x xs=>simp only [cellsR]at hc;exact⟨.inl rfl,g6 xs hc.2⟩⟩
  |some d'=>
   obtain⟨s',g1,g2,g3⟩:=fz_rel hz d y d' h.1 hd;have hne:d≠ .bad:=fun e=>by subst e;simp [fzO]at hd
   have hy:=h.1.ne hne;refine⟨s'::r',⟨g1,g4⟩,by simp only [mentL,g3,g5],fun xs hc=> ?_⟩;cases xs with
   |nil=>simp [cellsR]at hc
   |cons x xs=>
    simp only [cellsR]at hc;refine⟨?_,g6 xs hc.2⟩;rcases hc.1 with h|h
    · exact absurd h hy
    · exact .inr (by rw [g2];exact h)
 | [],_::_,h=>by simp [RelDL]at h
 |_::_, [],h=>by simp [RelDL]at h
theorem lookY_fz {T:List (Nat×D)} {d:Nat} {x:D} (h:lookY (fzT k e T) d=some x):∃y,lookY T d=some y∧x=fzG k e y:=by
 induction T with
 |nil=>simp [lookY,fzT]at h
 |cons q T ih=>
  obtain⟨d',s'⟩:=q;simp only [lookY,fzT]at h⊢;cases hb:Nat.beq d' d with
  |true=>rw [hb]at h;cases h;exact⟨_,rfl,rfl⟩
  |false=>rw [hb]at h;exact ih h
theorem findY_fz {Hd:Hy} {j:Nat} {x:E} (h:findY (fzH k e Hd) j=some x):j≠k∧∃y,findY Hd j=some y∧x=fzE k e y:=by
 induction Hd with
 |nil=>simp [findY,fzH]at h
 |cons q Hd ih=>
  obtain⟨i,s'⟩:=q;simp only [fzH]at h;simp only [findY];cases hb:Nat.beq i k with
  |true=>
   rw [hb]at h;obtain⟨h1,y,h2,h3⟩:=ih h;have:=beqT hb;subst this;rw [beqN (Ne.symm h1)];exact⟨h1,y,h2,h3⟩
  |false=>
   rw [hb]at h;simp only [findY]at h;cases hb2:Nat.beq i j with
   |true=>rw [hb2]at h;cases h;exact⟨by have:=beqT hb2;subst this;exact beqF hb,_,rfl,rfl⟩
   |false=>rw [hb2]at h;exact ih h
end
mutual
theorem clean_rep {ok:Nat→Prop} {w:World} {R:Bool→Nat→Prop} {H:Hp}:∀(x:D) (s:SV),RelD ok w R x s→clean x=true→Rep ok w x (den H s)
 | .v x,s,h,_=>by simp only [RelD]at h;rw [h.1];simp only [Rep,den];exact⟨trivial,h.2⟩
 | .lst z n l,s,h,_=>by simp only [RelD]at h;obtain⟨y,rfl,h⟩:=h;exact h
 | .ptr l o,s,h,_=>by simp only [RelD]at h;obtain⟨y,rfl,h⟩:=h;exact h
 | .agg l,s,h,hc=>by
  simp only [RelD]at h;obtain⟨cs,h1,h2,h3⟩:=h;simp only [clean]at hc;split at hc
  · rename_i hcl;have:=clean_repL (H:=H) l cs h2 hcl;simp only [Rep];cases s<;>simp [aggL]at h1
    · rename_i y;cases y<;>simp at h1;subst h1;rw [denL_vs]at this;exact⟨_,rfl,this,h3⟩
    · subst h1;exact⟨_,rfl,by simpa using this,h3⟩
  · cases hc
 | .tup l,s,h,hc=>by
  simp only [RelD]at h;simp only [clean]at hc;simp only [Rep];rcases h with⟨cs,rfl,h⟩|⟨a,rfl,h⟩
  · exact⟨_,rfl,by simpa using clean_repL (H:=H) l cs h hc⟩
  · have:=clean_repL (H:=H) l _ h hc;rw [denL_vs]at this;exact⟨_,rfl,this⟩
 | .mp l,s,h,hc=>by
  simp only [RelD]at h;obtain⟨y,rfl,h⟩:=h;exact h
 | .fn f a b,s,h,hc=>by
  simp only [RelD]at h;simp only [clean]at hc;split at hc
  · rename_i ha;simp only [Rep];rcases h with⟨p,q,rfl,h2,h3⟩|⟨p,q,rfl,h2,h3⟩
    · exact⟨_,_,rfl,by simpa using clean_repL (H:=H) a p h2 ha,by simpa using clean_repL (H:=H) b q h3 hc⟩
    · have g1:=clean_repL (H:=H) a _ h2 ha;have g2:=clean_repL (H:=H) b _ h3 hc;rw [denL_vs]at g1 g2;exact⟨_,_,rfl,g1,g2⟩
  · cases hc
 | .own _ _,_,_,h=>by simp [clean]at h
 | .ownx _ _,_,_,h=>by simp [clean]at h
 | .row _ _,_,_,h=>by simp [clean]at h
 | .elr _ _ _ _,_,_,h=>by simp [clean]at h
 | .osl _ _ _ _ _,_,_,h=>by simp [clean]at h
 | .und,_,_,h=>by simp [clean]at h
 | .bad,_,_,h=>by simp [clean]at h
theorem clean_repL {ok:Nat→Prop} {w:World} {R:Bool→Nat→Prop} {H:Hp}:∀(l:List D) (r:List SV),RelDL ok w R l r→cleanL l=true→RepL ok w l (denL H r)
 | [], [],_,_=>trivial
 |d::l,y::r,h,hc=>by
  simp only [RelDL]at h;simp only [cleanL]at hc;split at hc
  · rename_i hd;exact⟨clean_rep d y h.1 hd,clean_repL l r h.2 hc⟩
  · cases hc
 | [],_::_,h,_=>by simp [RelDL]at h
 |_::_, [],h,_=>by simp [RelDL]at h
end
theorem clean_noBad {ok:Nat→Prop} {w:World} {R:Bool→Nat→Prop}:∀(l:List D) (r:List SV),RelDL ok w R l r→cleanL l=true→ .bad∉r
 | [], [],_,_=>by simp
 |d::l,y::r,h,hc=>by
  simp only [RelDL]at h;simp only [cleanL]at hc;split at hc
  · rename_i hd;have h2:=clean_noBad l r h.2 hc;intro hm;rcases List.mem_cons.1 hm with e|hm
    · subst e;cases d<;>simp_all [RelD,clean,aggL]
    · exact h2 hm
  · cases hc
 | [],_::_,h,_=>by simp [RelDL]at h
 |_::_, [],h,_=>by simp [RelDL]at h
section
variable {A : Nat → Prop} {Xx : Cx} {w : World} {st : St} {sy : Sy}
def Over (st st':St):Prop:=∀d s,look st'.T d=some s→s= .bad∨∃s0,look st.T d=some s0∧s0≠ .bad∧den st'.H s=den st.H s0
theorem choose_of {α:Type} {p:α→Prop} (d:α):∃x,(p x∨¬(∃y,p y)∧x=d):=by
 by_cases h:∃y,p y
 · obtain⟨y,hy⟩:=h;exact⟨y, .inl hy⟩
 · exact⟨d, .inr ⟨h,rfl⟩⟩
theorem look_mapT {g:Nat→SV→SV} {T:List (Nat×SV)} {d:Nat}:look (T.map fun p=>(p.1,g p.1 p.2)) d=(look T d).map (g d):=by
 induction T with
 |nil=>rfl
 |cons x T ih=>
  obtain⟨i,s⟩:=x;simp only [List.map_cons,look];cases hb:Nat.beq i d with
  |true=>have:=beqT hb;subst this;rfl
  |false=>exact ih
theorem freshT_mapT {g:Nat→SV→SV} {T:List (Nat×SV)} {j:Nat} (h:∀d s,ment j (g d s)=false):freshT j (T.map fun p=>(p.1,g p.1 p.2))=true:=by
 induction T with
 |nil=>rfl
 |cons x T ih=>simp only [List.map_cons,freshT,h];exact ih
theorem freshH_mapC {g:Nat→List SV→List SV} {H:Hp} {j:Nat} (h:∀i cs,mentL j (g i cs)=false):freshH j (mapC g H)=true:=by
 induction H with
 |nil=>rfl
 |cons x H ih=>
  obtain⟨i,e⟩:=x;cases e with
  |blk b cs ty=>simp only [mapC,freshH,h];exact ih
  |row v n xs sz ty=>simp only [mapC,freshH];exact ih
  |mp b es ty=>simp only [mapC,freshH];exact ih
theorem cellsR_bad {H:Hp}:∀(xs:List Value),cellsR H (xs.map fun _=>SV.bad) xs
 | []=>trivial
 |x::xs=>⟨.inl rfl,cellsR_bad xs⟩
theorem mentL_bad {α:Type} (k:Nat) (l:List α):mentL k (l.map fun _=>SV.bad)=false:=by
 induction l with
 |nil=>rfl
 |cons x l ih=>simp only [List.map_cons,mentL,ment];exact ih
def KSub (H' H:Hp):Prop:=∀j e,(j,e)∈H'→∃e0,(j,e0)∈H∧∀b,b∈bsE e→b∈bsE e0
theorem KSub.bs {H' H:Hp} (h:KSub H' H) (b:Nat) (hb:b∈bs H'):b∈Sx.bs H:=by
 obtain⟨j,e,h1,h2⟩:=bs_mem.1 hb;obtain⟨e0,h3,h4⟩:=h j e h1;exact bs_mem.2 ⟨j,e0,h3,h4 b h2⟩
theorem KSub.refl (H:Hp):KSub H H:=fun _ e h=>⟨e,h,fun _ h=>h⟩
theorem KSub.trans {A B C:Hp} (h:KSub A B) (k:KSub B C):KSub A C:=fun j e hm=>by
 obtain⟨e1,h1,h2⟩:=h j e hm;obtain⟨e2,h3,h4⟩:=k j e1 h1;exact⟨e2,h3,fun b hb=>h4 b (h2 b hb)⟩
theorem freeze1 (hA:∀b,(Xx.w0.heap.size≤b∨b∈Xx.bor)→A b) (hc:Cls Xx st.H st.nk w w) (hat:At st w) (hs:Sim A st sy) {k:Nat} {e:E} (hf:findY sy.H k=some e) (hok:okE e=true):
 ∃st',Cls Xx st'.H st'.nk w w∧At st' w∧Sim A st' ⟨fzT k e sy.T,fzH k e sy.H,sy.nk⟩∧KSub st'.H st.H∧st'.nk=st.nk∧Over st st'∧
  ∀l r l',RelDL (okS A st) w (keyS st) l r→fzL k e l=some l'→∃r',RelDL (okS A st') w (keyS st') l' r'∧denL st'.H r'=denL st.H r:=by
 obtain⟨T,H,nk,ws,lo,iv⟩:=st;obtain⟨h1,h2,h3⟩:=hat;simp only at h1 h2 h3 hc;subst h1 h2 h3;obtain⟨e',hf',hr⟩:=hs.H k e hf;simp only at hf';have hmem:=findE_mem hf'
 have hkb:∀b,b∈bsE e'→b∉bs (dropE k H):=by
  intro b hb hb2;obtain⟨j,x,hj,hbx⟩:=bs_mem.1 hb2;obtain⟨hj1,hj2⟩:=mem_drop hj;exact bs_apart hc.nd hc.keys hmem hj1 (Ne.symm hj2) hb hbx
 have hsubl:=bs_sub (drop_sub (k:=k) H)
 --what is allowed now
 let ok':Nat→Prop:=fun b=>(b<ws.heap.size∧neAll (dropE k H) b)∧A b
 let R':Bool→Nat→Prop:=fun q j=>j<nk∧(q=true→∃e,findE (dropE k H) j=some e∧isR e=true)
 have hz:FzAt (okS A ⟨T,H,nk,ws,ws.heap.size, []⟩) ok' (keyS ⟨T,H,nk,ws,ws.heap.size, []⟩) R' H ws k e:=by
  have hok1:∀b,okS A ⟨T,H,nk,ws,ws.heap.size, []⟩ b→ok' b:=fun b h=>⟨⟨h.2.1,fun c hcb=>h.2.2 c (hsubl.subset hcb)⟩,h.1.2⟩
  have hkok:∀b,b∈bsE e'→ok' b:=fun b hb=>⟨⟨entAt_lt (hc.own k e' hmem) hb,fun c hcb e=>hkb b hb (e▸hcb)⟩,hA b (by
   rcases hc.lb b (bs_mem.2 ⟨k,e',hmem,hb⟩)with h|h
   · exact .inr h
   · exact .inl h)⟩
  refine⟨hok1,fun q j hj hq=>⟨hq.1,fun h=> ?_⟩,fun cs ty he=> ?_,fun z n l ty he=> ?_⟩
  · rw [findE_drop hj];exact hq.2 h
  · subst he;cases e' with
    |row=>exact hr.elim
    |mp=>exact hr.elim
    |blk b cs' ty'=>
     simp only [okE]at hok;split at hok
     · rename_i hno;have hrep:=clean_repL (H:=H) _ _ hr.2 hno;obtain⟨ys,hy,hh⟩:=hc.blk hf';have hys:=cellsR_eq hy (clean_noBad _ _ hr.2 hno);rw [←hys]at hrep;refine⟨hok,by simp [rowVal,hf'],b,ys,bOf_blk hf',hkok b (by simp [bsE]),RepL.mono (fun b hb=>⟨hok1 b hb,rfl⟩) _ _ hrep,fun j hj=> ?_⟩;rw [cell_arr hh];simp
     · cases hok
  · subst he;cases e' with
    |blk=>exact hr.elim
    |mp=>exact hr.elim
    |row v n' xs z' ty'=>
     obtain⟨rfl,rfl,rfl,hrep,hfl,hlen⟩:=hr;have hown:=hc.row hf';have hrv:rowVal H k=v:=by simp [rowVal,hf']
     rw [hrv];simp only [Rep];rcases hown.2 with⟨rfl,rfl⟩|⟨g,cap,cur,rfl,hb,hg,hnc,hcm,_⟩
     · exact⟨none,0,rfl,Nat.le_refl _,by simp,hlen,hfl, .inl rfl⟩
     · refine⟨_,cap,rfl,hnc,by simp only [maxLen]at hcm;omega,hlen,hfl, .inr ⟨g,0,xs,rfl,hkok g (by simp [bsE,ownB]),RepL.mono (fun b hb=>⟨hok1 b hb,rfl⟩) _ _ hrep,fun j hj=> ?_⟩⟩;have hxl:=hrep.length;have hlt:j<xs.length:=by omega
       have:=hown.cells (g:=g) rfl j (xs[j]) (by simp [hlt]);rw [add_off]at this;rw [this];simp [hlt]
 --the slots
 have hg:∀d s,∃s',((∃x x',lookY sy.T d=some x∧fzO k e x=some x'∧RelD ok' ws R' x' s'∧den (dropE k H) s'=den H s∧s≠ .bad∧ment k s'=false)∨
  ¬(∃s',∃x x',lookY sy.T d=some x∧fzO k e x=some x'∧RelD ok' ws R' x' s'∧den (dropE k H) s'=den H s∧s≠ .bad∧ment k s'=false)∧s'=SV.bad):=fun d s=>choose_of (SV.bad)
 let g:Nat→SV→SV:=fun d s=>(hg d s).choose
 have hgs:∀d s,_:=fun d s=>(hg d s).choose_spec
 --the cells
 have hq:∀j cs,∃cs',((∃dcs ty,findY sy.H j=some (.blk dcs ty)∧RelDL ok' ws R' (fzC k e dcs) cs'∧mentL k cs'=false∧∀xs,cellsR H cs xs→cellsR (dropE k H) cs' xs)∨
  ¬(∃cs',∃dcs ty,findY sy.H j=some (.blk dcs ty)∧RelDL ok' ws R' (fzC k e dcs) cs'∧mentL k cs'=false∧∀xs,cellsR H cs xs→cellsR (dropE k H) cs' xs)∧cs'=cs.map fun _=>SV.bad):=fun j cs=>choose_of _
 let q:Nat→List SV→List SV:=fun j cs=>(hq j cs).choose
 have hqs:∀j cs,_:=fun j cs=>(hq j cs).choose_spec
 have hR'lt:∀ {p j},R' p j→j<nk:=fun h=>h.1
 have hgm:∀j,nk≤j→∀d s,ment j (g d s)=false:=by
  intro j hj d s;rcases hgs d s with⟨x,x',_,_,h3,_⟩|⟨_,h⟩
  · exact h3.ment (fun p hp=>by have:=hR'lt hp;omega)
  · show ment j (hg d s).choose=false;rw [h];rfl
 have hqm:∀j,nk≤j→∀i cs,mentL j (q i cs)=false:=by
  intro j hj i cs;rcases hqs i cs with⟨dcs,ty,_,h3,_⟩|⟨_,h⟩
  · exact h3.ment (fun p hp=>by have:=hR'lt hp;omega)
  · show mentL j (hq i cs).choose=false;rw [h];exact mentL_bad _ _
 have hden:∀s,den (mapC q (dropE k H)) s=den (dropE k H) s:=fun s=>den_same (fun j=>bOf_map j) s
 have hcell:∀l xs,cellsR (dropE k H) l xs→cellsR (mapC q (dropE k H)) l xs:=fun l xs h=>cellsR_mono h fun s _ _=>hden s
 have hksub:KSub (mapC q (dropE k H)) H:=fun j x hm=>by
  rcases mem_map hm with⟨b,cs,ty,h1,rfl⟩|⟨h1,_⟩
  · exact⟨_,(mem_drop h1).1,fun _ h=>h⟩
  · exact⟨_,(mem_drop h1).1,fun _ h=>h⟩
 have hbs:∀b,b∈bs (mapC q (dropE k H))→b∈bs H:=hksub.bs
 have hks:∀b,okS A ⟨T.map fun p=>(p.1,g p.1 p.2),mapC q (dropE k H),nk,ws,ws.heap.size, []⟩ b↔ok' b:=by
  intro b;constructor
  · intro h;exact⟨⟨h.2.1,fun c hcb=>h.2.2 c (by rw [bs_map];exact hcb)⟩,h.1.2⟩
  · intro h;exact⟨⟨.inl h.1.1,h.2⟩,h.1.1,fun c hcb=>h.1.2 c (by simp only [bs_map]at hcb;exact hcb)⟩
 have hkk:∀p j,R' p j→keyS ⟨T.map fun p=>(p.1,g p.1 p.2),mapC q (dropE k H),nk,ws,ws.heap.size, []⟩ p j:=by
  intro p j h;refine⟨h.1,fun hp=> ?_⟩;obtain⟨e1,h2,h3⟩:=h.2 hp;simp only;rw [findE_map,h2];exact⟨_,rfl,by cases e1<;>first|exact h3|rfl⟩
 have up:∀x s,RelD ok' ws R' x s→RelD (okS A ⟨T.map fun p=>(p.1,g p.1 p.2),mapC q (dropE k H),nk,ws,ws.heap.size, []⟩) ws (keyS ⟨T.map fun p=>(p.1,g p.1 p.2),mapC q (dropE k H),nk,ws,ws.heap.size, []⟩) x s:=
  fun x s h=>RelD.mono (fun b hb=>⟨(hks b).2 hb,rfl⟩) hkk _ _ h
 have upL:∀x s,RelDL ok' ws R' x s→RelDL (okS A ⟨T.map fun p=>(p.1,g p.1 p.2),mapC q (dropE k H),nk,ws,ws.heap.size, []⟩) ws (keyS ⟨T.map fun p=>(p.1,g p.1 p.2),mapC q (dropE k H),nk,ws,ws.heap.size, []⟩) x s:=
  fun x s h=>RelDL.mono (fun b hb=>⟨(hks b).2 hb,rfl⟩) hkk _ _ h
 refine⟨⟨T.map fun p=>(p.1,g p.1 p.2),mapC q (dropE k H),nk,ws,ws.heap.size, []⟩, ?_,⟨rfl,rfl,rfl⟩, ?_,hksub,rfl, ?_, ?_⟩
 · refine⟨Fx.refl _ _,hc.fx0,fun j x hm=> ?_,by simp only [bs_map];exact hsubl.nodup hc.nd,fun b hb=>hc.lb b (hbs b hb),by simp only [keys_map];exact((drop_sub H).map _).nodup hc.keys,fun j x hm=> ?_⟩
   · rcases mem_map hm with⟨b,cs,ty,h1,rfl⟩|⟨h1,hx⟩
     · obtain⟨h2,h3⟩:=mem_drop h1;obtain⟨xs,h4,h5⟩:=hc.own j _ h2;refine⟨xs,hcell _ _ ?_,h5⟩;rcases hqs j cs with⟨dcs,ty',_,_,_,h6⟩|⟨_,h6⟩
       · exact h6 xs h4
       · show cellsR _ (hq j cs).choose xs;rw [h6];have hl:=cellsR_length h4
         have:(cs.map fun _=>SV.bad)=(xs.map fun _=>SV.bad):=by
          simp only [List.map_const',hl]
         rw [this];exact cellsR_bad xs
     · have:=hc.own j _ (mem_drop h1).1;cases x with
       |blk=>cases hx
       |row=>exact this
       |mp=>exact this
   · rcases mem_map hm with⟨b,cs,ty,h1,rfl⟩|⟨h1,_⟩
     · exact hc.lt j _ (mem_drop h1).1
     · exact hc.lt j _ (mem_drop h1).1
 · refine⟨fun d x hx=> ?_,fun j x hx=> ?_,hs.nk,fun j hj=>freshT_mapT (hgm j hj),fun j hj=>freshH_mapC (hqm j hj)⟩
   · obtain⟨y,hy,rfl⟩:=lookY_fz hx;unfold fzG;cases hfz:fzO k e y with
     |none=>exact .inl rfl
     |some x'=>
      right;have hyne:y≠ .bad:=fun e=>by subst e;simp [fzO]at hfz
      rcases hs.T d y hy with h|⟨s,h1,h2⟩
      · exact absurd h hyne
      · simp only at h1 h2;refine⟨g d s,by simp only [look_mapT,h1];rfl,up _ _ ?_⟩;rcases hgs d s with⟨y2,x2,h3,h4,h5,_⟩|⟨h3,_⟩
        · rw [hy]at h3;cases h3;rw [hfz]at h4;cases h4;exact h5
        · exfalso;obtain⟨s',g1,g2,g3⟩:=fz_rel hz y s x' h2 hfz;exact h3 ⟨s',y,x',hy,hfz,g1,g2,h2.ne hyne,g3⟩
   · obtain⟨hjk,y,hy,rfl⟩:=findY_fz hx;obtain⟨e1,h1,h2⟩:=hs.H j y hy;simp only at h1 h2;simp only;rw [findE_map,findE_drop hjk,h1];cases y with
     |blk dcs ty=>
      cases e1 with
      |row=>exact h2.elim
      |mp=>exact h2.elim
      |blk b cs ty'=>
       obtain⟨rfl,h2⟩:=h2;refine⟨_,rfl, ?_⟩;simp only [fzE,RelE];refine⟨trivial,upL _ _ ?_⟩;rcases hqs j cs with⟨dcs',ty',h3,h4,_⟩|⟨h3,_⟩
       · rw [hy]at h3;cases h3;exact h4
       · exfalso;obtain⟨r',g1,g2,g3⟩:=fzC_rel hz dcs cs h2;exact h3 ⟨r',dcs,ty,hy,g1,g2,g3⟩
     |row z n l ty=>
      cases e1 with
      |blk=>exact h2.elim
      |mp=>exact h2.elim
      |row v n' xs z' ty'=>
       refine⟨_,rfl, ?_⟩;simp only [RelE]at h2;simp only [fzE,RelE];exact⟨h2.1,h2.2.1,h2.2.2.1,RepL.mono (fun b hb=>⟨(hks b).2 (hz.ok b hb),rfl⟩) _ _ h2.2.2.2.1,h2.2.2.2.2⟩
     |mp es ty=>
      cases e1 with
      |blk=>exact h2.elim
      |row=>exact h2.elim
      |mp b es' ty'=>exact⟨_,rfl,h2⟩
 · intro d s hd;simp only [look_mapT]at hd;cases hl:look T d with
   |none=>rw [hl]at hd;cases hd
   |some s0=>
    rw [hl]at hd;simp only [Option.map_some,Option.some.injEq]at hd;rcases hgs d s0 with⟨x,x',h3,h4,h5,h6,h7,_⟩|⟨_,h3⟩
    · right;refine⟨s0,rfl,h7, ?_⟩;simp only;rw [hden,←hd];exact h6
    · left;rw [←hd];exact h3
 · intro l r l' hl hfl;obtain⟨r',g1,g2,_⟩:=fz_relL hz l r l' hl hfl;refine⟨r',upL _ _ g1, ?_⟩;simp only;rw [←g2,denL_map,denL_map];exact List.map_congr_left fun s _=>hden s
end
mutual
theorem scal_rep {ok ok':Nat→Prop} {w w':World}:∀(x:D) (y:Value),Rep ok w x y→scal x=true→Rep ok' w' x y
 | .v x,y,h,_=>h
 | .agg l,y,h,hc=>by
  simp only [Rep]at h⊢;obtain⟨a,h1,h2,h3⟩:=h;exact⟨a,h1,scal_repL l _ h2 (by simpa [scal]using hc),h3⟩
 | .tup l,y,h,hc=>by
  simp only [Rep]at h⊢;obtain⟨a,h1,h2⟩:=h;exact⟨a,h1,scal_repL l _ h2 (by simpa [scal]using hc)⟩
 | .lst _ _ _,_,_,h=>by simp [scal]at h
 | .ptr _ _,_,_,h=>by simp [scal]at h
 | .mp _,_,_,h=>by simp [scal]at h
 | .fn _ _ _,_,_,h=>by simp [scal]at h
 | .own _ _,_,_,h=>by simp [scal]at h
 | .ownx _ _,_,_,h=>by simp [scal]at h
 | .row _ _,_,_,h=>by simp [scal]at h
 | .elr _ _ _ _,_,_,h=>by simp [scal]at h
 | .osl _ _ _ _ _,_,_,h=>by simp [scal]at h
 | .und,_,_,h=>by simp [scal]at h
 | .bad,_,_,h=>by simp [scal]at h
theorem scal_repL {ok ok':Nat→Prop} {w w':World}:∀(l:List D) (r:List Value),RepL ok w l r→scalL l=true→RepL ok' w' l r
 | [], [],_,_=>trivial
 |d::l,y::r,h,hc=>by
  simp only [RepL]at h;simp only [scalL]at hc;split at hc
  · rename_i hd;exact⟨scal_rep d y h.1 hd,scal_repL l r h.2 hc⟩
  · cases hc
 | [],_::_,h,_=>by simp [RepL]at h
 |_::_, [],h,_=>by simp [RepL]at h
end
section
variable {A : Nat → Prop} {Xx : Cx} {X : Cy} {w0 : World} {bor : List Nat} {st : St} {sy : Sy} {a : Act} {w : World}
theorem over_trans {s1 s2 s3:St} (h:Over s1 s2) (h':Over s2 s3):Over s1 s3:=by
 intro d s hd;rcases h' d s hd with e|⟨t,h1,h2,h3⟩
 · exact .inl e
 · rcases h d t h1 with e|⟨u,h4,h5,h6⟩
   · exact absurd e h2
   · exact .inr ⟨u,h4,h5,by rw [h3,h6]⟩
theorem fzAll_ok (hA:∀b,(Xx.w0.heap.size≤b∨b∈Xx.bor)→A b):∀(ks:List Nat) {st:St} {sy sy':Sy} {l l':List D} {r:List SV},Cls Xx st.H st.nk w w→At st w→Sim A st sy→RelDL (okS A st) w (keyS st) l r→fzAll ks sy l=some (sy',l')→
 ∃st' r',Cls Xx st'.H st'.nk w w∧At st' w∧Sim A st' sy'∧KSub st'.H st.H∧Over st st'∧RelDL (okS A st') w (keyS st') l' r'∧denL st'.H r'=denL st.H r
 | [],st,sy,sy',l,l',r,hc,hat,hs,hl,h=>by
  simp only [fzAll]at h;cases h
  exact⟨st,r,hc,hat,hs,KSub.refl _,fun d s h=>by
   by_cases hb:s= .bad
   · exact .inl hb
   · exact .inr ⟨s,h,hb,rfl⟩,hl,rfl⟩
 |k::ks,st,sy,sy',l,l',r,hc,hat,hs,hl,h=>by
  obtain⟨T,H,nk⟩:=sy;simp only [fzAll]at h;split at h
  · rename_i e he;split at h
    · rename_i l1 hok hfl;simp only [fzTs_eq,fzHs_eq]at h;obtain⟨st1,c1,a1,s1,b1,n1,o1,f1⟩:=freeze1 hA hc hat hs he hok;obtain⟨r1,g1,g2⟩:=f1 l r l1 hl hfl;obtain⟨st2,r2,c2,a2,s2,b2,o2,g3,g4⟩:=fzAll_ok hA ks c1 a1 s1 g1 h;exact⟨st2,r2,c2,a2,s2,b2.trans b1,over_trans o1 o2,g3,by rw [g4,g2]⟩
    · cases h
  · cases h
def now (st:St) (w:World):St:=⟨st.T,st.H,st.nk,w,w.heap.size, []⟩
theorem Rel.now (hr:Rel Xx st a w):Rel Xx (now st w) a w:=by
 refine⟨hr.size,hr.T,hr.dfs, ?_,Nat.le_refl _,by simp [Sx.now]⟩;have hc:=hr.cls;exact⟨Fx.refl _ _,hc.fx0,hc.own,hc.nd,hc.lb,hc.keys,hc.lt⟩
theorem ok_now (hc:Cls Xx st.H st.nk st.w w):∀b,okS A st b→okS A (now st w) b∧w.heap[b]?=st.w.heap[b]?:=fun b hb=>
 ⟨⟨⟨.inl (Nat.lt_of_lt_of_le hb.2.1 hc.fx.size),hb.1.2⟩,Nat.lt_of_lt_of_le hb.2.1 hc.fx.size,hb.2.2⟩,hc.fx.block b hb.2.1 hb.2.2⟩
theorem Sim.now (hs:Sim A st sy) (hc:Cls Xx st.H st.nk st.w w):Sim A (now st w) sy:=by
 obtain⟨T,H,nk⟩:=sy;exact hs.mono (ok_now hc) (fun _ _ h=>h) (fun _ _ h=>h) (fun _ _ h=>h) rfl hs.fT hs.fH
theorem RelDL.now {l:List D} {r:List SV} (h:RelDL (okS A st) st.w (keyS st) l r) (hc:Cls Xx st.H st.nk st.w w):RelDL (okS A (now st w)) w (keyS (now st w)) l r:=RelDL.mono (ok_now hc) (fun _ _ h=>h) _ _ h
theorem Rel.past {w':World} (hr:Rel Xx st a w) (hb:Below w.heap.size w w'):Rel Xx (Sx.now st w') a w':=by
 have hc:=hr.cls;have hown:∀b,b∈bs st.H→w'.heap[b]?=w.heap[b]?:=fun b hbm=>hb.block b (hc.lt_size hbm)
 exact⟨hr.size,hr.T,hr.dfs,⟨Fx.refl _ _,hc.fx0.of_below hb,fun k e he=>entAt_keep (hc.own k e he) fun b hbe=>hown b (bs_mem.2 ⟨k,e,he,hbe⟩),hc.nd,hc.lb,hc.keys,hc.lt⟩,Nat.le_refl _,by simp [Sx.now]⟩
theorem ok_past {w':World} (hc:Cls Xx st.H st.nk st.w w) (hb:Below w.heap.size w w'):∀b,okS A st b→okS A (now st w') b∧w'.heap[b]?=st.w.heap[b]?:=fun b h=>
 ⟨⟨⟨.inl (Nat.lt_of_lt_of_le h.2.1 (Nat.le_trans hc.fx.size hb.size)),h.1.2⟩,Nat.lt_of_lt_of_le h.2.1 (Nat.le_trans hc.fx.size hb.size),h.2.2⟩,by
  rw [hb.block b (Nat.lt_of_lt_of_le h.2.1 hc.fx.size)];exact hc.fx.block b h.2.1 h.2.2⟩
theorem Sim.past {w':World} (hs:Sim A st sy) (hc:Cls Xx st.H st.nk st.w w) (hb:Below w.heap.size w w'):Sim A (Sx.now st w') sy:=by
 obtain⟨T,H,nk⟩:=sy;exact hs.mono (ok_past hc hb) (fun _ _ h=>h) (fun _ _ h=>h) (fun _ _ h=>h) rfl hs.fT hs.fH
def LvY (A:Nat→Prop) (Xx:Cx) (H:Hp) (w:World) (KY:Sy→Prop) (a':Act) (w':World):Prop:=∃st' sy',KY sy'∧Sim A st' sy'∧Lv Xx H w st' a' w'
theorem ownB_nodup (v:Value):(ownB v).Nodup:=by unfold ownB;split<;>simp
theorem bs_upd_ne {k b:Nat} {e e':Ent}:∀ {H:Hp},(bs H).Nodup→findE H k=some e→b∈bsE e→b∉bsE e'→b∉bs (updE H k e')
 | [],_,h,_,_=>by simp [findE]at h
 |(j,ej)::H,hn,h,hb,hb'=>by
  simp only [bs,List.nodup_append]at hn;simp only [findE]at h;simp only [updE];cases hj:Nat.beq j k with
  |true=>
   rw [hj]at h;cases h;simp only [bs,List.mem_append,not_or];exact⟨hb',fun hm=>hn.2.2 b hb b hm rfl⟩
  |false=>
   rw [hj]at h;simp only [bs,List.mem_append,not_or];exact⟨fun hm=>hn.2.2 b hm b (bs_mem.2 ⟨k,e,findE_mem h,hb⟩) rfl,bs_upd_ne hn.2.1 h hb hb'⟩
theorem lend_rel {k:Nat} {v v':Value} {n n' z z' ty ty':Nat} {xs xs':List Value} {w':World} (hr:Rel Xx st a w) (hat:At st w) (hf:findE st.H k=some (.row v n xs z ty)) (hfx:Fx (ownB v) w w') (hown:w'.ownsRow 0 ty' z' v' n' xs')
 (hb:∀b,b∈ownB v'→b∈ownB v∨w.heap.size≤b):Rel Xx ⟨hideT k st.T,updE (hideH k st.H) k (.row v' n' xs' z' ty'),st.nk,w',w'.heap.size, []⟩ a w':=by
 have hsplit:∃H1 H2,st.H=H1++(k, .row v n xs z ty)::H2∧(∀e',(k,e')∉H1):=by
  have:∀H:Hp,findE H k=some (.row v n xs z ty)→∃H1 H2,H=H1++(k, .row v n xs z ty)::H2∧(∀e',(k,e')∉H1):=by
   intro H
   induction H with
   |nil=>intro h;simp [findE]at h
   |cons x H ih=>
    obtain⟨j,e⟩:=x;intro h;simp only [findE]at h;cases hb:Nat.beq j k with
    |true=>rw [hb]at h;cases h;have:=beqT hb;subst this;exact⟨[],H,rfl,by simp⟩
    |false=>
     rw [hb]at h;obtain⟨H1,H2,rfl,h1⟩:=ih h;refine⟨(j,e)::H1,H2,rfl,fun e' hm=> ?_⟩;rcases List.mem_cons.1 hm with hm|hm
     · cases hm;exact beqF hb rfl
     · exact h1 e' hm
  exact this _ hf
 obtain⟨H1,H2,hH,hk1⟩:=hsplit
 have hupd:∀e,updE (hideH k st.H) k e=hideH k H1++(k,e)::hideH k H2:=by
  intro e;rw [hH];clear hH hf
  induction H1 with
  |nil=>simp [hideH,updE]
  |cons x H1 ih=>
   obtain⟨j,ej⟩:=x;have hj:j≠k:=fun e=>hk1 ej (by rw [e];exact List.mem_cons_self)
   simp only [List.cons_append,hideH,updE,beqN hj];rw [ih fun e' hm=>hk1 e' (List.mem_cons_of_mem _ hm)]
 have hc:=hr.cls;have hcw:Cls Xx st.H st.nk w w:=⟨Fx.refl _ _,hc.fx0,hc.own,hc.nd,hc.lb,hc.keys,hc.lt⟩;have hnin:∀i,i∉ownB v→∀b,b∈ownB v→b≠i:=fun i hi b hb e=>hi (e▸hb)
 obtain⟨hcls,hden⟩:=hcw.grow (v':=v') (n:=n') (sz:=z') (ty:=ty') (xs:=xs') hH hk1 hown (fun i hi hn=>hfx.block i hi (hnin i (by simpa [bsE]using hn))) hfx.size hfx.os hfx.tape hfx.output (by simpa [bsE]using hb)
  (fun b hb=>hc.lb b (bs_mem.2 ⟨k,_,findE_mem hf,hb⟩))
 refine⟨hr.size,fun d s hlk=> ?_,hr.dfs,by rw [hupd];exact hcls,Nat.le_refl _,by simp⟩;rcases look_hide hlk with h|⟨h,hm⟩
 · exact .inl h
 · rcases hr.T d s h with h|h
   · exact .inl h
   · right;rw [h];simp only;rw [hupd,hden s hm]
theorem findE_cut {k:Nat} {e:Ent}:∀ {H:Hp},findE H k=some e→∃H1 H2,H=H1++(k,e)::H2∧(∀e',(k,e')∉H1)∧∀e',updE H k e'=H1++(k,e')::H2
 | [],h=>by simp [findE]at h
 |(j,ej)::H,h=>by
  simp only [findE]at h;cases hb:Nat.beq j k with
  |true=>rw [hb]at h;cases h;have:=beqT hb;subst this;exact⟨[],H,rfl,by simp,fun e'=>by simp [updE]⟩
  |false=>
   rw [hb]at h;obtain⟨H1,H2,rfl,h1,h2⟩:=findE_cut h;refine⟨(j,ej)::H1,H2,rfl,fun e' hm=> ?_,fun e'=>by simp only [updE,hb,h2];rfl⟩;rcases List.mem_cons.1 hm with hm|hm
   · cases hm;exact beqF hb rfl
   · exact h1 e' hm
theorem mid_world {v:Value} {w w':World} (h:Fx (ownB v) w w') (hlt:∀b,b∈ownB v→b<w.heap.size):∃w1,Below w.heap.size w w1∧w'.heap.size=w1.heap.size∧(∀i,i∉ownB v→w'.heap[i]?=w1.heap[i]?)∧w'.os=w1.os∧w'.tape=w1.tape∧w'.output=w1.output:=by
 have hcases:ownB v= []∨∃g,ownB v= [g]:=by
  unfold ownB;split
  · exact .inr ⟨_,rfl⟩
  · exact .inl rfl
 rcases hcases with h0|⟨g,h0⟩
 · rw [h0]at h⊢;exact⟨w',⟨h.os,h.tape,h.output,h.size,fun i hi=>h.block i hi (by simp)⟩,rfl,fun _ _=>rfl,rfl,rfl,rfl⟩
 · rw [h0]at h hlt⊢;have hg:=hlt g (by simp);refine⟨{ w' with heap:=w'.heap.setIfInBounds g (w.heap[g]'hg)},⟨h.os,h.tape,h.output,by simpa using h.size,fun i hi=> ?_⟩,by simp,fun i hi=> ?_,rfl,rfl,rfl⟩
   · simp only [Array.getElem?_setIfInBounds];by_cases e:g=i
     · subst e;rw [if_pos rfl,if_pos (Nat.lt_of_lt_of_le hg h.size),Array.getElem?_eq_getElem hg]
     · rw [if_neg e];exact h.block i hi (by simpa using e)
   · simp only [Array.getElem?_setIfInBounds];rw [if_neg (fun e=>hi (by simp [e]))]
theorem lendS_ok {A:Nat→Prop} {X:Cy} {w0:World} {bor:List Nat} {st1:St} {sy1:Sy} {H0:Hp} {a:Act} {w w':World} {KY:Sy→Prop} {dst:Option Nat} {k z n ty:Nat} {v:Value} {xs:List Value} {l':List D}
 (hr1:Rel (cx X w0 bor) st1 a w) (a1:At st1 w) (s1:Sim A st1 sy1) (b1:KSub st1.H H0) (hf':findE st1.H k=some (.row v n xs z ty)) (hk:putY X ⟨sy1.T,updY sy1.H k (.row z n l' ty),sy1.nk⟩ dst (.tup []) KY)
 (hrow:RowAt (fun b=>okS A st1 b∧b∉ownB v) w' z n l' ty v) (hfx:Fx (ownB v) w w'):∃st' sy',KY sy'∧Sim A st' sy'∧Lv (cx X w0 bor) H0 w st' (a.put dst (.tuple #[])) w':=by
 obtain⟨T,H,nk⟩:=sy1;obtain⟨T',H',nk',ws,lo,iv⟩:=st1;obtain⟨h1,h2,h3⟩:=a1;simp only at h1 h2 h3;subst h1 h2 h3;have c1:Cls (cx X w0 bor) H' nk' ws ws:=hr1.cls;have hlt:∀b,b∈ownB v→b<ws.heap.size:=fun b hb=>c1.lt_size (bs_mem.2 ⟨k,_,findE_mem hf',hb⟩)
 obtain⟨w1,hb1,hz1,hh1,ho1,ho2,ho3⟩:=mid_world hfx hlt;have hr2:=hr1.past hb1;have s2:=s1.past c1 hb1;obtain⟨xs',hown',hrp,hfl',hlen'⟩:=hrow;simp only at hf';obtain⟨H1,H2,hH,hk1,hupd⟩:=findE_cut hf'
 have hd:∀j,bOf (H1++(k, .row v n xs' z ty)::H2) j=bOf (H1++(k, .row v n xs z ty)::H2) j∧rowVal (H1++(k, .row v n xs' z ty)::H2) j=rowVal (H1++(k, .row v n xs z ty)::H2) j:=by
  intro j;simp only [bOf,rowVal,findE_append (e:= .row v n xs' z ty) (e0:= .row v n xs z ty) hk1];by_cases hj:j=k
  · subst hj;simp [findE_split hk1]
  · simp [hj]
 have hr3:Rel (cx X w0 bor) ⟨T',H1++(k, .row v n xs' z ty)::H2,nk',w1,w1.heap.size, []⟩ a w':=by
  have hr2':Rel (cx X w0 bor) ⟨T',H1++(k, .row v n xs z ty)::H2,nk',w1,w1.heap.size, []⟩ a w1:=by
   have:=hr2;unfold Sx.now at this;simp only at this;rw [hH]at this;exact this
  exact hr2'.swap rfl hd hz1 hh1 ho1 ho2 ho3 hown'
 have hr4:=hr3.now
 have s3:Sim A ⟨T',updE H' k (.row v n xs' z ty),nk',w1,w1.heap.size, []⟩ ⟨T,updY H k (.row z n l' ty),nk⟩:=by
  refine upd_sim (e0:= .row v n xs z ty) s2 hf' ?_ rfl (fun _=>rfl) fun j hj=>rfl
  refine⟨rfl,rfl,rfl,RepL.mono (fun b hb=>⟨?_,(hh1 b hb.2).symm⟩) _ _ hrp,hfl',hlen'⟩;exact(ok_past c1 hb1 b hb.1).1
 rw [hupd]at s3;have s4:=s3.now hr3.cls;have hput:=putY_sim (w0:=w0) (bor:=bor) (s:= .v (.tuple #[])) hk s4 (by simp only [RelD];exact .inr ⟨_,rfl,trivial⟩);obtain⟨st2,⟨sy2,g1,g2⟩,g3,g4⟩:=put_ok hr4 hput (v:= .tuple #[]) (.inr rfl);refine⟨st2,sy2,g1,g2,g3,hfx.wide fun b hb=>b1.bs b (bs_mem.2 ⟨k,_,findE_mem hf',hb⟩),fun b hb2=> .inl ?_⟩;rw [g4]at hb2;refine b1.bs b ?_;have:bs (H1++(k,Ent.row v n xs' z ty)::H2)=bs H':=by rw [hH];exact bs_swap rfl
 rw [←this];exact hb2
theorem lendY_seq (hA:AG A X.P w0 bor) {o:Oper} {Q:Exit→Act→World→Prop} {KY:Sy→Prop} {f:FuncId} {args:List D} {args':List SV} (hr:Rel (cx X w0 bor) st a w) (hs:Sim A st sy) (ha:RelDL (okS A st) st.w (keyS st) args args')
 (h:match(generalizing:=false) true,args with
 |true,x::rest=>match fzAll (keysF sy.H rest) sy (x::rest)with
  |some (st', .row k _::fa)=>match cleanL fa,findY st'.H k with
   |true,some e=>(CallL X.P f k e fa st' fun sy' x=>putY X sy' o.dst x KY)∨(CallS X.P f k e fa st' fun sy' x=>putY X sy' o.dst x KY)
   |_,_=>False
  |_=>False
 |_,_=>False) (hout:OutOK (cx X w0 bor) st a o (.call f args')):o.wp X.P a w (LvY A (cx X w0 bor) st.H w KY) Q:=by
 have hr0:=hr.now;have hs0:=hs.now hr.cls;have ha0:=ha.now hr.cls;split at h
 · rename_i x rest _ _;split at h
   · rename_i sy1 k z0 fa hfz;split at h
     · rename_i e hcl hfe;obtain⟨st1,l1,c1,a1,s1,b1,o1,g1,g2⟩:=fzAll_ok (Xx:=cx X w0 bor) hA.a _ hr0.cls ⟨rfl,rfl,rfl⟩ hs0 ha0 hfz
       have hr1:Rel (cx X w0 bor) st1 a w:=by
        refine⟨hr.size,fun d s hd=> ?_,hr.dfs, ?_, ?_, ?_⟩
        · rcases o1 d s hd with e|⟨s0,h1,h2,h3⟩
          · exact .inl e
          · rcases hr0.T d s0 h1 with e|e
            · exact absurd e h2
            · right;rw [e,h3]
        · rw [a1.1];exact c1
        · rw [a1.2.1];exact Nat.le_refl _
        · rw [a1.2.2];simp
       cases l1 with
       |nil=>simp [RelDL]at g1
       |cons s0 fa'=>
        simp only [RelDL]at g1;obtain⟨g0,g1⟩:=g1;simp only [RelD]at g0;obtain⟨rfl,hkey⟩:=g0;obtain⟨e',hf',he⟩:=s1.H _ _ hfe;cases e with
        |blk=>rcases h with h|h<;>(obtain⟨z,n,l,ty,_⟩:=h.ex;simp_all)
        |mp=>rcases h with h|h<;>(obtain⟨z,n,l,ty,_⟩:=h.ex;simp_all)
        |row z n l ty=>
        cases e' with
        |blk=>exact he.elim
        |mp=>exact he.elim
        |row v n1 xs z1 ty1=>
         obtain⟨rfl,rfl,rfl,hrep,hfl,hlen⟩:=he;rw [a1.1]at hrep;have hown:=c1.row hf';have hdv:den st1.H (.row k)=v:=by simp [den,rowVal,hf']
         have hrepA:=clean_repL (H:=st1.H) _ _ g1 hcl;have hnok:∀b,b∈ownB v→¬okS A st1 b∧X.P.globals.size≤b:=fun b hb=>⟨fun hok=>hok.2.2 b (bs_mem.2 ⟨k,_,findE_mem hf',hb⟩) rfl,hA.lb c1 (bs_mem.2 ⟨k,_,findE_mem hf',hb⟩)⟩
         have hoksz:∀b,okS A st1 b→b<w.heap.size:=fun b hb=>by have:=hb.2.1;rw [a1.1]at this;exact this
         have hargs:(denL st.H args').toArray=(v::denL st1.H fa').toArray:=by
          have:denL st1.H (.row k::fa')=denL st.H args':=g2;rw [←this];simp only [denL,hdv]
         rcases h with h|h
         rotate_left
         · obtain⟨_,_,_,_,n',l',he1,⟨rfl,hd⟩,hk⟩:=h.ex;cases he1;have hcall:=hd (okS A st1) w v _ ⟨xs,hown,hrep,hfl,hlen⟩ hnok hrepA hoksz (hA.giw hr.cls);rw [←hargs]at hcall;have hbody:=calls_body hcall fun e w' ⟨he,_⟩=>⟨_,he⟩
           unfold Oper.wp;rw [show(execOp a.eval o).run X.P w=_ from hout w hbody];simp only [Oper.upon];refine hcall.mono fun e w' ⟨he,hrow,hb⟩=> ?_
           subst he;simp only;exact lendS_ok hr1 a1 s1 b1 hf' (setY_elim hk) hrow hb
         obtain⟨_,_,_,_,z',n',l',he1,hd,hk⟩:=h.ex;cases he1;have hcall:=hd (okS A st1) w v _ ⟨xs,hown,hrep,hfl,hlen⟩ hnok hrepA hoksz (hA.giw hr.cls);rw [←hargs]at hcall;have hbody:=calls_body hcall fun e w' ⟨v',he,_⟩=>⟨_,he⟩
         unfold Oper.wp;rw [show(execOp a.eval o).run X.P w=_ from hout w hbody];simp only [Oper.upon];refine hcall.mono fun e w' ⟨v',he,hfr,⟨xs',hown',hrp,hfl',hlen'⟩,hb⟩=> ?_
         subst he;simp only;rw [hideHK_eq]at hk;have hk:=setY_elim hk;rw [hideTY_eq]at hk;have hrel2:=lend_rel hr1 a1 hf' hb hown' hfr;obtain⟨T,H,nk⟩:=sy1;obtain⟨T',H',nk',ws,lo,iv⟩:=st1;obtain⟨h1,h2,h3⟩:=a1;simp only at h1 h2 h3;subst h1 h2 h3;have hlt:∀c,c∈bs H'→c<ws.heap.size:=fun c hc=>c1.lt_size hc
         have hfxH:Fx (bs H') ws w':=hb.wide fun b hb=>bs_mem.2 ⟨k,_,findE_mem hf',hb⟩
         have hsim:Sim A ⟨hideT k T',updE (hideH k H') k (.row v' n' xs' z' ty),nk',w',w'.heap.size, []⟩ ⟨hideTL k T,updY (hideHY k H) k (.row z' n' l' ty),nk⟩:=by
          refine grow_sim2 (lo:=ws.heap.size) (iv:= []) (w:=ws) s1 hf' (fun b hb=> ?_) hfxH (.inl rfl) ?_ hfl' hlen'
          · rcases hfr b hb with h|h
            · exact .inl (bs_mem.2 ⟨k,_,findE_mem hf',h⟩)
            · exact .inr h
          · refine RepL.mono (fun b hbk=>⟨?_,rfl⟩) _ _ hrp;obtain⟨hb1,hb2⟩:=hbk
            have hne:∀c,c∈bs (updE (hideH k H') k (.row v' n' xs' z' ty))→c≠b:=by
             intro c hc e;subst e;rcases hb1 with hb1|hb1|hb1
             · rcases bs_upd hc with hc|hc
               · rw [bs_hide]at hc;exact hb1.2.2 c hc rfl
               · exact hb2 hc
             · exact bs_upd_ne (by rw [bs_hide];exact c1.nd) (show findE (hideH k H') k=some (hideE k _) by rw [findE_hide,hf'];rfl) (by rw [bsE_hide];exact hb1) hb2 hc
             · rcases bs_upd hc with hc|hc
               · rw [bs_hide]at hc;have:=hlt c hc;omega
               · exact hb2 hc
            rcases hb1 with hb1|hb1|hb1
            · exact⟨⟨.inl (Nat.lt_of_lt_of_le hb1.2.1 hb.size),hb1.1.2⟩,Nat.lt_of_lt_of_le hb1.2.1 hb.size,hne⟩
            · have hbm:b∈bs H':=bs_mem.2 ⟨k,_,findE_mem hf',hb1⟩;have hlw:=Nat.lt_of_lt_of_le (hlt b hbm) hb.size;exact⟨⟨.inl hlw,hA.a b (c1.lb b hbm).symm⟩,hlw,hne⟩
            · exact⟨⟨.inl hb1.2,hA.a b (.inl (Nat.le_trans c1.fx0.size hb1.1))⟩,hb1.2,hne⟩
         have hfu:findE (updE (hideH k H') k (.row v' n' xs' z' ty)) k=some (.row v' n' xs' z' ty):=by
          rw [findE_upd (e0:=hideE k _) (by rw [findE_hide,hf'];rfl)];simp
         have hput:=putY_sim (w0:=w0) (bor:=bor) (s:= .row k) hk hsim (by simp only [RelD];exact⟨trivial,hkey.1,fun _=>⟨_,hfu,rfl⟩⟩);obtain⟨st2,⟨sy2,h1,h2⟩,h3,h4⟩:=put_ok hrel2 hput (v:=v') (.inr (by simp [den,rowVal,hfu]));refine⟨st2,sy2,h1,h2,h3,hb.wide fun b hb=>b1.bs b (bs_mem.2 ⟨k,_,findE_mem hf',hb⟩),fun b hb2=> ?_⟩;rw [h4]at hb2;rcases bs_upd hb2 with hb2|hb2
         · rw [bs_hide]at hb2;exact .inl (b1.bs b hb2)
         · rcases hfr b hb2 with h|h
           · exact .inl (b1.bs b (bs_mem.2 ⟨k,_,findE_mem hf',h⟩))
           · exact .inr h
     · exact h.elim
   · exact h.elim
 · exact h.elim
def LvK (A:Nat→Prop) (Xx:Cx) (H:Hp) (w:World) (KY:Sy→Prop) (a':Act) (w':World):Prop:=∃st' sy',KY sy'∧Sim A st' sy'∧Lv Xx H w st' a' w'∧(∀i,i<w.heap.size→w'.heap[i]?=w.heap[i]?)∧KB H w st'.H
theorem freshY_seq (hA:AG A X.P w0 bor) {o:Oper} {Q:Exit→Act→World→Prop} {KY:Sy→Prop} {f:FuncId} {args:List D} {args':List SV} (hr:Rel (cx X w0 bor) st a w) (hs:Sim A st sy) (ha:RelDL (okS A st) st.w (keyS st) args args')
 (hcl:cleanL args=true) (h:CallU X.P f args sy fun sy' x=>putY X sy' o.dst x KY) (hout:OutOK (cx X w0 bor) st a o (.call f args')):o.wp X.P a w (LvK A (cx X w0 bor) st.H w KY) Q:=by
 have hr0:=hr.now;have hs0:=hs.now hr.cls;have ha0:=ha.now hr.cls;obtain⟨z,n,l,ty,hd,hk⟩:=h.ex;have hrep:=clean_repL (H:=st.H) _ _ ha0 hcl;have hcall:=hd (okS A (now st w)) w _ hrep (fun b hb=>hb.2.1) (hA.giw hr.cls);have hbody:=calls_body hcall fun e w' ⟨v,he,_⟩=>⟨_,he⟩
 unfold Oper.wp;rw [show(execOp a.eval o).run X.P w=_ from hout w hbody];simp only [Oper.upon];refine hcall.mono fun e w' ⟨v,he,hfr,⟨xs,hown,hrp,hfl,hlen⟩,hb⟩=> ?_
 subst he;simp only;obtain⟨T,H,nk⟩:=sy;obtain⟨T',H',nk',ws,lo,iv⟩:=st;have hnk:nk=nk':=hs.nk;subst hnk;have hownB:=ownB_nodup v;have hblk:∀i,i<w.heap.size→w'.heap[i]?=w.heap[i]?:=fun i hi=>hb.block i hi
 have hrel:=hr0.cons (w':=w') (e:= .row v n xs z ty) (hs.fT nk (Nat.le_refl _)) (hs.fH nk (Nat.le_refl _)) hb.size hblk hb.os hb.tape hb.output hown hfr hownB;have hrel2:=hrel.now;have hlt:∀c,c∈bs H'→c<w.heap.size:=fun c hc=>hr.cls.lt_size hc
 have hsim:Sim A ⟨T',(nk, .row v n xs z ty)::H',nk+1,w',w'.heap.size, []⟩ ⟨T,(nk, .row z n l ty)::H,nk+1⟩:=by
  refine newrow_sim2 (lo:=w.heap.size) (iv:= []) (w:=w) hs0 (fun b hb=> .inr (hfr b hb)) ((Fx.refl _ _).of_below hb) (.inl rfl) ?_ hfl hlen;refine RepL.mono (fun b hbk=>⟨?_,rfl⟩) _ _ hrp;obtain⟨hb1,hb2⟩:=hbk
  have hne:∀c,c∈bs ((nk,Ent.row v n xs z ty)::H')→c≠b:=by
   intro c hc e;subst e;simp only [bs,bsE,List.mem_append]at hc;rcases hc with hc|hc
   · exact hb2 hc
   · rcases hb1 with hb1|hb1
     · exact hb1.2.2 c hc rfl
     · have:=hlt c hc;omega
  rcases hb1 with hb1|hb1
  · exact⟨⟨.inl (Nat.lt_of_lt_of_le hb1.2.1 hb.size),hb1.1.2⟩,Nat.lt_of_lt_of_le hb1.2.1 hb.size,hne⟩
  · exact⟨⟨.inl hb1.2,hA.a b (.inl (Nat.le_trans hr.cls.fx0.size hb1.1))⟩,hb1.2,hne⟩
 have hput:=putY_sim (w0:=w0) (bor:=bor) (s:= .row nk) hk hsim (by simp only [RelD];exact⟨trivial,by simp only;omega,fun _=>⟨_,by simp only [findE,Nat.beq_refl];rfl,rfl⟩⟩);obtain⟨st2,⟨sy2,h1,h2⟩,h3,h4⟩:=put_ok hrel2 hput (v:=v) (.inr (by simp [den,rowVal,now,findE]));refine⟨st2,sy2,h1,h2,⟨h3,(Fx.refl _ _).of_below hb,fun b hb2=> ?_⟩,hblk,fun k e hm b hb2=> ?_⟩
 rotate_left
 · rw [h4]at hm;simp only [now]at hm;rcases List.mem_cons.1 hm with hm|hm
   · cases hm;exact .inl (hfr b hb2)
   · exact .inr ⟨e,hm,hb2⟩
 rw [h4]at hb2;simp only [now,bs,bsE,List.mem_append]at hb2;rcases hb2 with hb2|hb2
 · exact .inr (hfr b hb2)
 · exact .inl hb2
abbrev RowV:=Value×Nat×List Value×Nat×TypeId
def entsV:Nat→List RowV→Hp→Hp
 |_, [],H=>H
 |k,(v,n,xs,z,ty)::rs,H=>entsV (k+1) rs ((k, .row v n xs z ty)::H)
theorem bs_entsV:∀(rs:List RowV) (k:Nat) (H:Hp) (b:Nat),b∈bs (entsV k rs H)↔b∈bs H∨b∈rs.flatMap fun r=>ownB r.1
 | [],k,H,b=>by simp [entsV]
 |(v,n,xs,z,ty)::rs,k,H,b=>by
  rw [entsV,bs_entsV rs];simp only [bs,bsE,List.mem_append,List.flatMap_cons];constructor
  · rintro((h|h)|h)
    · exact .inr (.inl h)
    · exact .inl h
    · exact .inr (.inr h)
  · rintro(h|h|h)
    · exact .inl (.inr h)
    · exact .inl (.inl h)
    · exact .inr h
theorem mem_entsV:∀(rs:List RowV) (k:Nat) (H:Hp) (j:Nat) (e:Ent),(j,e)∈entsV k rs H→(j,e)∈H∨(∀b,b∈bsE e→b∈rs.flatMap fun r=>ownB r.1)
 | [],k,H,j,e,h=> .inl h
 |(v,n,xs,z,ty)::rs,k,H,j,e,h=>by
  rw [entsV]at h;rcases mem_entsV rs _ _ _ _ h with h|h
  · rcases List.mem_cons.1 h with h|h
    · cases h;exact .inr fun b hb=>by simp only [List.flatMap_cons,List.mem_append];exact .inl hb
    · exact .inl h
  · exact .inr fun b hb=>by simp only [List.flatMap_cons,List.mem_append];exact .inr (h b hb)
theorem fresh_entsV {j:Nat}:∀(rs:List RowV) (k:Nat) (H:Hp),freshH j H=true→freshH j (entsV k rs H)=true
 | [],_,_,h=>h
 |(v,n,xs,z,ty)::rs,k,H,h=>fresh_entsV rs _ _ (by simpa [freshH]using h)
theorem findE_entsV_old {k:Nat}:∀(rs:List RowV) (nk:Nat) (H:Hp),k<nk→findE (entsV nk rs H) k=findE H k
 | [],_,_,_=>rfl
 |(v,n,xs,z,ty)::rs,nk,H,h=>by rw [entsV,findE_entsV_old rs _ _ (by omega),findE_cons_ne (by omega)]
theorem findE_entsV_new:∀(rs:List RowV) (nk:Nat) (H:Hp) (i:Nat) (v:Value) (n:Nat) (xs:List Value) (z:Nat) (ty:TypeId),rs[i]?=some (v,n,xs,z,ty)→findE (entsV nk rs H) (nk+i)=some (.row v n xs z ty)
 | [],_,_,_,_,_,_,_,_,h=>by simp at h
 |(v',n',xs',z',ty')::rs,nk,H,i,v,n,xs,z,ty,h=>by
  rw [entsV];cases i with
  |zero=>
   simp at h;obtain⟨rfl,rfl,rfl,rfl,rfl⟩:=h;rw [Nat.add_zero,findE_entsV_old rs _ _ (by omega)];simp [findE]
  |succ i=>
   have:=findE_entsV_new rs (nk+1) ((nk, .row v' n' xs' z' ty')::H) i v n xs z ty (by simpa using h)
   rw [show nk+(i+1)=nk+1+i by omega];exact this
theorem findY_rowsH {k:Nat} {e:E}:∀(rs:List (Nat×Nat×List D×TypeId)) (nk:Nat) (H:Hy),(∀k e,findY H k=some e→k<nk)→findY (rowsH nk rs H) k=some e→findY H k=some e∧k<nk∨∃i z n l ty,k=nk+i∧rs[i]?=some (z,n,l,ty)∧e= .row z n l ty
 | [],nk,H,hl,h=> .inl ⟨h,hl _ _ h⟩
 |(z,n,l,ty)::rs,nk,H,hl,h=>by
  rw [rowsH]at h
  rcases findY_rowsH rs (nk+1) _ (fun k e hk=>by
   simp only [findY]at hk;cases hb:Nat.beq nk k with
   |true=>have:=beqT hb;omega
   |false=>rw [hb]at hk;have:=hl _ _ hk;omega) h with⟨h,hlt⟩|⟨i,z',n',l',ty',rfl,h1,h2⟩
  · simp only [findY]at h;cases hb:Nat.beq nk k with
    |true=>
     rw [hb]at h;cases h;have:=beqT hb;subst this;exact .inr ⟨0,z,n,l,ty,rfl,rfl,rfl⟩
    |false=>
     rw [hb]at h;exact .inl ⟨h,by have:=beqF hb;omega⟩
  · exact .inr ⟨i+1,z',n',l',ty',by omega,by simpa using h1,h2⟩
theorem Rel.consL {Xx:Cx} {a:Act} {w:World} {T:List (Nat×SV)} {ws:World} {lo:Nat} {iv:List (Nat×Nat)}:∀(rs:List RowV) (H:Hp) (nk:Nat),Rel Xx ⟨T,H,nk,ws,lo,iv⟩ a w→(∀j,nk≤j→freshT j T=true)→(∀j,nk≤j→freshH j H=true)→
 (∀v n xs z ty,(v,n,xs,z,ty)∈rs→w.ownsRow 0 ty z v n xs)→(∀b,(b∈rs.flatMap fun r=>ownB r.1)→Xx.w0.heap.size≤b∧b∉bs H)→(rs.flatMap fun r=>ownB r.1).Nodup→Rel Xx ⟨T,entsV nk rs H,nk+rs.length,ws,lo,iv⟩ a w
 | [],_,_,hr,_,_,_,_,_=>hr
 |(v,n,xs,z,ty)::rs,H,nk,hr,hT,hH,ho,hb,hn=>by
  simp only [List.flatMap_cons,List.nodup_append]at hn;have h1:=hr.consG (e:= .row v n xs z ty) (hT nk (Nat.le_refl _)) (hH nk (Nat.le_refl _)) (ho v n xs z ty List.mem_cons_self) (fun b hb'=>hb b (by simp only [List.flatMap_cons,List.mem_append];exact .inl hb')) (ownB_nodup v)
  have h2:=Rel.consL rs _ _ h1 (fun j hj=>hT j (Nat.le_of_succ_le hj)) (fun j hj=>by simpa [freshH]using hH j (Nat.le_of_succ_le hj)) (fun v n xs z ty h=>ho v n xs z ty (List.mem_cons_of_mem _ h)) (fun b hb'=>by
   have h3:=hb b (by simp only [List.flatMap_cons,List.mem_append];exact .inr hb');refine⟨h3.1,fun hc=> ?_⟩;simp only [bs,bsE,List.mem_append]at hc;rcases hc with hc|hc
   · exact hn.2.2 b hc b hb' rfl
   · exact h3.2 hc) hn.2.1
  rw [entsV,List.length_cons,show nk+(rs.length+1)=nk+1+rs.length by omega];exact h2
theorem RowsM.choose {ok:Nat→Prop} {w:World}:∀ {rows:List (Nat×Nat×List D×TypeId)} {rv:List Value},RowsM ok w rows rv→
 ∃rs:List RowV,rs.map (·.1)=rv∧rs.length=rows.length∧(∀v n xs z ty,((v,n,xs,z,ty):RowV)∈rs→w.ownsRow 0 ty z v n xs)∧
  ∀(i z n:Nat) (l:List D) (ty:TypeId),rows[i]?=some (z,n,l,ty)→∃(v:Value) (xs:List Value),rs[i]?=some ((v,n,xs,z,ty):RowV)∧RepL ok w l xs∧flatD l=true∧l.length=n*z
 | [], [],_=>⟨[],rfl,rfl,fun _ _ _ _ _ h=>by simp at h,fun _ _ _ _ _ h=>by simp at h⟩
 |(z,n,l,ty)::rows,v::rv,h=>by
  simp only [RowsM]at h;obtain⟨⟨xs,h1,h2,h3,h4⟩,h5⟩:=h;obtain⟨rs,g1,g2,g3,g4⟩:=RowsM.choose h5;refine⟨(v,n,xs,z,ty)::rs,by simp [g1],by simp [g2],fun v' n' xs' z' ty' hm=> ?_,fun i z' n' l' ty' hi=> ?_⟩
  · rcases List.mem_cons.1 hm with hm|hm
    · cases hm;exact h1
    · exact g3 _ _ _ _ _ hm
  · cases i with
    |zero=>simp at hi;obtain⟨rfl,rfl,rfl,rfl⟩:=hi;exact⟨v,xs,rfl,h2,h3,h4⟩
    |succ i=>
     obtain⟨v',xs',e1,e2⟩:=g4 i z' n' l' ty' (by simpa using hi)
     exact⟨v',xs',by simpa using e1,e2⟩
 | [],_::_,h=>by simp [RowsM]at h
 |_::_, [],h=>by simp [RowsM]at h
theorem freshM_seq (hA:AG A X.P w0 bor) {o:Oper} {Q:Exit→Act→World→Prop} {KY:Sy→Prop} {f:FuncId} {args:List D} {args':List SV} (hr:Rel (cx X w0 bor) st a w) (hs:Sim A st sy) (ha:RelDL (okS A st) st.w (keyS st) args args')
 (hcl:cleanL args=true) (h:CallM X.P f args sy fun sy' x=>putY X sy' o.dst x KY) (hout:OutOK (cx X w0 bor) st a o (.call f args')):o.wp X.P a w (LvK A (cx X w0 bor) st.H w KY) Q:=by
 have hr0:=hr.now;have hs0:=hs.now hr.cls;have ha0:=ha.now hr.cls;obtain⟨rows,cells,⟨hfl,hd⟩,hk⟩:=h.ex;have hrep:=clean_repL (H:=st.H) _ _ ha0 hcl;have hcall:=hd (okS A (now st w)) w _ hrep (fun b hb=>hb.2.1) (hA.giw hr.cls);have hbody:=calls_body hcall fun e w' ⟨v,rv,he,_⟩=>⟨_,he⟩
 unfold Oper.wp;rw [show(execOp a.eval o).run X.P w=_ from hout w hbody];simp only [Oper.upon];refine hcall.mono fun e w' hex=> ?_
 obtain⟨av,rv,he,hbl,hnd,hrows,hcells,hb⟩:=hex;subst he;simp only;obtain⟨T,H,nk⟩:=sy;obtain⟨T',H',nk',ws,lo,iv⟩:=st;have hnk:nk=nk':=hs.nk;subst hnk;obtain⟨rs,e1,e2,hown,hrow⟩:=hrows.choose;have hflat:(rs.flatMap fun r=>ownB r.1)=rv.flatMap ownB:=by rw [←e1,List.flatMap_map]
 have hlt:∀c,c∈bs H'→c<w.heap.size:=fun c hc=>hr.cls.lt_size hc
 have hblk:∀i,i<w.heap.size→w'.heap[i]?=w.heap[i]?:=fun i hi=>hb.block i hi
 have hrel0:=hr0.past hb
 have hrel:Rel (cx X w0 bor) ⟨T',entsV nk rs H',nk+rs.length,w',w'.heap.size, []⟩ a w':=by
  refine Rel.consL rs H' nk hrel0 hs.fT hs.fH hown (fun b hb'=> ?_) (by rw [hflat];exact hnd);rw [hflat]at hb';have h1:=hbl b hb';exact⟨Nat.le_trans hr.cls.fx0.size h1.1,fun hc=>by have:=hlt b hc;omega⟩
 have hne:∀b,(∀c,c∈bs H'→c≠b)→b∉rv.flatMap ownB→∀c,c∈bs (entsV nk rs H')→c≠b:=by
  intro b h1 h2 c hc;rcases(bs_entsV rs nk H' c).1 hc with hc|hc
  · exact h1 c hc
  · rw [hflat]at hc;exact fun e=>h2 (e▸hc)
 have hokN:∀b,((okS A (now ⟨T',H',nk,ws,lo,iv⟩ w) b∨(w.heap.size≤b∧b<w'.heap.size))∧b∉rv.flatMap ownB)→okS A ⟨T',entsV nk rs H',nk+rs.length,w',w'.heap.size, []⟩ b:=by
  rintro b ⟨hb1,hb2⟩;rcases hb1 with hb1|hb1
  · exact⟨⟨.inl (Nat.lt_of_lt_of_le hb1.2.1 hb.size),hb1.1.2⟩,Nat.lt_of_lt_of_le hb1.2.1 hb.size,hne b hb1.2.2 hb2⟩
  · exact⟨⟨.inl hb1.2,hA.a b (.inl (Nat.le_trans hr.cls.fx0.size hb1.1))⟩,hb1.2,hne b (fun c hc e=>by have:=hlt c hc;omega) hb2⟩
 have hokO:∀b,okS A (now ⟨T',H',nk,ws,lo,iv⟩ w) b→okS A ⟨T',entsV nk rs H',nk+rs.length,w',w'.heap.size, []⟩ b∧w'.heap[b]?=w.heap[b]?:=fun b hb1=>
  ⟨hokN b ⟨.inl hb1,fun hc=>by have h1:=(hbl b hc).1;have h2:=hb1.2.1;simp only [now]at h2;omega⟩,hblk b hb1.2.1⟩
 have hkO:∀q k,keyS (now ⟨T',H',nk,ws,lo,iv⟩ w) q k→keyS ⟨T',entsV nk rs H',nk+rs.length,w',w'.heap.size, []⟩ q k:=by
  intro q k ⟨h1,h2⟩;simp only [now]at h1;refine⟨by simp only;omega,fun hq=> ?_⟩;simp only;rw [findE_entsV_old rs _ _ h1];exact h2 hq
 have hsim:Sim A ⟨T',entsV nk rs H',nk+rs.length,w',w'.heap.size, []⟩ ⟨T,rowsH nk rows H,nk+rows.length⟩:=by
  refine⟨fun d x hx=> ?_,fun k e he=> ?_,by rw [e2],fun j hj=>hs.fT j (by simp only at hj⊢;omega),fun j hj=>fresh_entsV rs _ _ (hs.fH j (by simp only at hj⊢;omega))⟩
  · rcases hs0.T d x hx with h|⟨s,h1,h2⟩
    · exact .inl h
    · exact .inr ⟨s,h1,RelD.mono hokO hkO _ _ h2⟩
  · have hyl:∀k e,findY H k=some e→k<nk:=fun k e h=>by
     obtain⟨e',h1,_⟩:=hs.H k e h;exact hr.cls.lt k e' (findE_mem h1)
    rcases findY_rowsH rows nk H hyl he with⟨h1,h2⟩|⟨i,z,n,l,ty,rfl,h1,rfl⟩
    · obtain⟨e',g1,g2⟩:=hs0.H k e h1;exact⟨e',by rw [show(_:St).H=_ from rfl];simp only;rw [findE_entsV_old rs _ _ h2];exact g1,RelE.mono hokO hkO g2⟩
    · obtain⟨v,xs,g1,g2,g3,g4⟩:=hrow i z n l ty h1;exact⟨_,findE_entsV_new rs nk H' i v n xs z ty g1,rfl,rfl,rfl,RepL.mono (fun b hb1=>⟨hokN b hb1,rfl⟩) _ _ g2,g3,g4⟩
 have hval:∃cs:List SV,RelDL (okS A ⟨T',entsV nk rs H',nk+rs.length,w',w'.heap.size, []⟩) w' (keyS ⟨T',entsV nk rs H',nk+rs.length,w',w'.heap.size, []⟩) (shC nk cells) cs∧denL (entsV nk rs H') cs=av:=by
  clear hfl hk hd hcall hbody
  induction cells generalizing av with
  |nil=>cases av with
   |nil=>exact⟨[],trivial,rfl⟩
   |cons=>simp [CellsM]at hcells
  |cons d cells ih=>cases av with
   |nil=>cases d<;>simp [CellsM]at hcells
   |cons y av=>
    have gen:Rep (fun b=>(okS A (now ⟨T',H',nk,ws,lo,iv⟩ w) b∨(w.heap.size≤b∧b<w'.heap.size))∧b∉rv.flatMap ownB) w' d y→CellsM (fun b=>(okS A (now ⟨T',H',nk,ws,lo,iv⟩ w) b∨(w.heap.size≤b∧b<w'.heap.size))∧b∉rv.flatMap ownB) w' rv cells av→
     ∃cs:List SV,RelDL (okS A ⟨T',entsV nk rs H',nk+rs.length,w',w'.heap.size, []⟩) w' (keyS ⟨T',entsV nk rs H',nk+rs.length,w',w'.heap.size, []⟩) (d::shC nk cells) cs∧denL (entsV nk rs H') cs=y::av:=by
     intro h1 h2;obtain⟨cs,g1,g2⟩:=ih av h2;exact⟨.v y::cs,⟨Rep.rel _ _ (Rep.mono (fun b hb1=>⟨hokN b hb1,rfl⟩) _ _ h1),g1⟩,by simp [denL,den,g2]⟩
    cases d with
    |row i z=>
     simp only [CellsM]at hcells;obtain⟨h1,h2⟩:=hcells;obtain⟨cs,g1,g2⟩:=ih av h2
     have h3:∃r,rs[i]?=some r∧r.1=y:=by
      rw [←e1,List.getElem?_map]at h1;cases hri:rs[i]? with
      |none=>rw [hri]at h1;cases h1
      |some r=>rw [hri]at h1;exact⟨r,rfl,Option.some.inj h1⟩
     obtain⟨⟨v,n,xs,z',ty⟩,h3,rfl⟩:=h3;have h4:=findE_entsV_new rs nk H' i v n xs z' ty h3;have hi:i<rs.length:=(List.getElem?_eq_some_iff.1 h3).1;refine⟨.row (nk+i)::cs,⟨?_,g1⟩,by simp [denL,den,rowVal,h4,g2]⟩;simp only [RelD];exact⟨trivial,by simp only;omega,fun _=>⟨_,h4,rfl⟩⟩
    |_=>simp only [CellsM]at hcells;exact gen hcells.1 hcells.2
 obtain⟨cs,hcs,hden⟩:=hval
 have hflS:flatD (shC nk cells)=true:=by
  clear hcs hcells hk hd hcall hbody
  induction cells with
  |nil=>rfl
  |cons d l ih=>
   have h1:=flatD_mem hfl List.mem_cons_self;have h2:=ih (flatD_of fun x hx=>flatD_mem hfl (List.mem_cons_of_mem _ hx));cases d<;>simp [oneD]at h1<;>exact h2
 have hput:=putY_sim (w0:=w0) (bor:=bor) (s:= .agg cs) hk hsim (by simp only [RelD];exact⟨cs,rfl,hcs,hflS⟩);obtain⟨st2,⟨sy2,h1,h2⟩,h3,h4⟩:=put_ok hrel hput (v:= .agg av.toArray) (.inr (by simp [den,hden]));refine⟨st2,sy2,h1,h2,⟨h3,(Fx.refl _ _).of_below hb,fun b hb2=> ?_⟩,hblk,fun k e hm b hb2=> ?_⟩
 · rw [h4]at hb2;rcases(bs_entsV rs nk H' b).1 hb2 with hb2|hb2
   · exact .inl hb2
   · rw [hflat]at hb2;exact .inr (hbl b hb2).1
 · rw [h4]at hm;rcases mem_entsV rs nk H' k e hm with hm|hm
   · exact .inr ⟨e,hm,hb2⟩
   · have:=hm b hb2;rw [hflat]at this;exact .inl (hbl b this).1
theorem callY_keep (hA:AG A X.P w0 bor) {o:Oper} {Q:Exit→Act→World→Prop} {KY:Sy→Prop} {f:FuncId} {args:List D} {args':List SV} (hr:Rel (cx X w0 bor) st a w) (hs:Sim A st sy) (ha:RelDL (okS A st) st.w (keyS st) args args')
 (hln:memN f X.ln=false) (h:callY X true f args sy fun sy' x=>putY X sy' o.dst x KY) (hout:OutOK (cx X w0 bor) st a o (.call f args')):o.wp X.P a w (LvK A (cx X w0 bor) st.H w KY) Q:=by
 have hr0:=hr.now;have hs0:=hs.now hr.cls;have ha0:=ha.now hr.cls
 --the call itself,from some state
 have main:∀(st1:St) (args1:List SV) (fa:List D) (Qr:D→Prop),Cls (cx X w0 bor) st1.H st1.nk w w→At st1 w→RelDL (okS A st1) w (keyS st1) fa args1→denL st1.H args1=denL st.H args'→cleanL fa=true→Does X.P f fa Qr→
  (∀v r w',Below w.heap.size w w'→Qr r→Rep (fun b=>okS A st1 b∨(w.heap.size≤b∧b<w'.heap.size)) w' r v→LvK A (cx X w0 bor) st.H w KY (a.put o.dst v) w')→o.wp X.P a w (LvK A (cx X w0 bor) st.H w KY) Q:=by
  intro st1 args1 fa Qr hc hat hfa hden hcl hd hk;have hrep:=clean_repL (H:=st1.H) _ _ hfa hcl;rw [hden]at hrep;have hcall:=hd (okS A st1) w _ hrep (fun b hb=>by have:=hb.2.1;rw [hat.1]at this;exact this) (hA.giw hr.cls);have hbody:=calls_body hcall fun e w' ⟨v,r,he,_⟩=>⟨_,he⟩
  unfold Oper.wp;rw [show(execOp a.eval o).run X.P w=_ from hout w hbody];simp only [Oper.upon];refine hcall.mono fun e w' ⟨v,r,he,hq,hrp,hb⟩=> ?_
  subst he;exact hk v r w' hb hq hrp
 have done:∀(st1:St) (sy1:Sy) (v:Value) (r:D) (w':World),Rel (cx X w0 bor) st1 a w→Sim A st1 sy1→KSub st1.H st.H→Below w.heap.size w w'→RelD (okS A (now st1 w')) w' (keyS (now st1 w')) r (.v v)→putY X sy1 o.dst r KY→LvK A (cx X w0 bor) st.H w KY (a.put o.dst v) w':=by
  intro st1 sy1 v r w' hr1 hs1 hsub hb hrd hp;have hput:=putY_sim (w0:=w0) (bor:=bor) hp (hs1.past hr1.cls hb) hrd;obtain⟨st2,⟨sy2,h1,h2⟩,h3,h4⟩:=put_ok (hr1.past hb) hput (v:=v) (.inr rfl)
  exact⟨st2,sy2,h1,h2,⟨h3,(Fx.refl _ _).of_below hb,fun b hb2=> .inl (hsub.bs b (by rw [h4]at hb2;exact hb2))⟩,fun i hi=>hb.block i hi,fun k e hm b hb2=>by
   rw [h4]at hm;obtain⟨e0,g1,g2⟩:=hsub k e hm;exact .inr ⟨e0,g1,g2 b hb2⟩⟩
 have repOk:∀(st1:St) (w':World) (v:Value) (r:D),Cls (cx X w0 bor) st1.H st1.nk st1.w w→At st1 w→Below w.heap.size w w'→Rep (fun b=>okS A st1 b∨(w.heap.size≤b∧b<w'.heap.size)) w' r v→RelD (okS A (now st1 w')) w' (keyS (now st1 w')) r (.v v):=by
  intro st1 w' v r hc hat hb hrp;refine Rep.rel _ _ (Rep.mono (fun b hbk=>⟨?_,rfl⟩) _ _ hrp);rcases hbk with hbk|⟨h1,h2⟩
  · exact((ok_past hc hb) b hbk).1
  · exact⟨⟨.inl h2,hA.a b (.inl (Nat.le_trans hc.fx0.size h1))⟩,h2,fun c hcb e=>by have:=hc.lt_size hcb;omega⟩
 unfold callY at h;split at h
 · rename_i hm;rw [hln]at hm;cases hm
 · split at h
   · rcases h with h|h
     · exact freshY_seq hA hr hs ha (by assumption) h hout
     · exact freshM_seq hA hr hs ha (by assumption) h hout
   · exact h.elim
 split at h
 · rename_i hcl;obtain⟨Qr,hd,hk⟩:=h.ex;refine main (now st w) args' args Qr hr0.cls ⟨rfl,rfl,rfl⟩ ha0 rfl hcl hd fun v r w' hb hq hrp=> ?_
   exact done (now st w) sy v r w' hr0 hs0 (KSub.refl _) hb (repOk (now st w) w' v r hr0.cls ⟨rfl,rfl,rfl⟩ hb hrp) (hk r hq)
 · split at h
   · rename_i sy' fa hfz;split at h
     · rename_i hcl;obtain⟨Qr,hd,hk⟩:=h.ex;obtain⟨st1,args1,c1,a1,s1,b1,o1,g1,g2⟩:=fzAll_ok (Xx:=cx X w0 bor) hA.a _ hr0.cls ⟨rfl,rfl,rfl⟩ hs0 ha0 hfz
       have hr1:Rel (cx X w0 bor) st1 a w:=by
        refine⟨hr.size,fun d s hd=> ?_,hr.dfs, ?_, ?_, ?_⟩
        · rcases o1 d s hd with e|⟨s0,h1,h2,h3⟩
          · exact .inl e
          · rcases hr0.T d s0 h1 with e|e
            · exact absurd e h2
            · right;rw [e,h3]
        · rw [a1.1];exact c1
        · rw [a1.2.1];exact Nat.le_refl _
        · rw [a1.2.2];simp
       refine main st1 args1 fa Qr c1 a1 g1 g2 hcl hd fun v r w' hb hq hrp=> ?_
       have hkr:=hk r hq;cases hsc:scal r with
       |true=>
        rw [hsc]at hkr;exact done (now st w) sy v r w' hr0 hs0 (KSub.refl _) hb (Rep.rel _ _ (scal_rep _ _ hrp hsc)) hkr
       |false=>
        rw [hsc]at hkr;exact done st1 sy' v r w' hr1 s1 b1 hb (repOk st1 w' v r hr1.cls a1 hb hrp) hkr
     · exact h.elim
   · exact h.elim
theorem callY_seq (hA:AG A X.P w0 bor) {o:Oper} {Q:Exit→Act→World→Prop} {KY:Sy→Prop} {f:FuncId} {args:List D} {args':List SV} (hr:Rel (cx X w0 bor) st a w) (hs:Sim A st sy) (ha:RelDL (okS A st) st.w (keyS st) args args')
 (h:callY X true f args sy fun sy' x=>putY X sy' o.dst x KY) (hout:OutOK (cx X w0 bor) st a o (.call f args')):o.wp X.P a w (LvY A (cx X w0 bor) st.H w KY) Q:=by
 cases hln:memN f X.ln with
 |true=>simp only [callY,hln]at h;exact lendY_seq hA hr hs ha h hout
 |false=>exact Oper.wp_mono (fun a' w' ⟨st2,sy2,g1,g2,g3,_⟩=>⟨st2,sy2,g1,g2,g3⟩) (callY_keep hA hr hs ha hln h hout)
theorem callY_draw (hA:AG A X.P w0 bor) {KY:Sy→Prop} {f:FuncId} {args:List D} {args':List SV} {dst:Option Nat} (hs:Sim A st sy) (ha:RelDL (okS A st) st.w (keyS st) args args')
 (h:callY X false f args sy fun sy' x=>putY X sy' dst x KY):CallVC (cx X w0 bor) false f args' st fun st' s=>put (cx X w0 bor) st' dst s fun st'=>∃sy',KY sy'∧Sim A st' sy':=by
 have fxok:∀n w1,st.w.heap.size≤n→n≤w1.heap.size→Fx (bs st.H) st.w w1→∀b,okS A st b→okS A ⟨st.T,st.H,st.nk,w1,st.lo,(n,w1.heap.size)::st.iv⟩ b∧w1.heap[b]?=st.w.heap[b]?:=by
  intro n w1 h1 h2 hfx b hb;refine⟨⟨⟨?_,hb.1.2⟩,Nat.lt_of_lt_of_le hb.2.1 hfx.size,hb.2.2⟩,hfx.block b hb.2.1 hb.2.2⟩;rcases hb.1.1 with h|⟨p,hp,h3⟩
  · exact .inl h
  · exact .inr ⟨p,List.mem_cons_of_mem _ hp,h3⟩
 have simOk:∀n w1,st.w.heap.size≤n→n≤w1.heap.size→Fx (bs st.H) st.w w1→Sim A ⟨st.T,st.H,st.nk,w1,st.lo,(n,w1.heap.size)::st.iv⟩ sy:=by
  intro n w1 h1 h2 hfx;obtain⟨T,H,nk⟩:=sy;exact hs.mono (fxok n w1 h1 h2 hfx) (fun _ _ h=>h) (fun _ _ h=>h) (fun _ _ h=>h) rfl hs.fT hs.fH
 unfold callY at h;split at h
 · exact h.elim
 · exact h.elim
 split at h
 · rename_i hcl;obtain⟨Qr,hd,hk⟩:=h.ex;refine⟨Value, .v,fun v n w1=>w0.heap.size≤n∧∃r,Qr r∧Rep (fun b=>(b<n∧okS A st b)∨(n≤b∧b<w1.heap.size)) w1 r v,fun wc hc=> ?_,fun v n w1 h1 h2 h3 hfx ⟨hw0,r,hq,hrp⟩=> ?_⟩
   · have hrep:=clean_repL (H:=st.H) _ _ (ha.now hc) hcl
     have hrep2:RepL (fun b=>b<wc.heap.size∧okS A st b) wc args (denL st.H args'):=by
      have:=clean_repL (H:=st.H) _ _ ha hcl;refine RepL.mono (fun b hb=>⟨⟨Nat.lt_of_lt_of_le hb.2.1 hc.fx.size,hb⟩,hc.fx.block b hb.2.1 hb.2.2⟩) _ _ this
     refine(hd _ wc _ hrep2 (fun b hb=>hb.1) (hA.giw hc)).mono fun e w' ⟨v,r,he,hq,hrp,hb⟩=> ?_
     exact⟨v,he,hb,hc.fx0.size,r,hq,hrp⟩
   · obtain⟨T',H',nk',w,lo,iv⟩:=st;refine putY_sim (hk r hq) (simOk n w1 h1 h2 hfx) (Rep.rel _ _ (Rep.mono (fun b hbk=>⟨?_,rfl⟩) _ _ hrp));rcases hbk with⟨_,hbk⟩|⟨h4,h5⟩
     · exact(fxok n w1 h1 h2 hfx b hbk).1
     · exact⟨⟨.inr ⟨_,List.mem_cons_self,h4,h5⟩,hA.a b (.inl (Nat.le_trans hw0 h4))⟩,h5,fun c hcb e=>by have:=h3 c hcb;omega⟩
 · split at h
   · rename_i sy' fa hfz;split at h
     · rename_i hcl;obtain⟨Qr,hd,hk⟩:=h.ex;refine⟨Value, .v,fun v n w1=>∃r,Qr r∧scal r=true∧Rep (fun _=>False) w1 r v,fun wc hc=> ?_,fun v n w1 h1 h2 h3 hfx ⟨r,hq,hsc,hrp⟩=> ?_⟩
       · have hcn:Cls (cx X w0 bor) (now st wc).H (now st wc).nk wc wc:=⟨Fx.refl _ _,hc.fx0,hc.own,hc.nd,hc.lb,hc.keys,hc.lt⟩;obtain⟨st1,args1,c1,a1,s1,b1,o1,g1,g2⟩:=fzAll_ok (Xx:=cx X w0 bor) hA.a _ hcn ⟨rfl,rfl,rfl⟩ (hs.now hc) (ha.now hc) hfz;have hrep:=clean_repL (H:=st1.H) _ _ g1 hcl;rw [g2]at hrep;refine(hd (okS A st1) wc _ hrep (fun b hb=>by have:=hb.2.1;rw [a1.1]at this;exact this) (hA.giw hc)).mono fun e w' ⟨v,r,he,hq,hrp,hb⟩=> ?_
         have hkr:=hk r hq;cases hsc:scal r with
         |true=>exact⟨v,he,hb,r,hq,hsc,scal_rep _ _ hrp hsc⟩
         |false=>rw [hsc]at hkr;exact hkr.elim
       · have hkr:=hk r hq;rw [hsc]at hkr;obtain⟨T',H',nk',w,lo,iv⟩:=st;exact putY_sim hkr (simOk n w1 h1 h2 hfx) (Rep.rel _ _ (scal_rep _ _ hrp hsc))
     · exact h.elim
   · exact h.elim
end
section
variable {A : Nat → Prop} {X : Cy} {w0 : World} {bor : List Nat} {st : St} {sy : Sy} {a : Act} {w : World}
theorem finY_sim (hA:AG A X.P w0 bor) {seq:Bool} {dst:Option Nat} {KY:Sy→Prop} {oy:OutY} {out:Out} (h:finY X seq sy dst KY oy) (hr:RelOut st.H (okS A st) st.w (keyS st) oy out) (hs:Sim A st sy) (hc:seq=false∨∀f args,out≠ .call f args):
 fin (cx X w0 bor) seq st dst (fun st'=>∃sy',KY sy'∧Sim A st' sy') out:=by
 cases oy with
 |val x=>
  cases out<;>try exact hr.elim
  exact putY_sim h hs hr.1
 |new cs ty sl=>
  cases out<;>try exact hr.elim
  rename_i cs' ty' sl';obtain⟨rfl,h2,rfl⟩:=hr;obtain⟨T',H',nk',w,lo,iv⟩:=st;obtain⟨T,H,nk⟩:=sy;have hnk:nk=nk':=hs.nk;subst hnk;simp only [fin,hs.fT nk (Nat.le_refl _),hs.fH nk (Nat.le_refl _),h2.ment (fun q=>not_key (st:=⟨T',H',nk,w,lo,iv⟩) (Nat.le_refl _) q)];refine .inl fun b hb hiv=> ?_
  refine putY_sim h (new_sim hs h2 hb hiv) ?_;cases sl with
  |none=>simp only [RelD,Option.map_none];exact⟨trivial,by simp only;omega,by simp⟩
  |some p=>obtain⟨z,n⟩:=p;simp only [RelD,Option.map_some];exact⟨trivial,by simp only;omega,by simp⟩
 |newR l ty z n=>
  cases out<;>try exact hr.elim
  rename_i cs' ty' sl';obtain⟨rfl,rfl,hlen,hnm,hfl,xs,rfl,hrep⟩:=hr;obtain⟨T',H',nk',w,lo,iv⟩:=st;obtain⟨T,H,nk⟩:=sy;have hnk:nk=nk':=hs.nk;subst hnk;simp only [fin,hs.fT nk (Nat.le_refl _),hs.fH nk (Nat.le_refl _),ment_vs];refine .inr ⟨n,z,⟨rfl,by rw [vs_length,←hrep.length,hlen],hnm,(RepL.rel (R:=keyS ⟨T',H',nk,w,lo,iv⟩) _ _ hrep).one (rowsR _) hfl⟩,fun b hb hiv=> ?_⟩;rw [denL_vs];refine putY_sim h (newR_sim hs hrep hfl hlen hb hiv) ?_;simp only [RelD];exact⟨trivial,by simp only;omega,fun _=>⟨_,by simp only [findE,Nat.beq_refl];rfl,rfl⟩⟩
 |call f args=>
  cases out<;>try exact hr.elim
  obtain⟨rfl,h2⟩:=hr;rcases hc with rfl|hc
  · simp only [finY]at h;split at h
    · exact h.elim
    · exact callY_draw hA hs h2 h
  · exact absurd rfl (hc _ _)
 |upd k cs=>
  cases out<;>try exact hr.elim
  obtain⟨rfl,h2⟩:=hr;obtain⟨T',H',nk',w,lo,iv⟩:=st;obtain⟨T,H,nk⟩:=sy;simp only [finY]at h;cases hf:findY H k with
  |none=>rw [hf]at h;exact h.elim
  |some e=>
   rw [hf]at h;cases e with
   |row=>exact h.elim
   |mp=>exact h.elim
   |blk cs0 ty=>
    obtain⟨e',hf',he⟩:=hs.H _ _ hf;cases e' with
    |row=>exact he.elim
    |mp=>exact he.elim
    |blk b cs' ty'=>
     simp only at hf';obtain⟨rfl,_⟩:=he;have h:=setY_elim h;simp only [fin,hf'];refine setE_intro hf' ?_;refine putY_sim h (upd_sim (e':= .blk b _ _) hs hf' (by exact⟨rfl,h2⟩) rfl (fun h=>by cases h) fun j hj=> ?_) (by simp only [RelD]);simp only [freshE,Bool.not_eq_true'];exact h2.ment (fun q=>not_key (st:=⟨T',H',nk',w,lo,iv⟩) hj q)
 |updR k l=>
  cases out<;>try exact hr.elim
  obtain⟨rfl,h2,h3,h6⟩:=hr;obtain⟨T',H',nk',w,lo,iv⟩:=st;obtain⟨T,H,nk⟩:=sy;simp only [finY]at h;cases hf:findY H k with
  |none=>rw [hf]at h;exact h.elim
  |some e=>
   rw [hf]at h;cases e with
   |blk=>exact h.elim
   |mp=>exact h.elim
   |row z n l0 ty=>
    obtain⟨e',hf',he⟩:=hs.H _ _ hf;cases e' with
    |blk=>exact he.elim
    |mp=>exact he.elim
    |row v n' xs z' ty'=>
     simp only at hf';obtain⟨rfl,rfl,rfl,h4,h5,h7⟩:=he;have h:=setY_elim h;simp only [fin,hf'];refine setE_intro hf' ?_;exact putY_sim h (upd_sim (e':= .row v n _ z ty) hs hf' (by exact⟨rfl,rfl,rfl,h2,h3,h6 _ _ _ _ _ hf'⟩) rfl (fun _=>rfl) fun j hj=>rfl) (by simp only [RelD])
 |app e esz bytes s x=>
  cases out<;>try exact hr.elim
  obtain⟨rfl,rfl,rfl,h4,h5⟩:=hr;exact app_sim h hs h4 h5
theorem guard_sim {ops:List Oper} {g:Option (Nat×Bool)} {yesY noY:Sy→Prop} {yes no:St→Prop} (h:guardY ops g sy yesY noY) (hs:Sim A st sy) (h1:∀st' sy',Sim A st' sy'→yesY sy'→yes st') (h2:∀st' sy',Sim A st' sy'→noY sy'→no st'):guardVC ops g st yes no:=by
 unfold guardY at h;split at h
 · exact h1 _ _ hs h
 · rename_i j want;split at h
   · rename_i d hd;obtain⟨T',H',nk',w,lo,iv⟩:=st;obtain⟨T,H,nk⟩:=sy
     have ext:∀b:Bool,Sim A ⟨(d, .v (.bool b))::T',H',nk',w,lo,iv⟩ ⟨(d, .v (.bool b))::T,H,nk⟩:=by
      intro b;refine⟨fun d' x hx=> ?_,hs.H,hs.nk,fun j hj=> ?_,hs.fH⟩
      · simp only [lookY]at hx;simp only [look];cases hb:Nat.beq d d' with
        |true=>rw [hb]at hx;cases hx;exact .inr ⟨_,rfl,by simp only [RelD];exact⟨trivial,rfl⟩⟩
        |false=>rw [hb]at hx;exact hs.T d' x hx
      · simp only [freshT,ment];exact hs.fT j hj
     split at h
     · rename_i b hl;obtain⟨hlt,hl⟩:=lookRY_some hl;rcases hs.T d _ hl with e|⟨s,h3,h4⟩
       · cases e
       · have:=h4.sc;subst this;simp only at h3;simp only [guardVC,hd,lookR_of hlt,h3];cases b<;>cases want<;>simp only [VIf]at h⊢
         · exact h1 _ _ (ext false) h
         · exact h2 _ _ (ext false) h
         · exact h2 _ _ (ext true) h
         · exact h1 _ _ (ext true) h
     · rename_i hl;obtain⟨hlt,hl⟩:=lookRY_some hl;rcases hs.T d _ hl with e|⟨s,h3,h4⟩
       · cases e
       · simp only [RelD]at h4;subst h4;simp only at h3;simp only [guardVC,hd,lookR_of hlt,h3,undef];exact h2 _ _ hs h
     · exact h.elim
   · exact h.elim
theorem zOK (hP:POK X.P X.tt):∀t i,getT X.tt t=some i→(∀x,x∈i.z→oneV x=true)∧i.z.length=i.n:=fun t i h=>⟨fun x hx=>by rw [oneV_is];exact(hP.tt t i h).zo x hx,(hP.tt t i h).zn⟩
theorem tag_sim {x:D} {s:SV} {ok:Nat→Prop} {R:Bool→Nat→Prop} (h:RelD ok w R x s) (hne:x≠ .bad):tagY x=tagOf s:=by
 cases x<;>simp only [RelD]at h
 · rw [h.1];rfl
 · obtain⟨cs,h,_⟩:=h;cases s<;>simp [aggL]at h<;>rfl
 · obtain⟨y,rfl,_⟩:=h;rfl
 · obtain⟨y,rfl,_⟩:=h;rfl
 · rw [h.1];rfl
 · rw [h.1];rfl
 · rw [h.1];rfl
 · rw [h.1];rfl
 · rw [h.1];rfl
 · rcases h with⟨cs,rfl,_⟩|⟨cs,rfl,_⟩<;>rfl
 · rcases h with⟨cs,_,rfl,_⟩|⟨cs,_,rfl,_⟩<;>rfl
 · obtain⟨y,rfl,_⟩:=h;rfl
 · rw [h];rfl
 · exact absurd rfl hne
theorem rd_sim {fl:Bool} {i:Nat} {op:Op} {pr:List (Nat×Option Nat)} {K K':List (Nat×Option Nat)→Prop} (h:rdY fl i op sy pr K) (hs:Sim A st sy) (hK:∀pr,K pr→K' pr):rdP (cx X w0 bor) fl i op st pr K':=by
 unfold rdY at h;split at h
 · rename_i t p;split at h
   · rename_i x hx;obtain⟨s,h1,h2,h3⟩:=evY_sim hs hx;have ht:=tag_sim h2 h3;split at h
     · rename_i k hk;rw [hk]at ht;simp only [rdP,h1,←ht];exact hK _ h
     · rename_i hk;rw [hk]at ht;simp only [rdP,h1,←ht];split at h
       · simp only [RelD,Rep]at h2;obtain⟨y,rfl,b,p,xs,rfl,hok,_⟩:=h2;cases fl with
         |false=>exact hK _ h
         |true=>exact⟨.inr (by rcases hok.1.1 with h|h;exact .inl h;exact .inr h),hK _ h⟩
       · exact h.elim
   · exact h.elim
 · rename_i _ m _ _;split at h
   · rename_i k z0 hx;obtain⟨s,h1,h2,_⟩:=evY_sim hs hx;simp only [RelD]at h2;obtain⟨rfl,_⟩:=h2;simp only [rdP,h1];exact hK _ h
   · exact h.elim
 · rename_i hno hnl;unfold rdP;split
   · rename_i t p;exact absurd rfl (hno t p)
   · exact absurd rfl (hnl _ _ _ _)
   · exact hK _ h
theorem appkey_sim {ok:Nat→Prop} {R:Bool→Nat→Prop} {e z b:Nat} {s x:D} {s' x':SV} (h4:RelD ok w R s s'):keyOfY (.app e z b s x)=keyOf (.app e z b s' x'):=by
 cases s<;>simp only [RelD]at h4
 · rw [h4.1];rfl
 · obtain⟨cs,h,_⟩:=h4;cases s'<;>simp [aggL]at h<;>rfl
 · obtain⟨y,rfl,_⟩:=h4;rfl
 · obtain⟨y,rfl,_⟩:=h4;rfl
 · rw [h4.1];rfl
 · rw [h4.1];rfl
 · rw [h4.1];rfl
 · rw [h4.1];rfl
 · rw [h4.1];rfl
 · rcases h4 with⟨cs,rfl,_⟩|⟨cs,rfl,_⟩<;>rfl
 · rcases h4 with⟨cs,_,rfl,_⟩|⟨cs,_,rfl,_⟩<;>rfl
 · obtain⟨y,rfl,_⟩:=h4;rfl
 · rw [h4];rfl
 · rw [h4];rfl
theorem key_sim {oy:OutY} {out:Out} {ok:Nat→Prop} {R:Bool→Nat→Prop} (h:RelOut st.H ok w R oy out):keyOfY oy=keyOf out∨(keyOfY oy=none∧∃e z b s x,out= .app e z b s x∧keyOf out=none):=by
 cases oy<;>cases out<;>try exact h.elim
 · exact .inl rfl
 · exact .inl rfl
 · exact .inl rfl
 · exact .inl rfl
 · obtain⟨rfl,_⟩:=h;exact .inl rfl
 · obtain⟨rfl,_⟩:=h;exact .inl rfl
 · obtain⟨rfl,rfl,rfl,h4,_⟩:=h;left;exact appkey_sim h4
theorem fin_mono {Xx:Cx} {seq:Bool} {dst:Option Nat} {out:Out} {K K':St→Prop} (h:fin Xx seq st dst K out) (hk:∀st',K st'→K' st'):fin Xx seq st dst K' out:=by
 obtain⟨T,H,nk,ws,lo,iv⟩:=st;cases out with
 |val s=>exact put_mono h hk
 |new cs ty sl=>
  simp only [fin]at h⊢;cases h1:freshT nk T with
  |false=>rw [h1]at h;exact h.elim
  |true=>cases h2:freshH nk H with
   |false=>rw [h1,h2]at h;exact h.elim
   |true=>cases h3:mentL nk cs with
    |true=>rw [h1,h2,h3]at h;exact h.elim
    |false=>
     rw [h1,h2,h3]at h;rcases h with h|⟨n,sz,h0,h⟩
     · exact .inl fun b hb hiv=>put_mono (h b hb hiv) hk
     · exact .inr ⟨n,sz,h0,fun b hb hiv=>put_mono (h b hb hiv) hk⟩
 |call f args=>
  obtain⟨ι,r,φ,h1,h2⟩:=h.ex;refine⟨ι,r,φ,h1,fun i n w1 a1 a2 a3 a4 a5=> ?_⟩;have:=h2 i n w1 a1 a2 a3 a4 a5;cases seq
  · exact put_mono this hk
  · exact put_mono this hk
 |upd k cs=>
  unfold fin at h⊢;simp only at h⊢;cases hf:findE H k with
  |none=>rw [hf]at h;exact h.elim
  |some e=>
   rw [hf]at h;cases e with
   |row=>exact h.elim
   |mp=>exact h.elim
   |blk=>exact setE_mono h fun H' hh=>put_mono hh hk
 |updR k xs=>
  unfold fin at h⊢;simp only at h⊢;cases hf:findE H k with
  |none=>rw [hf]at h;exact h.elim
  |some e=>
   rw [hf]at h;cases e with
   |blk=>exact h.elim
   |mp=>exact h.elim
   |row=>exact setE_mono h fun H' hh=>put_mono hh hk
 |app e esz bytes s x=>
  obtain⟨k,n,m,v,xs,news,h0,h1⟩:=AppVC.ex h
  have reM:∀ {w1:World} {A B:List (Nat×SV)→Hp→Nat→World→Nat→List (Nat×Nat)→Prop},(∀T H nk w lo iv,A T H nk w lo iv→B T H nk w lo iv)→reW seq ⟨T,H,nk,ws,lo,iv⟩ w1 A→reW seq ⟨T,H,nk,ws,lo,iv⟩ w1 B:=by
   intro w1 A B hAB hA;cases seq
   · exact hAB _ _ _ _ _ _ hA
   · exact hAB _ _ _ _ _ _ hA
  refine AppVC.mk ⟨k,n,m,v,xs,news,h0, ?_⟩;rcases h1 with⟨g1,g2,h1⟩|⟨g1,g2,h1⟩|⟨g1,g2,h1⟩|⟨g1,g2,h1,h1'⟩
  · exact .inl ⟨g1,g2,fun v' w1 a1 a2 a3=>reM (fun _ _ _ _ _ _ ⟨b1,b2,b3⟩=>⟨b1,b2,put_mono b3 hk⟩) (h1 v' w1 a1 a2 a3)⟩
  · exact .inr (.inl ⟨g1,g2,fun v' w1 a1 a2 a3=>reM (fun _ _ _ _ _ _ b=>setE_mono b fun H' hh=>by rw [hideK_eq]at hh⊢;exact put_mono hh hk) (h1 v' w1 a1 a2 a3)⟩)
  · exact .inr (.inr (.inl ⟨g1,g2,fun v' w1 a1 a2 a3=>reM (fun _ _ _ _ _ _ b=>setE_mono b fun H' hh=>by rw [hideK_eq]at hh⊢;exact put_mono hh hk) (h1 v' w1 a1 a2 a3)⟩))
  · exact .inr (.inr (.inr ⟨g1,g2,fun a=>put_mono (h1 a) hk,fun a v' w1 a1 a2 a3=>reM (fun _ _ _ _ _ _ ⟨b1,b2,b3⟩=>⟨b1,b2,put_mono b3 hk⟩) (h1' a v' w1 a1 a2 a3)⟩))
theorem finPY_sim (hA:AG A X.P w0 bor) {i:Nat} {S:List Nat} {fl:Bool} {pr:List (Nat×Option Nat)} {o:Oper} {K:Sy→List (Nat×Option Nat)→Prop} {K':St→List (Nat×Option Nat)→Prop} {oy:OutY} {out:Out} (h:finPY X i S fl pr o sy K oy)
 (hr:RelOut st.H (okS A st) st.w (keyS st) oy out) (hs:Sim A st sy) (hK:∀st' sy' pr,Sim A st' sy'→K sy' pr→K' st' pr):finP (cx X w0 bor) i S fl pr o st K' out:=by
 have mono:∀(seq:Bool) (dst:Option Nat) (out:Out),fin (cx X w0 bor) seq st dst (fun st'=>∃sy',K sy' pr∧Sim A st' sy') out→fin (cx X w0 bor) seq st dst (fun st'=>K' st' pr) out:=fun seq dst out h=>fin_mono h fun st' ⟨sy',h1,h2⟩=>hK st' sy' pr h2 h1
 unfold finPY at h;unfold finP;split at h
 · rename_i hv;simp only [hv];cases oy<;>try exact h.elim
   cases out<;>try exact hr.elim
   refine rd_sim h hs fun pr hp=> ?_
   exact put_mono (putY_sim hp hs hr.1) fun st' ⟨sy',h1,h2⟩=>hK st' sy' pr h2 h1
 · rename_i hv;simp only [hv];split at h
   · rename_i ha;simp only [ha];cases oy<;>try exact h.elim
     · cases out<;>try exact hr.elim
       rename_i cs ty sl cs' ty' sl';cases sl with
       |none=>
        obtain⟨rfl,h2,rfl⟩:=hr;exact mono _ _ _ (finY_sim hA h (by exact⟨rfl,h2,rfl⟩) hs (.inl rfl))
       |some p=>exact h.elim
     · cases out<;>try exact hr.elim
       exact mono _ _ _ (finY_sim hA h hr hs (.inl rfl))
   · rename_i ha;simp only [ha];split at h
     · rename_i hc;simp only [hc];cases oy<;>try exact h.elim
       cases out<;>try exact hr.elim
       exact mono _ _ _ (finY_sim hA h hr hs (.inl rfl))
     · rename_i hc;simp only [hc]
       have hk:keyOfY oy=keyOf out:=by
        rcases key_sim hr with h|⟨h1,_,_,_,_,_,_,h2⟩
        · exact h
        · rw [h1,h2]
       cases oy<;>try exact h.elim
       all_goals (cases out<;>try exact hr.elim)
       all_goals (
        have h':=h
        try simp only at h'
        try simp only
        rw [hk]at h';split
        · rename_i k hkk;rw [hkk]at h';simp only at h';cases hse:sepB pr S k with
          |true=>rw [hse]at h';exact mono _ _ _ (finY_sim hA h' hr hs (.inl rfl))
          |false=>rw [hse]at h';exact h'.elim
        · rename_i hkk;rw [hkk]at h';exact mono _ _ _ (finY_sim hA h' hr hs (.inl rfl)))
end
end Go.Sx
