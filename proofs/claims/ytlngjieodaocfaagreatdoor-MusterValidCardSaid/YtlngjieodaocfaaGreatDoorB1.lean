/- The walk over pure data: its definitions, that it is sound, and what may be read at a type. -/
import Derived.Test.YtlngjieodaocfaaGreatDoorA2
set_option linter.unusedVariables false
set_option linter.unusedSimpArgs false
namespace Go.Sx
open Go Go.RowKit
inductive D where
 |v (x:Value)
 |agg (l:List D)
 |lst (z n:Nat) (l:List D)
 |ptr (l:List D) (o:Nat)
 |own (k o:Nat)
 |ownx (k o:Nat)
 |row (k z:Nat)
 |elr (k z i o:Nat)
 |osl (k o z n c:Nat)
 |tup (l:List D)
 |fn (f:FuncId) (first caps:List D)
 |mp (l:List (Int×Nat))
 |und
 |bad
inductive E where
 |blk (cs:List D) (ty:TypeId)
 |row (z n:Nat) (l:List D) (ty:TypeId)
abbrev Hy:=List (Nat×E)
structure Sy where
 T:List (Nat×D)
 H:Hy
 nk:Nat
structure Cy where
 P:Program
 tt:List (Nat×TI)
 nt:Nat
 pl:List (Nat×PT)
 ln:List Nat:= []
 un:List Nat:= []
 dfs:List Deferred:= []
 inl:List Nat:= []
 sv:List Value:= []
def j3:Hy→Nat→Option E
 | [],_=>none
 |(k',e)::H,k=>match Nat.beq k' k with|true=>some e|false=>j3 H k
def s7:List (Nat×D)→Nat→Option D
 | [],_=>none
 |(d,s)::T,k=>match Nat.beq d k with|true=>some s|false=>s7 T k
def a5B:D→Bool
 | .v _=>true
 | .lst _ _ _=>true
 | .ptr _ _=>true
 | .own _ _=>true
 | .ownx _ _=>true
 | .row _ _=>true
 | .elr _ _ _ _=>true
 | .osl _ _ _ _ _=>true
 | .fn _ _ _=>true
 | .mp _=>true
 |_=>false
def A9:List D→Bool
 | []=>true
 |d::l=>match a5B d with|true=>A9 l|false=>false
def ofV:Value→Option D
 | .agg a=>match a.toList.all a5V with|true=>some (.agg (a.toList.map .v))|false=>none
 | .tuple _=>none
 |x=>some (.v x)
def b0W (T:List (Nat×D)) (d:Nat):Option D:=match Nat.blt d 1000000 with|true=>s7 T d|false=>none
theorem a3H {T:List (Nat×D)} {d:Nat} {s:D} (h:b0W T d=some s):d<N8∧s7 T d=some s:=by
 unfold b0W at h
 split at h
 · rename_i hb;exact⟨by simpa [Nat.blt_eq]using hb,h⟩
 · cases h
theorem a7v {T:List (Nat×SV)} {d:Nat} (h:d<N8):b1r T d=y0 T d:=by
 unfold b1r
 rw [show Nat.blt d 1000000=true by simpa [Nat.blt_eq]using h]
def evY (st:Sy):Operand→Option D
 | .tmp t=>match b0W st.T t with|some .bad=>none|r=>r
 | .const v=>ofV v
 | .func f=>some (.fn f [] [])
 | .global _=>none
def a8T (st:Sy):List Operand→Option (List D)
 | []=>some []
 |x::l=>match evY st x,a8T st l with|some s,some r=>some (s::r)|_,_=>none
def takeD:Nat→List D→Option (List D)
 |0,_=>some []
 |_+1, []=>none
 |_+1, .bad::_=>none
 |n+1,x::l=>match takeD n l with|some r=>some (x::r)|none=>none
def dropD:Nat→List D→List D
 |0,l=>l
 |_+1, []=> []
 |n+1,_::l=>dropD n l
def mkD (agg:Bool) (l:List D):Option D:=
 match agg,l with
 |true,l=>match A9 l with|true=>some (.agg l)|false=>none
 |false, [x]=>match a5B x with|true=>some x|false=>none
 |false,_=>none
def b0D:D→Option (List D)
 | .agg l=>some l
 | .tup _=>none
 | .und=>none
 | .bad=>none
 |s=>some [s]
def c4Q:D→Option (List D)
 | .agg l=>some l
 |_=>none
def b2q:Bool→D→Option (List D)
 |true, .agg l=>some l
 |false, .v (.bool b)=>some [.v (.bool b)]
 |_,_=>none
def c1D:CK→D→D→Option Bool
 | .int k, .v (.int ka a), .v (.int kb b)=>match kEq k ka,kEq k kb with|true,true=>some (a==b)|_,_=>none
 | .bool, .v (.bool a), .v (.bool b)=>some (a==b)
 | .str, .v (.string a), .v (.string b)=>some (a.toList==b.toList)
 |_,_,_=>none
def a7d:List CK→List D→List D→Option Bool
 | [], [], []=>some true
 | [k], [x], [y]=>c1D k x y
 |k::ks,x::l,y::r=>match c1D k x y,a7d ks l r with|some a,some b=>some (a&&b)|_,_=>none
 |_,_,_=>none
def b4q:D→Bool
 | .v _=>true
 | .lst _ _ _=>true
 | .ptr _ _=>true
 |_=>false
def Y6:List D→Bool
 | []=>true
 |d::l=>match b4q d with|true=>Y6 l|false=>false
inductive a7g where
 |val (s:D)
 |new (cs:List D) (ty:TypeId) (sl:Option (Nat×Nat))
 |newR (l:List D) (ty:TypeId) (z n:Nat)
 |call (f:FuncId) (args:List D)
 |upd (key:Nat) (cs:List D)
 |updR (key:Nat) (l:List D)
 |app (e esz bytes:Nat) (s x:D)
def el (l:List D) (z i:Nat):List D:=(l.drop (i*z)).take z
def a9J (l:List D) (z i:Nat) (cs:List D):List D:=l.take (i*z)++cs++l.drop (i*z+z)
def a4H (K:a7g→Prop):Option D→Prop
 |some s=>K (.val s)
 |none=>False
def b1s (K:a7g→Prop):Out→Prop
 | .val (.v x)=>match a5V x with|true=>K (.val (.v x))|false=>False
 |_=>False
def b8W (st:Sy) (len cap:Nat) (lo hi mx:Option Operand) (K:Nat→Nat→Nat→Prop):Prop:=
 match mx with
 |none=>match hi with
  |none=>match lo with
   |none=>K 0 len cap
   |some l=>match evY st l with
    |some (.v (.int _ z))=>(0≤z∧z≤len)∧K z.toNat len cap
    |_=>False
  |some h=>match evY st h with
   |some (.v (.int _ y))=>(0≤y∧y≤cap)∧match lo with
    |none=>K 0 y.toNat cap
    |some l=>match evY st l with
     |some (.v (.int _ z))=>(0≤z∧z≤y)∧K z.toNat y.toNat cap
     |_=>False
   |_=>False
 |some _=>False
def b2X (X:Cy) (st:Sy) (b:Builtin) (args:List Operand) (tys:List TypeId) (K:a7g→Prop):Prop:=
 match b,tys with
 | .len,t::_=>match I8 X.tt t,a8T st args with
  |some ⟨_,_,_,_, .slice _ _ _⟩,some [.v (.slice none 0 0)]=>K (.val (.v (.int .i64 0)))
  |some ⟨_,_,_,_, .slice _ _ _⟩,some [.lst _ n _]=>K (.val (.v (.int .i64 n)))
  |some ⟨_,_,_,_, .slice _ _ _⟩,some [.osl _ _ _ n _]=>K (.val (.v (.int .i64 n)))
  |some ⟨_,_,_,_, .slice _ _ _⟩,some [.row k _]=>match j3 st.H k with
   |some (.row _ n _ _)=>K (.val (.v (.int .i64 n)))
   |_=>False
  |some ⟨_,_,_,_, .str⟩,some [.v (.string s)]=>K (.val (.v (.int .i64 s.size)))
  |_,_=>False
 | .max,_=>match a8T st args with
  |some [.v (.int ka a), .v (.int _ b)]=>K (.val (.v (.int ka (if b>a then b else a))))
  |some [.v (.int ka a), .v (.int _ b), .v (.int _ c)]=>K (.val (.v (.int ka (if c>(if b>a then b else a)then c else(if b>a then b else a)))))
  |_=>False
 | .min,_=>match a8T st args with
  |some [.v (.int ka a), .v (.int _ b)]=>K (.val (.v (.int ka (if b<a then b else a))))
  |_=>False
 | .append,t::u::_=>match Nat.beq t u,I8 X.tt t,a8T st args with
  |true,some ⟨_,_,_,_, .slice e esz bytes⟩,some [s,x]=>match I8 X.tt e with
   |some i=>match Nat.beq i.n esz with
    |true=>K (.app e esz bytes s x)
    |false=>False
   |none=>False
  |_,_,_=>False
 |_,_=>False
def b8U (X:Cy) (fs:List (Nat×Nat×Nat)) (f:Nat) (s:D) (K:a7g→Prop):Prop:=
 match a9x fs f,c4Q s with
 |some (fty,off,n),some l=>match I8 X.tt fty,takeD n (dropD off l)with
  |some i,some r=>match Nat.beq i.n n with
   |true=>a4H K (mkD i.agg r)
   |false=>False
  |_,_=>False
 |_,_=>False
def b3v (fs:List (Nat×Nat×Nat)) (st:Sy):List (Nat×Operand)→List D→Option (List D)
 | [],l=>some l
 |(i,x)::ps,l=>match a9x fs i,evY st x with
  |some (_,off,n),some s=>match b0D s with
   |some cs=>match Nat.beq cs.length n,A9 cs with
    |true,true=>match over off cs l with
     |some r=>b3v fs st ps r
     |none=>none
    |_,_=>none
   |none=>none
  |_,_=>none
def a5I (esz:Nat) (st:Sy):List (Nat×Operand)→List D→Option (List D)
 | [],l=>some l
 |(i,x)::ps,l=>match evY st x with
  |some s=>match b0D s with
   |some cs=>match Nat.beq cs.length esz,A9 cs with
    |true,true=>match over (i*esz) cs l with
     |some r=>a5I esz st ps r
     |none=>none
    |_,_=>none
   |none=>none
  |_=>none
def b1L:Nat→List D→List D
 |0,_=> []
 |n+1,l=>l++b1L n l
def vD:List Value→List D
 | []=> []
 |x::l=> .v x::vD l
def c2d (st:Sy) (i:TI) (p:D) (K:a7g→Prop):Prop:=
 match p with
 | .own k o=>match j3 st.H k with
  |some (.blk cs _)=>match takeD i.n (dropD o cs)with
   |some l=>a4H K (mkD i.agg l)
   |none=>False
  |_=>False
 | .ownx k o=>match j3 st.H k with
  |some (.blk cs _)=>∃l,(takeD i.n (dropD o cs)=some l)∧a4H K (mkD i.agg l)
  |_=>False
 | .elr k z j o=>match j3 st.H k with
  |some (.row z' n l _)=>match Nat.beq z' z with
   |true=>∃cs,(el l z j=cs∧j<n)∧match takeD i.n (dropD o cs),Nat.ble (o+i.n) z with
    |some l,true=>a4H K (mkD i.agg l)
    |_,_=>False
   |false=>False
  |_=>False
 | .ptr l o=>match takeD i.n (dropD o l)with
  |some l=>a4H K (mkD i.agg l)
  |none=>False
 |_=>False
def b8C (st:Sy) (i:TI) (p s:D) (K:a7g→Prop):Prop:=
 match b0D s with
 |some l=>match Nat.beq l.length i.n,A9 l with
  |true,true=>match p with
   | .own k o=>match j3 st.H k with
    |some (.blk cs _)=>match over o l cs with
     |some cs'=>K (.upd k cs')
     |none=>False
    |_=>False
   | .ownx k o=>match j3 st.H k with
    |some (.blk cs _)=>∃cs',over o l cs=some cs'∧K (.upd k cs')
    |_=>False
   | .elr k z j o=>match j3 st.H k with
    |some (.row z' n r _)=>match Nat.beq z' z,Y6 l with
     |true,true=>∃cs,(el r z j=cs∧j<n)∧match over o l cs with
      |some cs'=>∃r',a9J r z j cs'=r'∧K (.updR k r')
      |none=>False
     |_,_=>False
    |_=>False
   |_=>False
  |_,_=>False
 |none=>False
def b2d (s:D) (off:Nat):Option D:=
 match s with
 | .own k o=>some (.own k (o+off))
 | .ownx k o=>some (.ownx k (o+off))
 | .elr k z i o=>some (.elr k z i (o+off))
 | .ptr l o=>some (.ptr l (o+off))
 |_=>none
def b3K (s:D) (off:Nat):Option D:=
 match s with
 | .own k o=>some (.ownx k (o+off))
 | .ownx k o=>some (.ownx k (o+off))
 |_=>none
def a7O:List (Int×Nat)→Int→Option Nat
 | [],_=>none
 |(k,f)::l,i=>match i==k with|true=>some f|false=>a7O l i
def y1 (X:Cy) (st:Sy) (op:Op) (K:a7g→Prop):Prop:=
 match op with
 | .move x=>a4H K (evY st x)
 | .assign x=>a4H K (evY st x)
 | .pick c a b=>match evY st c with
  |some (.v (.bool t))=>VIf t (a4H K (evY st a)) (a4H K (evY st b))
  |_=>False
 | .alloc t=>match I8 X.tt t with
  |some i=>K (.new (vD i.z) t none)
  |none=>False
 | .box t x=>match I8 X.tt t,evY st x with
  |some _,some s=>match b0D s with
   |some l=>match A9 l with|true=>K (.new l t none)|false=>False
   |none=>False
  |_,_=>False
 | .load t p=>match I8 X.tt t,evY st p with
  |some i,some s=>c2d st i s K
  |_,_=>False
 | .store t p x=>match I8 X.tt t,evY st p,evY st x with
  |some i,some q,some s=>b8C st i q s K
  |_,_,_=>False
 | .nilCheck p=>match evY st p with
  |some (.own k o)=>K (.val (.own k o))
  |some (.ownx k o)=>K (.val (.ownx k o))
  |some (.elr k z i o)=>K (.val (.elr k z i o))
  |some (.ptr l o)=>K (.val (.ptr l o))
  |_=>False
 | .fieldAddr t p f=>match I8 X.tt t,evY st p with
  |some ⟨_,_,_,_, .struct fs⟩,some s=>match a9x fs f with
   |some (_,off,_)=>a4H K (b2d s off)
   |none=>False
  |_,_=>False
 | .field t x f=>match I8 X.tt t,evY st x with
  |some ⟨_,_,_,_, .struct fs⟩,some s=>b8U X fs f s K
  |_,_=>False
 | .indexAddr t x ix=>match I8 X.tt t,evY st x,evY st ix with
  |some ⟨_,_,_,_, .slice _ esz _⟩,some (.lst z n l),some (.v (.int _ i))=>match Nat.beq z esz with
   |true=>∃cs,(el l z i.toNat=cs∧0≤i∧i<n)∧K (.val (.ptr cs 0))
   |false=>False
  |some ⟨_,_,_,_, .slice _ esz _⟩,some (.osl k o z n _),some (.v (.int _ i))=>match Nat.beq z esz with
   |true=>(0≤i∧i<n)∧K (.val (.ownx k (o+i.toNat*z)))
   |false=>False
  |some ⟨_,_,_,_, .slice _ esz _⟩,some (.row k z),some (.v (.int _ i))=>match Nat.beq z esz,j3 st.H k with
   |true,some (.row z' n _ _)=>match Nat.beq z' z with
    |true=>(0≤i∧i<n)∧K (.val (.elr k z i.toNat 0))
    |false=>False
   |_,_=>False
  |some ⟨_,_,_,_, .slice _ _ _⟩,some (.v (.slice none 0 0)),some (.v (.int _ i))=>0≤i∧i<0
  |some ⟨_,_,_,_, .arr len _ esz⟩,some s,some (.v (.int _ z))=>
   (0≤z∧z<len)∧a4H K (match c0j ix with|true=>b2d s (z.toNat*esz)|false=>b3K s (z.toNat*esz))
  |_,_,_=>False
 | .index t x ix=>match I8 X.tt t,evY st x,evY st ix with
  |some ⟨_,_,_,_, .str⟩,some (.v (.string s)),some (.v (.int _ z))=>
   ∃c,(0≤z∧s.data.toList[z.toNat]?=some c)∧K (.val (.v (.int .u8 c.toNat)))
  |some ⟨_,_,_,_, .arr len ety esz⟩,some s,some (.v (.int _ z))=>match c4Q s,I8 X.tt ety with
   |some l,some i=>(0≤z∧z<len)∧match Nat.beq i.n esz,takeD i.n (dropD (z.toNat*esz) l)with
    |true,some r=>a4H K (mkD i.agg r)
    |_,_=>False
   |_,_=>False
  |_,_,_=>False
 | .binOp op t x y _=>match evY st x,evY st y with
  |some (.v (.int ka a)),some (.v (.int kb b))=>match c5S op,kEq ka kb with
   |true,_=>b9b op ka a b (b1s K)
   |false,true=>b3x op ka a b (b1s K)
   |false,false=>False
  |some (.v (.string a)),some (.v (.string b))=>b3J op a b (b1s K)
  |some s,some r=>match I8 X.tt t with
   |some ⟨_,agg,_,some ks,_⟩=>match b2q agg s,b2q agg r with
    |some l,some m=>match a7d ks l m with
     |some e=>a4W op e (b1s K)
     |none=>False
    |_,_=>False
   |some ⟨_,_,_,none, .slice _ _ _⟩=>match s,r with
    | .lst _ n _, .v (.slice none 0 0)=>∀b:Bool,(b=true→n=0)→a4W op b (b1s K)
    | .v (.slice none 0 0), .v (.slice none 0 0)=>a4W op true (b1s K)
    |_,_=>False
   |_=>False
  |_,_=>False
 | .unOp op _ x=>match op,evY st x with
  | .not,some (.v (.bool b))=>K (.val (.v (.bool (!b))))
  | .neg,some (.v (.int k a))=>K (.val (.v (.int k (k.wrap (0-a)))))
  |_,_=>False
 | .convert src dst x=>match I8 X.tt src,I8 X.tt dst,evY st x with
  |some _,some ⟨_,_,_,some [.int k], .int⟩,some (.v (.int _ n))=>K (.val (.v (.int k (k.wrap n))))
  |_,_,_=>False
 | .extract x n=>match evY st x with
  |some (.tup l)=>match dropD n l with| .bad::_=>False|s::_=>K (.val s)| []=>False
  |_=>False
 | .makeFunc fn first caps=>match fn,a8T st first.toList,a8T st caps.toList with
  | .func f,some l,some c=>K (.val (.fn f l c))
  |_,_,_=>False
 | .build t ps=>match I8 X.tt t with
  |some ⟨_,_,z,_, .struct fs⟩=>match b3v fs st ps.toList (vD z)with
   |some l=>match A9 l with|true=>K (.val (.agg l))|false=>False
   |none=>False
  |some ⟨_,_,z,_, .arr _ _ esz⟩=>match a5I esz st ps.toList (vD z)with
   |some l=>match A9 l with|true=>K (.val (.agg l))|false=>False
   |none=>False
  |_=>False
 | .buildSlice t n ps=>match I8 X.tt t with
  |some ⟨_,_,_,_, .slice e esz _⟩=>match I8 X.tt e with
   |some i=>match Nat.ble (n*esz) 16777216,Nat.beq i.n esz,a5I esz st ps.toList (b1L n (vD i.z))with
    |true,true,some l=>match Y6 l,Nat.ble n 16777216 with
     |true,true=>∃l' n',(l=l'∧n=n')∧K (.newR l' e esz n')
     |_,_=>K (.new l e (some (esz,n)))
    |_,_,_=>False
   |none=>False
  |_=>False
 | .makeSlice t l c=>match I8 X.tt t,evY st l,evY st c with
  |some ⟨_,_,_,_, .slice e esz bytes⟩,some (.v (.int _ p)),some (.v (.int _ q))=>match I8 X.tt e with
   |some i=>match Nat.beq i.n esz with
    |true=>(p=q∧0≤p∧(bytes:Int)*p≤281474976710656∧p≤9223372036854775807)∧∃l' n',(b1L p.toNat (vD i.z)=l'∧p.toNat=n')∧K (.newR l' e esz n')
    |false=>False
   |none=>False
  |_,_,_=>False
 | .slice t x lo hi mx=>match I8 X.tt t,evY st x with
  |some ⟨_,_,_,_, .slice _ esz _⟩,some (.lst z n l)=>match Nat.beq z esz with
   |true=>b8W st n n lo hi mx fun a h _=>∃r,(l.drop (a*z)).take ((h-a)*z)=r∧K (.val (.lst z (h-a) r))
   |false=>False
  |some ⟨_,_,_,_, .slice _ esz _⟩,some (.row k z)=>match Nat.beq z esz,j3 st.H k with
   |true,some (.row _ n _ _)=>0<n∧b8W st n n lo hi mx fun a h _=>∀o,(h-a=0∨o=a*z)∧(a=0→o=0)→K (.val (.osl k o z (h-a) a))
   |_,_=>False
  |some ⟨_,_,_,_, .str⟩,some (.v (.string s))=>
   b8W st s.size s.size lo hi mx fun l h _=>K (.val (.v (.string (s.extract l h))))
  |_,_=>False
 | .lookup t x ix ok=>match ok,evY st x,evY st ix with
  |false,some (.mp l),some (.v (.int .i64 i))=>(∃kt et,X.P.underlying t=some (.map kt et)∧X.P.underlying kt=some (.int .i64))∧∃f,a7O l i=some f∧K (.val (.fn f [] []))
  |_,_,_=>False
 | .call c=>match c.callee with
  | .value f=>match evY st f,a8T st c.args.toList with
   |some (.fn g l caps),some args=>K (.call g (l++(args++caps)))
   |_,_=>False
  | .builtin b=>b2X X st b c.args.toList c.argTypes.toList K
  |_=>False
 |_=>False
end Go.Sx
namespace Go.Sx
open Go Go.RowKit
mutual
def Rep (ok:Nat→Prop) (w:World):D→Value→Prop
 | .v x,y=>y=x∧a5V x=true
 | .agg l,y=>∃a,y= .agg a∧d6 ok w l a.toList∧A9 l=true
 | .lst z n l,y=>∃a c,y= .slice a n c∧n≤c∧(n:Int)≤9223372036854775807∧l.length=n*z∧A9 l=true∧
  (c=0∨∃b o xs,a=some ⟨b,o,none⟩∧ok b∧d6 ok w l xs∧∀j,j<n*z→w.cell? ⟨b,o+j,none⟩=xs[j]?)
 | .ptr l o,y=>∃b p xs,y= .pointer (some ⟨b,p+o,none⟩)∧ok b∧A9 l=true∧d6 ok w l xs∧∀j,j<l.length→w.cell? ⟨b,p+j,none⟩=xs[j]?
 | .fn f a b,y=>∃p q,y= .func (.func f) p q∧d6 ok w a p.toList∧d6 ok w b q.toList
 | .tup l,y=>∃a,y= .tuple a∧d6 ok w l a.toList
 | .mp l,y=>∃r es c,y= .map (some r)∧ok r∧w.heap[r]?=some (.map es c)∧es.toList.map (fun e=>(e.key,e.val))=l.map (fun p=>(Value.int .i64 p.1,Value.func (.func p.2) #[] #[]))
 |_,_=>False
def d6 (ok:Nat→Prop) (w:World):List D→List Value→Prop
 | [], []=>True
 |d::l,y::r=>Rep ok w d y∧d6 ok w l r
 |_,_=>False
end
mutual
theorem Rep.mono {ok ok':Nat→Prop} {w w':World} (hm:∀b,ok b→ok' b∧w'.heap[b]?=w.heap[b]?):∀(d:D) (y:Value),Rep ok w d y→Rep ok' w' d y
 | .v x,y,h=>h
 | .agg l,y,h=>by
  simp only [Rep]at h⊢
  obtain⟨a,h1,h2,h3⟩:=h
  exact⟨a,h1,d6.mono hm l _ h2,h3⟩
 | .lst z n l,y,h=>by
  simp only [Rep]at h⊢
  obtain⟨a,c,h1,h2,h3,h4,h5,h6⟩:=h
  refine⟨a,c,h1,h2,h3,h4,h5, ?_⟩
  rcases h6 with h6|⟨b,o,xs,e1,e2,e3,e4⟩
  · exact .inl h6
  · refine .inr ⟨b,o,xs,e1,(hm b e2).1,d6.mono hm l _ e3,fun j hj=> ?_⟩
    rw [←e4 j hj];simp only [World.cell?,(hm b e2).2]
 | .ptr l o,y,h=>by
  simp only [Rep]at h⊢
  obtain⟨b,p,xs,e1,e2,e5,e3,e4⟩:=h
  refine⟨b,p,xs,e1,(hm b e2).1,e5,d6.mono hm l _ e3,fun j hj=> ?_⟩
  rw [←e4 j hj];simp only [World.cell?,(hm b e2).2]
 | .fn f a b,y,h=>by
  simp only [Rep]at h⊢
  obtain⟨p,q,h1,h2,h3⟩:=h
  exact⟨p,q,h1,d6.mono hm a _ h2,d6.mono hm b _ h3⟩
 | .tup l,y,h=>by
  simp only [Rep]at h⊢
  obtain⟨a,h1,h2⟩:=h
  exact⟨a,h1,d6.mono hm l _ h2⟩
 | .mp l,y,h=>by
  simp only [Rep]at h⊢
  obtain⟨r,es,c,h1,h2,h3,h4⟩:=h
  exact⟨r,es,c,h1,(hm r h2).1,by rw [(hm r h2).2];exact h3,h4⟩
 | .own _ _,_,h=>by simp [Rep]at h
 | .ownx _ _,_,h=>by simp [Rep]at h
 | .row _ _,_,h=>by simp [Rep]at h
 | .elr _ _ _ _,_,h=>by simp [Rep]at h
 | .osl _ _ _ _ _,_,h=>by simp [Rep]at h
 | .und,_,h=>by simp [Rep]at h
 | .bad,_,h=>by simp [Rep]at h
theorem d6.mono {ok ok':Nat→Prop} {w w':World} (hm:∀b,ok b→ok' b∧w'.heap[b]?=w.heap[b]?):∀(l:List D) (r:List Value),d6 ok w l r→d6 ok' w' l r
 | [], [],_=>trivial
 |d::l,y::r,h=>by
  simp only [d6]at h⊢
  exact⟨Rep.mono hm d y h.1,d6.mono hm l r h.2⟩
 | [],_::_,h=>by simp [d6]at h
 |_::_, [],h=>by simp [d6]at h
end
section
variable {ok : Nat → Prop} {w : World}
theorem d6.length {l:List D} {r:List Value} (h:d6 ok w l r):l.length=r.length:=by
 induction l generalizing r with
 |nil=>cases r with
  |nil=>rfl
  |cons=>simp [d6]at h
 |cons d l ih=>cases r with
  |nil=>simp [d6]at h
  |cons y r=>simp only [d6]at h;simp [ih h.2]
theorem d6.get {l:List D} {r:List Value} (h:d6 ok w l r) {j:Nat} {d:D} (hd:l[j]?=some d):∃y,r[j]?=some y∧Rep ok w d y:=by
 induction l generalizing r j with
 |nil=>simp at hd
 |cons d' l ih=>cases r with
  |nil=>simp [d6]at h
  |cons y r=>
   simp only [d6]at h
   cases j with
   |zero=>simp at hd;subst hd;exact⟨y,by simp,h.1⟩
   |succ j=>simp at hd;obtain⟨y',h1,h2⟩:=ih h.2 hd;exact⟨y',by simpa using h1,h2⟩
theorem d6.app {l l':List D} {r r':List Value} (h:d6 ok w l r) (h':d6 ok w l' r'):d6 ok w (l++l') (r++r'):=by
 induction l generalizing r with
 |nil=>cases r with
  |nil=>exact h'
  |cons=>simp [d6]at h
 |cons d l ih=>cases r with
  |nil=>simp [d6]at h
  |cons y r=>simp only [d6]at h;exact⟨h.1,ih h.2⟩
theorem d6.drop {l:List D} {r:List Value} (h:d6 ok w l r) (n:Nat):d6 ok w (l.drop n) (r.drop n):=by
 induction n generalizing l r with
 |zero=>simpa using h
 |succ n ih=>cases l with
  |nil=>cases r with
   |nil=>simp [d6]
   |cons=>simp [d6]at h
  |cons d l=>cases r with
   |nil=>simp [d6]at h
   |cons y r=>simp only [d6]at h;simpa using ih h.2
theorem d6.take {l:List D} {r:List Value} (h:d6 ok w l r) (n:Nat):d6 ok w (l.take n) (r.take n):=by
 induction n generalizing l r with
 |zero=>simp [d6]
 |succ n ih=>cases l with
  |nil=>cases r with
   |nil=>simp [d6]
   |cons=>simp [d6]at h
  |cons d l=>cases r with
   |nil=>simp [d6]at h
   |cons y r=>simp only [d6]at h;simp only [List.take_succ_cons,d6];exact⟨h.1,ih h.2⟩
theorem w8 {l:List D} (h:A9 l=true) {d:D} (hd:d∈l):a5B d=true:=by
 induction l with
 |nil=>cases hd
 |cons x l ih=>
  simp only [A9]at h
  split at h
  · rename_i hx
    rcases List.mem_cons.1 hd with rfl|hd
    · exact hx
    · exact ih h hd
  · cases h
theorem R9 {l:List D} (h:∀d,d∈l→a5B d=true):A9 l=true:=by
 induction l with
 |nil=>rfl
 |cons x l ih=>
  simp only [A9,h x List.mem_cons_self]
  exact ih fun d hd=>h d (List.mem_cons_of_mem _ hd)
theorem Rep.one {d:D} {y:Value} (h:Rep ok w d y) (hd:a5B d=true):a5V y=true:=by
 cases d<;>simp [a5B]at hd<;>simp only [Rep]at h
 · obtain⟨rfl,h⟩:=h;exact h
 · obtain⟨a,c,rfl,_⟩:=h;rfl
 · obtain⟨b,p,xs,rfl,_⟩:=h;rfl
 · obtain⟨p,q,rfl,_⟩:=h;rfl
 · obtain⟨r,es,c,rfl,_⟩:=h;rfl
theorem d6.one {l:List D} {r:List Value} (h:d6 ok w l r) (hl:A9 l=true):∀y,y∈r→a5V y=true:=by
 induction l generalizing r with
 |nil=>cases r with
  |nil=>simp
  |cons=>simp [d6]at h
 |cons d l ih=>cases r with
  |nil=>simp [d6]at h
  |cons y r=>
   simp only [d6]at h
   intro u hu
   rcases List.mem_cons.1 hu with rfl|hu
   · exact h.1.one (w8 hl List.mem_cons_self)
   · exact ih h.2 (R9 fun d hd=>w8 hl (List.mem_cons_of_mem _ hd)) u hu
end
mutual
def c6 (ok:Nat→Prop) (w:World) (R:Bool→Nat→Prop):D→SV→Prop
 | .v x,s=>s= .v x∧a5V x=true
 | .agg l,s=>∃cs,a5d s=some cs∧c5 ok w R l cs∧A9 l=true
 | .lst z n l,s=>∃y,s= .v y∧Rep ok w (.lst z n l) y
 | .ptr l o,s=>∃y,s= .v y∧Rep ok w (.ptr l o) y
 | .own k o,s=>s= .own k o∧R false k
 | .ownx k o,s=>s= .ownx k o∧R false k
 | .row k _,s=>s= .row k∧R true k
 | .elr k z i o,s=>s= .ownx k (i*z+o)∧R true k
 | .osl k o _ n c,s=>s= .osl k o n c∧R false k
 | .tup l,s=>(∃cs,s= .tup cs∧c5 ok w R l cs)∨∃a,s= .v (.tuple a)∧c5 ok w R l (vs a.toList)
 | .fn f a b,s=>(∃a' b',s= .fn f a' b'∧c5 ok w R a a'∧c5 ok w R b b')∨∃p q,s= .v (.func (.func f) p q)∧c5 ok w R a (vs p.toList)∧c5 ok w R b (vs q.toList)
 | .mp l,s=>∃y,s= .v y∧Rep ok w (.mp l) y
 | .und,s=>s= .v undef
 | .bad,s=>s= .bad
def c5 (ok:Nat→Prop) (w:World) (R:Bool→Nat→Prop):List D→List SV→Prop
 | [], []=>True
 |d::l,y::r=>c6 ok w R d y∧c5 ok w R l r
 |_,_=>False
end
mutual
theorem c6.mono {ok ok':Nat→Prop} {w w':World} {R R':Bool→Nat→Prop} (hm:∀b,ok b→ok' b∧w'.heap[b]?=w.heap[b]?) (hR:∀q k,R q k→R' q k):∀(d:D) (s:SV),c6 ok w R d s→c6 ok' w' R' d s
 | .v x,y,h=>h
 | .agg l,y,h=>by
  simp only [c6]at h⊢
  obtain⟨a,h1,h2,h3⟩:=h
  exact⟨a,h1,c5.mono hm hR l _ h2,h3⟩
 | .lst z n l,y,h=>by
  simp only [c6]at h⊢
  obtain⟨a,h1,h2⟩:=h
  exact⟨a,h1,Rep.mono hm _ _ h2⟩
 | .ptr l o,y,h=>by
  simp only [c6]at h⊢
  obtain⟨a,h1,h2⟩:=h
  exact⟨a,h1,Rep.mono hm _ _ h2⟩
 | .mp l,y,h=>by
  simp only [c6]at h⊢
  obtain⟨a,h1,h2⟩:=h
  exact⟨a,h1,Rep.mono hm _ _ h2⟩
 | .own k o,y,h=>by simp only [c6]at h⊢;exact⟨h.1,hR _ k h.2⟩
 | .ownx k o,y,h=>by simp only [c6]at h⊢;exact⟨h.1,hR _ k h.2⟩
 | .row k z,y,h=>by simp only [c6]at h⊢;exact⟨h.1,hR _ k h.2⟩
 | .elr k z i o,y,h=>by simp only [c6]at h⊢;exact⟨h.1,hR _ k h.2⟩
 | .osl k o z n c,y,h=>by simp only [c6]at h⊢;exact⟨h.1,hR _ k h.2⟩
 | .tup l,y,h=>by
  simp only [c6]at h⊢
  rcases h with⟨cs,h1,h2⟩|⟨a,h1,h2⟩
  · exact .inl ⟨cs,h1,c5.mono hm hR l _ h2⟩
  · exact .inr ⟨a,h1,c5.mono hm hR l _ h2⟩
 | .fn f a b,y,h=>by
  simp only [c6]at h⊢
  rcases h with⟨p,q,h1,h2,h3⟩|⟨p,q,h1,h2,h3⟩
  · exact .inl ⟨p,q,h1,c5.mono hm hR a _ h2,c5.mono hm hR b _ h3⟩
  · exact .inr ⟨p,q,h1,c5.mono hm hR a _ h2,c5.mono hm hR b _ h3⟩
 | .und,_,h=>h
 | .bad,_,h=>h
theorem c5.mono {ok ok':Nat→Prop} {w w':World} {R R':Bool→Nat→Prop} (hm:∀b,ok b→ok' b∧w'.heap[b]?=w.heap[b]?) (hR:∀q k,R q k→R' q k):∀(l:List D) (r:List SV),c5 ok w R l r→c5 ok' w' R' l r
 | [], [],_=>trivial
 |d::l,y::r,h=>by
  simp only [c5]at h⊢
  exact⟨c6.mono hm hR d y h.1,c5.mono hm hR l r h.2⟩
 | [],_::_,h=>by simp [c5]at h
 |_::_, [],h=>by simp [c5]at h
end
section
variable {ok : Nat → Prop} {w : World} {R : Bool → Nat → Prop}
mutual
theorem Rep.rel {ok:Nat→Prop} {w:World} {R:Bool→Nat→Prop}:∀(d:D) (y:Value),Rep ok w d y→c6 ok w R d (.v y)
 | .v x,y,h=>by simp only [Rep]at h;simp only [c6];exact⟨by rw [h.1],h.2⟩
 | .agg l,y,h=>by
  simp only [Rep]at h;simp only [c6]
  obtain⟨a,rfl,h2,h3⟩:=h
  exact⟨_,rfl,d6.rel l _ h2,h3⟩
 | .lst z n l,y,h=>by simp only [c6];exact⟨y,rfl,h⟩
 | .ptr l o,y,h=>by simp only [c6];exact⟨y,rfl,h⟩
 | .mp l,y,h=>by simp only [c6];exact⟨y,rfl,h⟩
 | .fn f a b,y,h=>by
  simp only [Rep]at h;simp only [c6]
  obtain⟨p,q,rfl,h2,h3⟩:=h
  exact .inr ⟨p,q,rfl,d6.rel a _ h2,d6.rel b _ h3⟩
 | .tup l,y,h=>by
  simp only [Rep]at h;simp only [c6]
  obtain⟨a,rfl,h2⟩:=h
  exact .inr ⟨a,rfl,d6.rel l _ h2⟩
 | .own _ _,_,h=>by simp [Rep]at h
 | .ownx _ _,_,h=>by simp [Rep]at h
 | .row _ _,_,h=>by simp [Rep]at h
 | .elr _ _ _ _,_,h=>by simp [Rep]at h
 | .osl _ _ _ _ _,_,h=>by simp [Rep]at h
 | .und,_,h=>by simp [Rep]at h
 | .bad,_,h=>by simp [Rep]at h
theorem d6.rel {ok:Nat→Prop} {w:World} {R:Bool→Nat→Prop}:∀(l:List D) (r:List Value),d6 ok w l r→c5 ok w R l (vs r)
 | [], [],_=>trivial
 |d::l,y::r,h=>by
  simp only [d6]at h;simp only [vs,c5]
  exact⟨Rep.rel d y h.1,d6.rel l r h.2⟩
 | [],_::_,h=>by simp [d6]at h
 |_::_, [],h=>by simp [d6]at h
end
theorem c6.ne {d:D} {s:SV} (h:c6 ok w R d s) (hd:d≠ .bad):s≠ .bad:=by
 cases d<;>simp only [c6]at h
 · rw [h.1];simp
 · obtain⟨cs,h1,_⟩:=h;intro e;subst e;simp [a5d]at h1
 · obtain⟨y,rfl,_⟩:=h;simp
 · obtain⟨y,rfl,_⟩:=h;simp
 · rw [h.1];simp
 · rw [h.1];simp
 · rw [h.1];simp
 · rw [h.1];simp
 · rw [h.1];simp
 · rcases h with⟨cs,rfl,_⟩|⟨cs,rfl,_⟩<;>simp
 · rcases h with⟨p,q,rfl,_⟩|⟨p,q,rfl,_⟩<;>simp
 · obtain⟨y,rfl,_⟩:=h;simp
 · rw [h];simp
 · exact absurd rfl hd
theorem c5.length {l:List D} {r:List SV} (h:c5 ok w R l r):l.length=r.length:=by
 induction l generalizing r with
 |nil=>cases r with
  |nil=>rfl
  |cons=>simp [c5]at h
 |cons d l ih=>cases r with
  |nil=>simp [c5]at h
  |cons y r=>simp only [c5]at h;simp [ih h.2]
theorem c5.app {l l':List D} {r r':List SV} (h:c5 ok w R l r) (h':c5 ok w R l' r'):c5 ok w R (l++l') (r++r'):=by
 induction l generalizing r with
 |nil=>cases r with
  |nil=>exact h'
  |cons=>simp [c5]at h
 |cons d l ih=>cases r with
  |nil=>simp [c5]at h
  |cons y r=>simp only [c5]at h;exact⟨h.1,ih h.2⟩
theorem c5.dropD {l:List D} {r:List SV} (h:c5 ok w R l r) (n:Nat):c5 ok w R (dropD n l) (a2b n r):=by
 induction n generalizing l r with
 |zero=>simpa [Sx.dropD,a2b]using h
 |succ n ih=>cases l with
  |nil=>cases r with
   |nil=>simp [Sx.dropD,a2b,c5]
   |cons=>simp [c5]at h
  |cons d l=>cases r with
   |nil=>simp [c5]at h
   |cons y r=>simp only [c5]at h;simpa [Sx.dropD,a2b]using ih h.2
theorem c5.takeD {l:List D} {r:List SV} (h:c5 ok w R l r) {n:Nat} {x:List D} (hx:takeD n l=some x):∃y,a3F n r=some y∧c5 ok w R x y:=by
 induction n generalizing l r x with
 |zero=>simp [Sx.takeD]at hx;subst hx;exact⟨[],rfl,trivial⟩
 |succ n ih=>cases l with
  |nil=>simp [Sx.takeD]at hx
  |cons d l=>cases r with
   |nil=>simp [c5]at h
   |cons s r=>
    simp only [c5]at h
    have hd:d≠ .bad:=fun e=>by subst e;simp [Sx.takeD]at hx
    have hs:=h.1.ne hd
    have hx':(match Sx.takeD n l with|some r=>some (d::r)|none=>none)=some x:=by
     cases d<;>first|exact hx|exact absurd rfl hd
    split at hx'
    · rename_i q hq
      cases hx'
      obtain⟨y,h1,h2⟩:=ih h.2 hq
      refine⟨s::y, ?_,h.1,h2⟩
      have:a3F (n+1) (s::r)=(match a3F n r with|some q=>some (s::q)|none=>none):=by
       cases s<;>first|rfl|exact absurd rfl hs
      rw [this,h1]
    · cases hx'
theorem c5.over {l:List D} {r:List SV} (h:c5 ok w R l r) {o:Nat} {x y:List D} {x':List SV} (hx:c5 ok w R x x') (hy:over o x l=some y):∃y',Sx.over o x' r=some y'∧c5 ok w R y y':=by
 induction l generalizing r o x x' y with
 |nil=>cases r with
  |cons=>simp [c5]at h
  |nil=>cases o with
   |zero=>cases x with
    |nil=>cases x' with
     |nil=>simp [Sx.over]at hy;subst hy;exact⟨[],rfl,trivial⟩
     |cons=>simp [c5]at hx
    |cons=>simp [Sx.over]at hy
   |succ o=>simp [Sx.over]at hy
 |cons d l ih=>cases r with
  |nil=>simp [c5]at h
  |cons s r=>
   simp only [c5]at h
   cases o with
   |zero=>cases x with
    |nil=>cases x' with
     |nil=>simp [Sx.over]at hy;subst hy;exact⟨s::r,rfl,h⟩
     |cons=>simp [c5]at hx
    |cons a x=>cases x' with
     |nil=>simp [c5]at hx
     |cons a' x'=>
      simp only [c5]at hx
      simp only [Sx.over]at hy⊢
      split at hy
      · rename_i q hq
        cases hy
        obtain⟨y',h1,h2⟩:=ih h.2 hx.2 hq
        exact⟨a'::y',by rw [h1],hx.1,h2⟩
      · cases hy
   |succ o=>
    simp only [Sx.over]at hy⊢
    split at hy
    · rename_i q hq
      cases hy
      obtain⟨y',h1,h2⟩:=ih h.2 hx hq
      exact⟨s::y',by rw [h1],h.1,h2⟩
    · cases hy
theorem c0h {agg:Bool} {l:List D} {r:List SV} {x:D} (h:c5 ok w R l r) (hx:mkD agg l=some x):∃s,mkv agg r=some s∧c6 ok w R x s:=by
 unfold mkD at hx
 split at hx
 · split at hx
   · rename_i hf
     cases hx
     refine⟨.agg r,rfl, ?_⟩
     simp only [c6]
     exact⟨r,rfl,h,hf⟩
   · cases hx
 · split at hx
   · cases hx
     cases r with
     |nil=>simp [c5]at h
     |cons s r=>cases r with
      |nil=>simp only [c5]at h;exact⟨s,rfl,h.1⟩
      |cons=>simp [c5]at h
   · cases hx
 · cases hx
theorem a3h {K:a7g→Prop} {x:Option D} (h:a4H K x):∃s,x=some s∧K (.val s):=by
 cases x with
 |none=>exact h.elim
 |some s=>exact⟨s,rfl,h⟩
theorem c6.cells {d:D} {s:SV} {l:List D} (h:c6 ok w R d s) (hc:b0D d=some l):∃r,a1P s=some r∧c5 ok w R l r:=by
 have one:∀ {d:D} {s:SV},c6 ok w R d s→a1P s=some [s]→∃r,a1P s=some r∧c5 ok w R [d] r:=fun h hs=>⟨_,hs,h,trivial⟩
 cases d<;>simp only [b0D]at hc<;>first|cases hc|skip
 · refine one h ?_
   simp only [c6]at h
   obtain⟨rfl,h⟩:=h
   rename_i x
   cases x<;>first|rfl|simp [a5V]at h
 · simp only [c6]at h
   obtain⟨cs,h1,h2,_⟩:=h
   refine⟨cs, ?_,h2⟩
   cases s<;>simp [a5d]at h1
   · rename_i x;cases x<;>simp at h1
     subst h1;rfl
   · subst h1;rfl
 · refine one h ?_
   simp only [c6,Rep]at h
   obtain⟨y,rfl,a,c,rfl,_⟩:=h
   rfl
 · refine one h ?_
   simp only [c6,Rep]at h
   obtain⟨y,rfl,a,c,xs,rfl,_⟩:=h
   rfl
 · refine one h ?_;simp only [c6]at h;rw [h.1];rfl
 · refine one h ?_;simp only [c6]at h;rw [h.1];rfl
 · refine one h ?_;simp only [c6]at h;rw [h.1];rfl
 · refine one h ?_;simp only [c6]at h;rw [h.1];rfl
 · refine one h ?_;simp only [c6]at h;rw [h.1];rfl
 · refine one h ?_
   simp only [c6]at h
   rcases h with⟨p,q,rfl,_⟩|⟨p,q,rfl,_⟩<;>rfl
 · refine one h ?_
   simp only [c6,Rep]at h
   obtain⟨y,rfl,r,es,c,rfl,_⟩:=h
   rfl
theorem c6.one {Hp:Hp} (hR:∀k,R true k→∃v n xs sz ty,c9 Hp k=some (.row v n xs sz ty)) {d:D} {s:SV} (h:c6 ok w R d s) (hd:a5B d=true):b4a Hp s=true:=by
 cases d<;>simp [a5B]at hd<;>simp only [c6]at h
 · rw [h.1];exact h.2
 · obtain⟨y,rfl,h⟩:=h;exact h.one rfl
 · obtain⟨y,rfl,h⟩:=h;exact h.one rfl
 · rw [h.1];rfl
 · rw [h.1];rfl
 · obtain⟨v,n,xs,sz,ty,hf⟩:=hR _ h.2;rw [h.1];simp [b4a,hf]
 · rw [h.1];rfl
 · rw [h.1];rfl
 · rcases h with⟨p,q,rfl,_⟩|⟨p,q,rfl,_⟩<;>rfl
 · obtain⟨y,rfl,h⟩:=h;exact h.one rfl
theorem c5.one {Hp:Hp} (hR:∀k,R true k→∃v n xs sz ty,c9 Hp k=some (.row v n xs sz ty)) {l:List D} {r:List SV} (h:c5 ok w R l r) (hl:A9 l=true):a8U Hp r=true:=by
 induction l generalizing r with
 |nil=>cases r with
  |nil=>rfl
  |cons=>simp [c5]at h
 |cons d l ih=>cases r with
  |nil=>simp [c5]at h
  |cons y r=>
   simp only [c5]at h
   simp only [a8U,h.1.one hR (w8 hl List.mem_cons_self)]
   exact ih h.2 (R9 fun d hd=>w8 hl (List.mem_cons_of_mem _ hd))
theorem b2B {l:List Value} (h:∀x,x∈l→a5V x=true):c5 ok w R (vD l) (vs l):=by
 induction l with
 |nil=>trivial
 |cons x l ih=>
  refine⟨?_,ih fun y hy=>h y (List.mem_cons_of_mem _ hy)⟩
  simp only [c6];exact⟨trivial,h x List.mem_cons_self⟩
theorem b8L {l:List D} (h:Y6 l=true) {d:D} (hd:d∈l):b4q d=true:=by
 induction l with
 |nil=>cases hd
 |cons x l ih=>
  simp only [Y6]at h
  split at h
  · rename_i hx
    rcases List.mem_cons.1 hd with rfl|hd
    · exact hx
    · exact ih h hd
  · cases h
theorem c5.vals {l:List D} {r:List SV} (h:c5 ok w R l r) (hl:Y6 l=true):∃xs,r=vs xs∧d6 ok w l xs:=by
 induction l generalizing r with
 |nil=>cases r with
  |nil=>exact⟨[],rfl,trivial⟩
  |cons=>simp [c5]at h
 |cons d l ih=>cases r with
  |nil=>simp [c5]at h
  |cons s r=>
   simp only [c5]at h
   simp only [Y6]at hl
   split at hl
   · rename_i hd
     obtain⟨xs,rfl,hx⟩:=ih h.2 hl
     have:∃y,s= .v y∧Rep ok w d y:=by
      cases d<;>simp [b4q]at hd
      · have:=h.1;simp only [c6]at this;exact⟨_,this.1,by simp only [Rep];exact⟨trivial,this.2⟩⟩
      · have:=h.1;simp only [c6]at this;exact this
      · have:=h.1;simp only [c6]at this;exact this
     obtain⟨y,rfl,hy⟩:=this
     exact⟨y::xs,rfl,hy,hx⟩
   · cases hl
end
theorem b1U (k:Nat) (l:List Value):M3 k (vs l)=false:=by
 induction l with
 |nil=>rfl
 |cons x l ih=>simp only [vs,M3,ment];exact ih
mutual
theorem c6.ment {ok:Nat→Prop} {w:World} {R:Bool→Nat→Prop} {k:Nat} (hR:∀q,¬R q k):∀(d:D) (s:SV),c6 ok w R d s→Sx.ment k s=false
 | .v x,s,h=>by simp only [c6]at h;rw [h.1];rfl
 | .agg l,s,h=>by
  simp only [c6]at h
  obtain⟨cs,h1,h2,_⟩:=h
  have:=c5.ment hR l _ h2
  cases s<;>simp [a5d]at h1
  · rfl
  · subst h1;simpa [Sx.ment]using this
 | .lst z n l,s,h=>by simp only [c6]at h;obtain⟨y,rfl,_⟩:=h;rfl
 | .ptr l o,s,h=>by simp only [c6]at h;obtain⟨y,rfl,_⟩:=h;rfl
 | .own j o,s,h=>by
  simp only [c6]at h;rw [h.1];simp only [Sx.ment]
  cases hb:Nat.beq j k with
  |false=>rfl
  |true=>have:=w4 hb;subst this;exact absurd h.2 (hR _)
 | .ownx j o,s,h=>by
  simp only [c6]at h;rw [h.1];simp only [Sx.ment]
  cases hb:Nat.beq j k with
  |false=>rfl
  |true=>have:=w4 hb;subst this;exact absurd h.2 (hR _)
 | .row j z,s,h=>by
  simp only [c6]at h;rw [h.1];simp only [Sx.ment]
  cases hb:Nat.beq j k with
  |false=>rfl
  |true=>have:=w4 hb;subst this;exact absurd h.2 (hR _)
 | .elr j z i o,s,h=>by
  simp only [c6]at h;rw [h.1];simp only [Sx.ment]
  cases hb:Nat.beq j k with
  |false=>rfl
  |true=>have:=w4 hb;subst this;exact absurd h.2 (hR _)
 | .osl j o z n c,s,h=>by
  simp only [c6]at h;rw [h.1];simp only [Sx.ment]
  cases hb:Nat.beq j k with
  |false=>rfl
  |true=>have:=w4 hb;subst this;exact absurd h.2 (hR _)
 | .tup l,s,h=>by
  simp only [c6]at h
  rcases h with⟨cs,rfl,h2⟩|⟨a,rfl,_⟩
  · simpa [Sx.ment]using c5.ment hR l _ h2
  · rfl
 | .fn f a b,s,h=>by
  simp only [c6]at h
  rcases h with⟨p,q,rfl,h2,h3⟩|⟨p,q,rfl,_⟩
  · simp only [Sx.ment,c5.ment hR a _ h2,c5.ment hR b _ h3]
  · rfl
 | .mp l,s,h=>by simp only [c6]at h;obtain⟨y,rfl,_⟩:=h;rfl
 | .und,s,h=>by simp only [c6]at h;rw [h];rfl
 | .bad,s,h=>by simp only [c6]at h;rw [h];rfl
theorem c5.ment {ok:Nat→Prop} {w:World} {R:Bool→Nat→Prop} {k:Nat} (hR:∀q,¬R q k):∀(l:List D) (r:List SV),c5 ok w R l r→M3 k r=false
 | [], [],_=>rfl
 |d::l,y::r,h=>by
  simp only [c5]at h;simp only [M3,c6.ment hR d y h.1]
  exact c5.ment hR l r h.2
 | [],_::_,h=>by simp [c5]at h
 |_::_, [],h=>by simp [c5]at h
end
end Go.Sx
namespace Go.Sx
open Go Go.RowKit
def okS (A:Nat→Prop) (st:St) (b:Nat):Prop:=((b<st.lo∨∃p,p∈st.iv∧p.1≤b∧b<p.2)∧A b)∧b<st.w.heap.size∧b9U st.H b
def B1 (st:St) (q:Bool) (k:Nat):Prop:=k<st.nk∧(q=true→∃v n xs sz ty,c9 st.H k=some (.row v n xs sz ty))
def a3R (ok:Nat→Prop) (w:World) (R:Bool→Nat→Prop):E→Ent→Prop
 | .blk cs ty, .blk _ cs' ty'=>ty=ty'∧c5 ok w R cs cs'
 | .row z n l ty, .row _ n' xs z' ty'=>n=n'∧z=z'∧ty=ty'∧d6 ok w l xs∧A9 l=true∧l.length=n*z
 |_,_=>False
structure Sim (A:Nat→Prop) (st:St) (sy:Sy):Prop where
 T:∀d x,s7 sy.T d=some x→x= .bad∨∃s,y0 st.T d=some s∧c6 (okS A st) st.w (B1 st) x s
 H:∀k e,j3 sy.H k=some e→∃e',c9 st.H k=some e'∧a3R (okS A st) st.w (B1 st) e e'
 nk:sy.nk=st.nk
 fT:∀j,st.nk≤j→u4 j st.T=true
 fH:∀j,st.nk≤j→G0 j st.H=true
def a8W (H:Hp) (ok:Nat→Prop) (w:World) (R:Bool→Nat→Prop):a7g→Out→Prop
 | .val x, .val s=>c6 ok w R x s∧x≠ .bad
 | .new cs ty sl, .new cs' ty' sl'=>ty=ty'∧c5 ok w R cs cs'∧sl'=sl.map (·.2)
 | .newR l ty z n, .new cs' ty' sl'=>ty=ty'∧sl'=some n∧l.length=n*z∧n≤maxLen∧A9 l=true∧∃xs,cs'=vs xs∧d6 ok w l xs
 | .call f args, .call f' args'=>f=f'∧c5 ok w R args args'
 | .upd k cs, .upd k' cs'=>k=k'∧c5 ok w R cs cs'
 | .updR k l, .updR k' xs=>k=k'∧d6 ok w l xs∧A9 l=true∧∀v n ys z ty,c9 H k=some (.row v n ys z ty)→l.length=n*z
 | .app e z b s x, .app e' z' b' s' x'=>e=e'∧z=z'∧b=b'∧c6 ok w R s s'∧c6 ok w R x x'
 |_,_=>False
def cx (X:Cy) (w0:World) (bor:List Nat):Cx:=⟨X.P,X.tt,w0,bor,X.nt,X.pl,X.dfs,X.sv⟩
theorem b7Y (n:Nat) (l:List D):dropD n l=l.drop n:=by
 induction n generalizing l with
 |zero=>rfl
 |succ n ih=>cases l with
  |nil=>rfl
  |cons x l=>simp [dropD,ih]
theorem b3j {n:Nat} {l r:List D} (h:takeD n l=some r):r.length=n∧r=l.take n∧ .bad∉r:=by
 induction n generalizing l r with
 |zero=>simp [takeD]at h;subst h;simp
 |succ n ih=>cases l with
  |nil=>simp [takeD]at h
  |cons d l=>
   have hd:d≠ .bad:=fun e=>by subst e;simp [takeD]at h
   have h':(match takeD n l with|some r=>some (d::r)|none=>none)=some r:=by
    cases d<;>first|exact h|exact absurd rfl hd
   split at h'
   · rename_i q hq
     cases h'
     obtain⟨h1,h2,h3⟩:=ih hq
     exact⟨by simp [h1],by rw [List.take_succ_cons,←h2],by simp only [List.mem_cons,not_or];exact⟨fun e=>hd e.symm,h3⟩⟩
   · cases h'
theorem d6.part {ok:Nat→Prop} {w:World} {l r:List D} {xs:List Value} (h:d6 ok w l xs) {n o:Nat} (hr:takeD n (dropD o l)=some r):d6 ok w r ((xs.drop o).take n)∧r.length=n∧(n=0∨o+n≤l.length):=by
 obtain⟨h1,h2,_⟩:=b3j hr
 rw [b7Y]at h2
 refine⟨by rw [h2];exact(h.drop o).take n,h1, ?_⟩
 have:=congrArg List.length h2
 simp at this;omega
theorem b5l {ok:Nat→Prop} {w:World} {R:Bool→Nat→Prop} {agg:Bool} {r:List D} {xs:List Value} {x:D} (h:d6 ok w r xs) (hx:mkD agg r=some x):∃s,a6V agg xs=some s∧c6 ok w R x s:=by
 unfold mkD at hx
 split at hx
 · split at hx
   · rename_i hf
     cases hx
     refine⟨.agg (vs xs),rfl, ?_⟩
     simp only [c6]
     exact⟨vs xs,rfl,d6.rel _ _ h,hf⟩
   · cases hx
 · split at hx
   · cases hx
     cases xs with
     |nil=>simp [d6]at h
     |cons y xs=>cases xs with
      |nil=>simp only [d6]at h;exact⟨.v y,rfl,Rep.rel _ _ h.1⟩
      |cons=>simp [d6]at h
   · cases hx
 · cases hx
theorem b9E {agg:Bool} {r:List D} {x:D} (hx:mkD agg r=some x):x≠ .bad:=by
 unfold mkD at hx
 split at hx
 · split at hx<;>cases hx;simp
 · split at hx
   · rename_i ho;cases hx;intro e;subst e;simp [a5B]at ho
   · cases hx
 · cases hx
theorem a8p {l r:List D} (h:A9 l=true) (hs:∀d,d∈r→d∈l):A9 r=true:=R9 fun d hd=>w8 h (hs d hd)
theorem b8O {l:List D} {z n i:Nat} (hl:l.length=n*z) (hi:i<n):(el l z i).length=z:=by
 have:(i+1)*z≤n*z:=Nat.mul_le_mul_right z hi
 rw [Nat.add_mul]at this
 simp [el,hl];omega
theorem b9c {l:List D} {z i:Nat} {d:D} (h:d∈el l z i):d∈l:=List.mem_of_mem_drop (List.mem_of_mem_take h)
theorem c4q {α:Type} {o:Nat} {xs l:List α} (h:o+xs.length≤l.length):over o xs l=some (l.take o++xs++l.drop (o+xs.length)):=by
 induction l generalizing o xs with
 |nil=>
  simp at h
  obtain⟨rfl,rfl⟩:=h
  rfl
 |cons x l ih=>cases o with
  |zero=>cases xs with
   |nil=>simp [over]
   |cons y xs=>simp only [over];rw [ih (by simp at h⊢;omega)];simp
  |succ o=>simp only [over];rw [ih (by simp at h⊢;omega)];simp [Nat.add_right_comm]
theorem b1x {α:Type} {o:Nat} {xs l r:List α} (h:over o xs l=some r):r.length=l.length:=by
 obtain⟨h1,h2⟩:=a8q h
 rw [h1];simp;omega
theorem b8q {op:BinOp} {k:IntKind} {a b:Int} {K K':Out→Prop} (hK:∀o,K o→K' o) (h:b3x op k a b K):b3x op k a b K':=by
 cases op<;>simp only [b3x]at h⊢<;>first|exact hK _ h|exact⟨h.1,hK _ h.2⟩|exact h
theorem b8Y {op:BinOp} {a b:ByteArray} {K K':Out→Prop} (hK:∀o,K o→K' o) (h:b3J op a b K):b3J op a b K':=by
 cases op<;>simp only [b3J]at h⊢<;>first|exact hK _ h|exact⟨h.1,hK _ h.2⟩|exact h
theorem b5B {op:BinOp} {k:IntKind} {a b:Int} {K K':Out→Prop} (hK:∀o,K o→K' o) (h:b9b op k a b K):b9b op k a b K':=by
 cases op<;>simp only [b9b]at h⊢<;>exact⟨h.1,hK _ h.2⟩
theorem a7G {op:BinOp} {e:Bool} {K K':Out→Prop} (hK:∀o,K o→K' o) (h:a4W op e K):a4W op e K':=by
 cases op<;>simp only [a4W]at h⊢<;>first|exact hK _ h|exact h
section
variable {A : Nat → Prop} {X : Cy} {w0 : World} {bor : List Nat} {st : St} {sy : Sy} {KY : a7g → Prop} {K : Out → Prop}
theorem j5 (hs:Sim A st sy) {x:Operand} {d:D} (h:evY sy x=some d):∃s,ev st x=some s∧c6 (okS A st) st.w (B1 st) d s∧d≠ .bad:=by
 cases x with
 |tmp t=>
  simp only [evY]at h
  split at h
  · cases h
  · rename_i hb
    have hne:d≠ .bad:=fun e=>hb (by rw [h,e])
    obtain⟨hlt,h⟩:=a3H h
    rcases hs.T t d h with e|⟨s,h1,h2⟩
    · exact absurd e hne
    · refine⟨s, ?_,h2,hne⟩
      have hsb:=h2.ne hne
      simp only [ev,a7v hlt,h1]
      try (cases s<;>first|rfl|exact absurd rfl hsb)
 |const v=>
  simp only [evY]at h
  refine⟨.v v,rfl, ?_⟩
  unfold ofV at h
  split at h
  · rename_i a
    split at h
    · rename_i ha
      cases h
      refine⟨?_,by simp⟩
      simp only [c6]
      refine⟨vs a.toList,rfl, ?_,R9 fun d hd=>by simp at hd;obtain⟨x,_,rfl⟩:=hd;rfl⟩
      have:∀l:List Value,l.all a5V=true→c5 (okS A st) st.w (B1 st) (l.map D.v) (vs l):=by
       intro l
       induction l with
       |nil=>intro _;trivial
       |cons x l ih=>intro hl;simp at hl;exact⟨by simp only [c6];exact⟨trivial,hl.1⟩,ih (by simpa using hl.2)⟩
      exact this _ ha
    · cases h
  · cases h
  · rename_i h1 h2
    cases h
    refine⟨?_,by simp⟩
    simp only [c6]
    refine⟨trivial, ?_⟩
    unfold a5V
    split
    · exact absurd rfl (h1 _)
    · exact absurd rfl (h2 _)
    · rfl
 |func f=>simp only [evY]at h;cases h;exact⟨_,rfl,by simp only [c6];exact .inl ⟨[], [],rfl,trivial,trivial⟩,by simp⟩
 |global g=>simp [evY]at h
theorem Y7 (hs:Sim A st sy) {l:List Operand} {r:List D} (h:a8T sy l=some r):∃s,evs st l=some s∧c5 (okS A st) st.w (B1 st) r s:=by
 induction l generalizing r with
 |nil=>simp only [a8T]at h;cases h;exact⟨[],rfl,trivial⟩
 |cons x l ih=>
  simp only [a8T]at h
  split at h
  · rename_i d r' hd hr
    cases h
    obtain⟨s,h1,h2,_⟩:=j5 hs hd
    obtain⟨s',h3,h4⟩:=ih hr
    exact⟨s::s',by simp only [evs,h1,h3],h2,h4⟩
  · cases h
theorem b5w (st:St):∀k,B1 st true k→∃v n xs sz ty,c9 st.H k=some (.row v n xs sz ty):=fun _ h=>h.2 rfl
variable (hK : ∀ oy o, a8W st.H (okS A st) st.w (B1 st) oy o → KY oy → K o)
include hK
theorem M1 {x:D} {s:SV} (h:KY (.val x)) (hr:c6 (okS A st) st.w (B1 st) x s) (hne:x≠ .bad):K (.val s):=hK (.val x) (.val s) ⟨hr,hne⟩ h
theorem a3k {o:Out} (h:b1s KY o):K o:=by
 unfold b1s at h
 split at h
 · rename_i x
   split at h
   · rename_i hx
     refine hK (.val (.v x)) _ ⟨?_,by simp⟩ h
     simp only [c6];exact⟨trivial,hx⟩
   · exact h.elim
 · exact h.elim
theorem b6t (hs:Sim A st sy) {x:Operand} (h:a4H KY (evY sy x)):a8x K (ev st x):=by
 obtain⟨d,h1,h2⟩:=a3h h
 obtain⟨s,h3,h4,h5⟩:=j5 hs h1
 rw [h3];exact M1 hK h2 h4 h5
theorem b5P {agg:Bool} {l:List D} {r:List SV} (h:a4H KY (mkD agg l)) (hr:c5 (okS A st) st.w (B1 st) l r):a8x K (mkv agg r):=by
 obtain⟨d,h1,h2⟩:=a3h h
 obtain⟨s,h3,h4⟩:=c0h hr h1
 rw [h3];exact M1 hK h2 h4 (b9E h1)
theorem c0z (hs:Sim A st sy) {i:TI} {p:D} {s:SV} (h:c2d sy i p KY) (hr:c6 (okS A st) st.w (B1 st) p s):a7R (cx X w0 bor) st i s K:=by
 unfold c2d at h
 split at h
 · rename_i k o
   simp only [c6]at hr
   obtain⟨rfl,_⟩:=hr
   split at h
   · rename_i cs ty hf
     obtain⟨e',hf',he⟩:=hs.H _ _ hf
     cases e' with
     |row=>exact he.elim
     |blk b cs' ty'=>
      split at h
      · rename_i l hl
        obtain⟨r,h1,h2⟩:=(he.2.dropD o).takeD hl
        simp only [a7R,hf',h1]
        exact b5P hK h h2
      · exact h.elim
   · exact h.elim
 · rename_i k o
   simp only [c6]at hr
   obtain⟨rfl,_⟩:=hr
   split at h
   · rename_i cs ty hf
     obtain⟨e',hf',he⟩:=hs.H _ _ hf
     cases e' with
     |row=>exact he.elim
     |blk b cs' ty'=>
      obtain⟨l,hl,h⟩:=h
      obtain⟨r,h1,h2⟩:=(he.2.dropD o).takeD hl
      simp only [a7R,hf']
      exact⟨r,h1,b5P hK h h2⟩
   · exact h.elim
 · rename_i k z j o
   simp only [c6]at hr
   obtain⟨rfl,_⟩:=hr
   split at h
   · rename_i z' n l ty hf
     obtain⟨e',hf',he⟩:=hs.H _ _ hf
     cases e' with
     |blk=>exact he.elim
     |row v n' xs sz ty'=>
      obtain⟨rfl,rfl,rfl,hrep,hfl,hlen⟩:=he
      split at h
      · rename_i hz
        obtain rfl:=w4 hz
        obtain⟨cs,⟨rfl,hj⟩,h⟩:=h
        split at h
        · rename_i r hr hbl
          have hbl:=Nat.le_of_ble_eq_true hbl
          have hel:d6 (okS A st) st.w (el l z' j) ((xs.drop (j*z')).take z'):=(hrep.drop _).take _
          obtain⟨h1,h2,h3⟩:=hel.part hr
          obtain⟨x,hx,hkx⟩:=a3h h
          obtain⟨s,h4,h5⟩:=b5l (R:=B1 st) h1 hx
          simp only [a7R,hf']
          have hle:=b8O hlen hj
          have hjz:(j+1)*z'≤n*z':=Nat.mul_le_mul_right z' hj
          rw [Nat.add_mul]at hjz
          refine⟨_,⟨by rw [←h1.length,h2],by omega,fun jj hjj=> ?_⟩,by rw [h4];exact M1 hK hkx h5 (b9E hx)⟩
          rw [List.getElem?_take,if_pos hjj,List.getElem?_drop,List.getElem?_take,if_pos (by omega),List.getElem?_drop]
          congr 1;omega
        · exact h.elim
      · exact h.elim
   · exact h.elim
 · rename_i l o
   simp only [c6,Rep]at hr
   obtain⟨y,rfl,b,p,xs,rfl,hok,hfl,hrep,hmem⟩:=hr
   split at h
   · rename_i r hr
     obtain⟨h1,h2,h3⟩:=hrep.part hr
     obtain⟨x,hx,hkx⟩:=a3h h
     obtain⟨s,h4,h5⟩:=b5l (R:=B1 st) h1 hx
     simp only [a7R]
     refine⟨_,⟨by rw [←h1.length,h2], .inr ⟨hok.2.2,fun jj hjj=> ?_⟩⟩,by rw [h4];exact M1 hK hkx h5 (b9E hx)⟩
     rw [show p+o+jj=p+(o+jj) from by omega,hmem (o+jj) (by omega),List.getElem?_take,if_pos hjj,List.getElem?_drop]
   · exact h.elim
 · exact h.elim
theorem b8v (hs:Sim A st sy) {i:TI} {p d:D} {s t:SV} (h:b8C sy i p d KY) (hr:c6 (okS A st) st.w (B1 st) p s) (hd:c6 (okS A st) st.w (B1 st) d t):b0m st i s t K:=by
 unfold b8C at h
 split at h
 · rename_i l hl
   obtain⟨r,hc,hrl⟩:=hd.cells hl
   split at h
   · rename_i hn hfl
     simp only [b0m,hc,←hrl.length,hn,hrl.one (b5w st) hfl]
     split at h
     · rename_i k o
       simp only [c6]at hr
       obtain⟨rfl,_⟩:=hr
       split at h
       · rename_i cs ty hf
         obtain⟨e',hf',he⟩:=hs.H _ _ hf
         cases e' with
         |row=>exact he.elim
         |blk b cs' ty'=>
          split at h
          · rename_i q hq
            obtain⟨q',h1,h2⟩:=he.2.over hrl hq
            simp only [hf',h1]
            exact hK (.upd k q) _ ⟨rfl,h2⟩ h
          · exact h.elim
       · exact h.elim
     · rename_i k o
       simp only [c6]at hr
       obtain⟨rfl,_⟩:=hr
       split at h
       · rename_i cs ty hf
         obtain⟨e',hf',he⟩:=hs.H _ _ hf
         cases e' with
         |row=>exact he.elim
         |blk b cs' ty'=>
          obtain⟨q,hq,h⟩:=h
          obtain⟨q',h1,h2⟩:=he.2.over hrl hq
          simp only [hf']
          exact⟨q',h1,hK (.upd k q) _ ⟨rfl,h2⟩ h⟩
       · exact h.elim
     · rename_i k z j o
       simp only [c6]at hr
       obtain⟨rfl,_⟩:=hr
       split at h
       · rename_i z' n q ty hf
         obtain⟨e',hf',he⟩:=hs.H _ _ hf
         cases e' with
         |blk=>exact he.elim
         |row v n' xs sz ty'=>
          obtain⟨rfl,rfl,rfl,hrep,hfq,hlen⟩:=he
          split at h
          · rename_i hz hno
            obtain rfl:=w4 hz
            obtain⟨cs,⟨rfl,hj⟩,h⟩:=h
            split at h
            · rename_i cs' ho
              obtain⟨r',rfl,h⟩:=h
              obtain⟨vals,rfl,hv⟩:=hrl.vals hno
              obtain⟨hcs,hle⟩:=a8q ho
              have hel:=b8O hlen hj
              have hjz:(j+1)*z'≤n*z':=Nat.mul_le_mul_right z' hj
              rw [Nat.add_mul]at hjz
              have hvl:=hv.length
              have hxl:=hrep.length
              have hov:over (j*z'+o) vals xs=some (xs.take (j*z'+o)++vals++xs.drop (j*z'+o+vals.length)):=c4q (by omega)
              simp only [hf']
              refine⟨_,by rw [L6];exact hov,hK (.updR k _) _ ⟨rfl, ?_, ?_,fun v n ys z ty hq=> ?_⟩ h⟩
              · have e1:a9J q z' j cs'=q.take (j*z'+o)++l++q.drop (j*z'+o+l.length):=by
                 rw [hcs]
                 simp only [a9J,el]
                 have a1:q.take (j*z'+o)=q.take (j*z')++((q.drop (j*z')).take z').take o:=by
                  rw [List.take_add,List.take_take,Nat.min_eq_left (by omega)]
                 have a2:q.drop (j*z'+o+l.length)=((q.drop (j*z')).take z').drop (o+l.length)++q.drop (j*z'+z'):=by
                  rw [List.drop_take,List.drop_drop]
                  have:q.drop (j*z'+z')=(q.drop (j*z'+(o+l.length))).drop (z'-(o+l.length)):=by rw [List.drop_drop];congr 1;omega
                  rw [this,List.take_append_drop];congr 1;omega
                 rw [a1,a2];simp [List.append_assoc]
                rw [e1,←hvl]
                exact(((hrep.take _).app hv).app (hrep.drop _))
              · refine R9 fun d hd=> ?_
                simp only [a9J,hcs,List.mem_append]at hd
                rcases hd with(hd|(hd|hd)|hd)|hd
                · exact w8 hfq (List.mem_of_mem_take hd)
                · exact w8 hfq (b9c (List.mem_of_mem_take hd))
                · exact w8 hfl hd
                · exact w8 hfq (b9c (List.mem_of_mem_drop hd))
                · exact w8 hfq (List.mem_of_mem_drop hd)
              · rw [hf']at hq;cases hq
                have hcl:=b1x ho
                simp only [a9J,List.length_append,List.length_take,List.length_drop,hcl,hel,hlen]
                omega
            · exact h.elim
          · exact h.elim
       · exact h.elim
     · exact h.elim
   · exact h.elim
 · exact h.elim
end
end Go.Sx
namespace Go.Sx
open Go Go.RowKit
theorem b4u {i:Int} {f:Nat}:∀(l:List (Int×Nat)) (es:List MapEntry) (k:Nat),es.map (fun e=>(e.key,e.val))=l.map (fun p=>(Value.int .i64 p.1,Value.func (.func p.2) #[] #[]))→a7O l i=some f→
 ∃j,Instr.findNow (.int .i64) (.int .i64 i) es k=some (some (j, .func (.func f) #[] #[]))
 | [],_,_,_,h=>by simp [a7O]at h
 |(a,g)::l, [],_,he,_=>by simp at he
 |(a,g)::l,e::es,k,he,h=>by
  simp only [List.map_cons,List.cons.injEq,Prod.mk.injEq]at he
  obtain⟨⟨h1,h2⟩,h3⟩:=he
  have hs:Instr.sameNow (.int .i64) (.int .i64 i) e.key=some (i==a):=by rw [h1];simp [Instr.sameNow]
  simp only [a7O]at h
  simp only [Instr.findNow,hs]
  cases hb:(i==a)with
  |true=>rw [hb]at h;cases h;exact⟨k,by rw [h2]⟩
  |false=>rw [hb]at h;exact b4u l es (k+1) h3 h
section
variable {A : Nat → Prop} {ok : Nat → Prop} {w : World} {R : Bool → Nat → Prop}
theorem c6.int {k:IntKind} {a:Int} {s:SV} (h:c6 ok w R (.v (.int k a)) s):s= .v (.int k a):=by simp only [c6]at h;exact h.1
theorem c6.sc {x:Value} {s:SV} (h:c6 ok w R (.v x) s):s= .v x:=by simp only [c6]at h;exact h.1
theorem c0r {k:CK} {x y:D} {s t:SV} {e:Bool} (h:c1D k x y=some e) (h1:c6 ok w R x s) (h2:c6 ok w R y t):eqC k s t=some e:=by
 unfold c1D at h
 split at h
 · rw [h1.sc,h2.sc];exact h
 · rw [h1.sc,h2.sc];exact h
 · rw [h1.sc,h2.sc];exact h
 · cases h
theorem c2a {ks : List CK} {l m : List D} {s t : List SV} {e : Bool} (h : a7d ks l m = some e) (h1 : c5 ok w R l s) (h2 : c5 ok w R m t) : a6z ks s t = some e := by
  induction ks generalizing l m s t e with
  | nil => cases l <;> cases m <;> simp [a7d] at h
           cases s <;> cases t <;> simp [c5] at h1 h2
           simpa [a6z] using h
  | cons k ks ih =>
    cases l with
    | nil => cases m <;> simp [a7d] at h
    | cons x l => cases m with
      | nil => simp [a7d] at h
      | cons y m => cases s with
        | nil => simp [c5] at h1
        | cons s ss => cases t with
          | nil => simp [c5] at h2
          | cons t tt =>
            simp only [c5] at h1 h2
            have gen : ∀ {e}, (match c1D k x y, a7d ks l m with | some a, some b => some (a && b) | _, _ => none) = some e → (match eqC k s t, a6z ks ss tt with | some a, some b => some (a && b) | _, _ => none) = some e := by
              intro e h
              split at h
              · rename_i a b ha hb
                cases h
                rw [c0r ha h1.1 h2.1, ih hb h1.2 h2.2]
              · cases h
            cases ks with
            | nil => cases l with
              | nil => cases m with
                | nil => cases ss <;> cases tt <;> simp [c5] at h1 h2
                         simp only [a7d] at h
                         simp only [a6z]
                         exact c0r h h1 h2
                | cons => simp [a7d] at h
              | cons => cases m <;> simp [a7d] at h
            | cons k' ks' =>
              have e1 : a7d (k :: k' :: ks') (x :: l) (y :: m) = (match c1D k x y, a7d (k' :: ks') l m with | some a, some b => some (a && b) | _, _ => none) := by
                cases l <;> cases m <;> rfl
              have e2 : a6z (k :: k' :: ks') (s :: ss) (t :: tt) = (match eqC k s t, a6z (k' :: ks') ss tt with | some a, some b => some (a && b) | _, _ => none) := by
                cases ss <;> cases tt <;> rfl
              rw [e1] at h
              rw [e2]
              exact gen h
theorem b2D {b:Bool} {x:D} {s:SV} {l:List D} (h:b2q b x=some l) (h1:c6 ok w R x s):(∃r,a6y b s=some r∧c5 ok w R l r)∧((b=true∧∃cs,a5d s=some cs)∨(∃c,s= .v (.bool c))):=by
 unfold b2q at h
 split at h
 · cases h
   simp only [c6]at h1
   obtain⟨cs,h2,h3,_⟩:=h1
   refine⟨⟨cs, ?_,h3⟩, .inl ⟨rfl,cs,h2⟩⟩
   cases s<;>simp [a5d]at h2
   · rename_i y;cases y<;>simp at h2;subst h2;rfl
   · subst h2;rfl
 · cases h
   have:=h1.sc
   subst this
   exact⟨⟨_,rfl,h1,trivial⟩, .inr ⟨_,rfl⟩⟩
 · cases h
theorem b7g {x:D} {s:SV} {l:List D} (h:c4Q x=some l) (h1:c6 ok w R x s):∃r,a5d s=some r∧c5 ok w R l r:=by
 unfold c4Q at h
 split at h
 · cases h;simp only [c6]at h1;obtain⟨cs,h2,h3,_⟩:=h1;exact⟨cs,h2,h3⟩
 · cases h
theorem b3F {x y:D} {s:SV} {off:Nat} (h:b2d x off=some y) (h1:c6 ok w R x s):∃t,b0I s off=some t∧c6 ok w R y t∧y≠ .bad:=by
 unfold b2d at h
 split at h
 · cases h;simp only [c6]at h1;obtain⟨rfl,h1⟩:=h1;exact⟨_,rfl,by simp only [c6];exact⟨trivial,h1⟩,by simp⟩
 · cases h;simp only [c6]at h1;obtain⟨rfl,h1⟩:=h1;exact⟨_,rfl,by simp only [c6];exact⟨trivial,h1⟩,by simp⟩
 · cases h;simp only [c6]at h1;obtain⟨rfl,h1⟩:=h1;exact⟨_,rfl,by simp only [c6];exact⟨by rw [Nat.add_assoc],h1⟩,by simp⟩
 · cases h;simp only [c6,Rep]at h1
   obtain⟨y,rfl,b,p,xs,rfl,h2,h3,h4,h5⟩:=h1
   refine⟨_,rfl, ?_,by simp⟩
   simp only [c6,Rep]
   exact⟨_,rfl,b,p,xs,by rw [Nat.add_assoc],h2,h3,h4,h5⟩
 · cases h
theorem b7o {x y:D} {s:SV} {off:Nat} (h:b3K x off=some y) (h1:c6 ok w R x s):∃t,b2j s off=some t∧c6 ok w R y t∧y≠ .bad:=by
 unfold b3K at h
 split at h
 · cases h;simp only [c6]at h1;obtain⟨rfl,h1⟩:=h1;exact⟨_,rfl,by simp only [c6];exact⟨trivial,h1⟩,by simp⟩
 · cases h;simp only [c6]at h1;obtain⟨rfl,h1⟩:=h1;exact⟨_,rfl,by simp only [c6];exact⟨trivial,h1⟩,by simp⟩
 · cases h
theorem c5.one1 {d:D} {s:List SV} (h:c5 ok w R [d] s):∃s1,s= [s1]∧c6 ok w R d s1:=by
 match s,h with
 | [s1],h=>exact⟨s1,rfl,h.1⟩
theorem c5.three {a b c:D} {s:List SV} (h:c5 ok w R [a,b,c] s):∃s1 s2 s3,s= [s1,s2,s3]∧c6 ok w R a s1∧c6 ok w R b s2∧c6 ok w R c s3:=by
 match s,h with
 | [s1,s2,s3],h=>exact⟨s1,s2,s3,rfl,h.1,h.2.1,h.2.2.1⟩
theorem c5.two {d e:D} {s:List SV} (h:c5 ok w R [d,e] s):∃s1 s2,s= [s1,s2]∧c6 ok w R d s1∧c6 ok w R e s2:=by
 match s,h with
 | [s1,s2],h=>exact⟨s1,s2,rfl,h.1,h.2.1⟩
theorem c5P {l:List D} {z n b o:Nat} {i:Int} {xs:List Value} (hlen:l.length=n*z) (hfl:A9 l=true) (hok:ok b) (hrep:d6 ok w l xs) (hcell:∀j,j<n*z→w.cell? ⟨b,o+j,none⟩=xs[j]?) (h0:0≤i) (hlt:i<n):
 Rep ok w (.ptr (el l z i.toNat) 0) (.pointer (some ⟨b,o+i.toNat*z,none⟩)):=by
 have hj:i.toNat<n:=by omega
 have hel:=b8O hlen hj
 have hjz:(i.toNat+1)*z≤n*z:=Nat.mul_le_mul_right z hj
 rw [Nat.add_mul]at hjz
 simp only [Rep]
 refine⟨b,o+i.toNat*z,(xs.drop (i.toNat*z)).take z,rfl,hok,a8p hfl fun d hd=>b9c hd,(hrep.drop _).take _,fun j hj=> ?_⟩
 rw [hel]at hj
 rw [show o+i.toNat*z+j=o+(i.toNat*z+j) from by omega,hcell _ (by omega),List.getElem?_take,if_pos hj,List.getElem?_drop]
theorem c4h {l:List D} {z n p q c':Nat} {a a':Option Addr} {m:Nat} {xs:List Value} (hlen:l.length=n*z) (hmx:(n:Int)≤9223372036854775807) (hfl:A9 l=true)
 (hmem:c'=0∨∃b o xs,a=some ⟨b,o,none⟩∧ok b∧d6 ok w l xs∧∀j,j<n*z→w.cell? ⟨b,o+j,none⟩=xs[j]?) (hpq:p≤q) (hqn:q≤n) (hnc:n≤c') (ha':a'=c3k a p c' z):
 Rep ok w (.lst z (q-p) ((l.drop (p*z)).take ((q-p)*z))) (.slice a' (q-p) (c'-p)):=by
 simp only [Rep]
 have hqz:q*z≤n*z:=Nat.mul_le_mul_right z hqn
 have hpz:p*z≤q*z:=Nat.mul_le_mul_right z hpq
 refine⟨a',c'-p,rfl,by omega,by omega,by simp [hlen,Nat.sub_mul];omega,a8p hfl fun d hd=>List.mem_of_mem_drop (List.mem_of_mem_take hd), ?_⟩
 rcases hmem with rfl|⟨b,o,xs,rfl,hok,hrep,hcell⟩
 · left
   omega
 · right
   have hq:(q-p)*z=q*z-p*z:=Nat.sub_mul ..
   by_cases hpc:c'=p
   · refine⟨b,o,(xs.drop (p*z)).take ((q-p)*z), ?_,hok,(hrep.drop _).take _,fun j hj=> ?_⟩
     · rw [ha'];unfold c3k;rw [if_pos hpc]
     · have:q=p:=by omega
       subst this;simp at hj
   · refine⟨b,o+p*z,(xs.drop (p*z)).take ((q-p)*z), ?_,hok,(hrep.drop _).take _,fun j hj=> ?_⟩
     · rw [ha'];unfold c3k;rw [if_neg hpc];simp [V5]
     · rw [show o+p*z+j=o+(p*z+j) from by omega,hcell _ (by omega),List.getElem?_take,if_pos hj,List.getElem?_drop]
theorem c0Y {X:Cx} {st:St} {x y:Operand} {s t:SV} {op:BinOp} {ty yt:TypeId} {K:Out→Prop} {n:Nat} {agg:Bool} {z:List Value} {ks:List CK} {d:TD} {l m:List SV} {e:Bool} (hs:ev st x=some s) (ht:ev st y=some t)
 (n1:∀k a,s≠ .v (.int k a)) (n2:∀a,s≠ .v (.string a)) (hi:I8 X.tt ty=some ⟨n,agg,z,some ks,d⟩) (hl:a6y agg s=some l) (hm:a6y agg t=some m) (he:a6z ks l m=some e) (h:a4W op e K):ev1 X st (.binOp op ty x y yt) K:=by
 simp only [ev1,hs,ht]
 split
 · rename_i e1 _;cases e1;exact absurd rfl (n1 _ _)
 · rename_i e1 _;cases e1;exact absurd rfl (n2 _)
 · rename_i e1 e2;cases e1;cases e2;rw [hi];simp only [hl,hm,he];exact h
 · rename_i hno;exact hno _ _ rfl rfl
theorem b5o {z:Nat} {st:Sy}:∀ {ps:List (Nat×Operand)} {l l':List D},a5I z st ps l=some l'→l'.length=l.length
 | [],l,l',h=>by simp only [a5I]at h;cases h;rfl
 |(i,x)::ps,l,l',h=>by
  simp only [a5I]at h
  split at h
  · split at h
    · split at h
      · split at h
        · rename_i q hq
          rw [b5o h,b1x hq]
        · cases h
      · cases h
    · cases h
  · cases h
theorem c2o (l:List Value):(vD l).length=l.length:=by
 induction l with
 |nil=>rfl
 |cons x l ih=>simp [vD,ih]
theorem b8a (n:Nat) (l:List D):(b1L n l).length=n*l.length:=by
 induction n with
 |zero=>simp [b1L]
 |succ n ih=>simp [b1L,ih,Nat.add_mul,Nat.add_comm]
theorem c6t (l:List Value):Y6 (vD l)=true:=by
 induction l with
 |nil=>rfl
 |cons x l ih=>simp only [vD,Y6,b4q];exact ih
theorem c1i {l r:List D} (h:Y6 l=true) (h':Y6 r=true):Y6 (l++r)=true:=by
 induction l with
 |nil=>exact h'
 |cons x l ih=>
  simp only [Y6]at h
  simp only [List.cons_append,Y6]
  cases hx:b4q x with
  |true=>rw [hx]at h;exact ih h
  |false=>rw [hx]at h;cases h
theorem c4d (n:Nat) {l:List D} (h:Y6 l=true):Y6 (b1L n l)=true:=by
 induction n with
 |zero=>rfl
 |succ n ih=>exact c1i h ih
theorem a8n {l:List D} (h:Y6 l=true):A9 l=true:=R9 fun d hd=>by
 have:=b8L h hd
 cases d<;>simp [b4q]at this<;>rfl
theorem b7t {l:List D} {r:List SV} (h:c5 ok w R l r) (n:Nat):c5 ok w R (b1L n l) (a5M n r):=by
 induction n with
 |zero=>trivial
 |succ n ih=>exact h.app ih
end
section
variable {A : Nat → Prop} {X : Cy} {w0 : World} {bor : List Nat} {st : St} {sy : Sy} {KY : a7g → Prop} {K : Out → Prop}
theorem b4S (hs:Sim A st sy) {fs:List (Nat×Nat×Nat)}:∀ {ps:List (Nat×Operand)} {l l':List D} {r:List SV},b3v fs sy ps l=some l'→c5 (okS A st) st.w (B1 st) l r→
 ∃r',b2T fs st ps r=some r'∧c5 (okS A st) st.w (B1 st) l' r'
 | [],l,l',r,h,hr=>by simp only [b3v]at h;cases h;exact⟨r,rfl,hr⟩
 |(i,x)::ps,l,l',r,h,hr=>by
  simp only [b3v]at h
  split at h
  · rename_i a off n d hn hd
    obtain⟨s,h1,h2,_⟩:=j5 hs hd
    split at h
    · rename_i cs hc
      obtain⟨cs',h3,h4⟩:=h2.cells hc
      split at h
      · rename_i hl hf
        split at h
        · rename_i q hq
          obtain⟨q',h5,h6⟩:=hr.over h4 hq
          obtain⟨r',h7,h8⟩:=b4S hs h h6
          refine⟨r', ?_,h8⟩
          simp only [b2T,hn,h1,h3,←h4.length,hl,h4.one (b5w st) hf,h5]
          exact h7
        · cases h
      · cases h
    · cases h
  · cases h
theorem b0R (hs:Sim A st sy) {z:Nat}:∀ {ps:List (Nat×Operand)} {l l':List D} {r:List SV},a5I z sy ps l=some l'→c5 (okS A st) st.w (B1 st) l r→
 ∃r',a9E z st ps r=some r'∧c5 (okS A st) st.w (B1 st) l' r'
 | [],l,l',r,h,hr=>by simp only [a5I]at h;cases h;exact⟨r,rfl,hr⟩
 |(i,x)::ps,l,l',r,h,hr=>by
  simp only [a5I]at h
  split at h
  · rename_i d hd
    obtain⟨s,h1,h2,_⟩:=j5 hs hd
    split at h
    · rename_i cs hc
      obtain⟨cs',h3,h4⟩:=h2.cells hc
      split at h
      · rename_i hl hf
        split at h
        · rename_i q hq
          obtain⟨q',h5,h6⟩:=hr.over h4 hq
          obtain⟨r',h7,h8⟩:=b0R hs h h6
          refine⟨r', ?_,h8⟩
          simp only [a9E,h1,h3,←h4.length,hl,h4.one (b5w st) hf,h5]
          exact h7
        · cases h
      · cases h
    · cases h
  · cases h
theorem b5Y (hs:Sim A st sy) {len cap cap':Nat} {lo hi mx:Option Operand} {B:Nat→Nat→Nat→Prop} {B':Nat→Nat→Nat→Prop} (hc:cap≤cap') (hlc:len≤cap) (h:b8W sy len cap lo hi mx B)
 (hB:∀a b m,a≤b→b≤cap→B a b m→B' a b cap'):bnd st len cap' lo hi mx B':=by
 unfold b8W at h
 split at h
 · split at h
   · split at h
     · exact hB _ _ _ (Nat.zero_le _) hlc h
     · split at h
       · rename_i hl
         obtain⟨s,h1,h2,_⟩:=j5 hs hl
         have:=h2.sc;subst this
         simp only [bnd,h1]
         refine⟨h.1,hB _ _ _ (by omega) hlc h.2⟩
       · exact h.elim
   · split at h
     · rename_i hl
       obtain⟨s,h1,h2,_⟩:=j5 hs hl
       have:=h2.sc;subst this
       simp only [bnd,h1]
       refine⟨⟨h.1.1,by omega⟩, ?_⟩
       replace h:=h
       obtain⟨h0,h⟩:=h
       split at h
       · exact hB _ _ _ (Nat.zero_le _) (by omega) h
       · split at h
         · rename_i hl2
           obtain⟨s,h3,h4,_⟩:=j5 hs hl2
           have:=h4.sc;subst this
           simp only [h3]
           exact⟨h.1,hB _ _ _ (by omega) (by omega) h.2⟩
         · exact h.elim
     · exact h.elim
 · exact h.elim
variable (hK : ∀ oy o, a8W st.H (okS A st) st.w (B1 st) oy o → KY oy → K o)
include hK
theorem a3f {x:Value} (h:KY (.val (.v x))) (ho:a5V x=true):K (.val (.v x)):=M1 hK h (by simp only [c6];exact⟨trivial,ho⟩) (by simp)
theorem b7K (hs:Sim A st sy) {b:Builtin} {args:List Operand} {tys:List TypeId} (h:b2X X sy b args tys KY):R2 (cx X w0 bor) st b args tys K:=by
 unfold b2X at h
 split at h
 · split at h
   · rename_i ht he
     obtain⟨s,h1,h2⟩:=Y7 hs he
     obtain⟨s1,rfl,h3⟩:=h2.one1
     have:=h3.sc;subst this
     simp only [R2,cx,ht,h1]
     exact a3f hK h rfl
   · rename_i ht he
     obtain⟨s,h1,h2⟩:=Y7 hs he
     obtain⟨s1,rfl,h3⟩:=h2.one1
     simp only [c6,Rep]at h3
     obtain⟨y,rfl,a,c,rfl,_⟩:=h3
     simp only [R2,cx,ht,h1]
     exact a3f hK h rfl
   · rename_i ht he
     obtain⟨s,h1,h2⟩:=Y7 hs he
     obtain⟨s1,rfl,h3⟩:=h2.one1
     simp only [c6]at h3
     obtain⟨rfl,_⟩:=h3
     simp only [R2,cx,ht,h1]
     exact a3f hK h rfl
   · rename_i ht he
     obtain⟨s,h1,h2⟩:=Y7 hs he
     obtain⟨s1,rfl,h3⟩:=h2.one1
     simp only [c6]at h3
     obtain⟨rfl,_⟩:=h3
     split at h
     · rename_i hf
       obtain⟨e',hf',he⟩:=hs.H _ _ hf
       cases e' with
       |blk=>exact he.elim
       |row v n' xs z' ty'=>
        obtain⟨rfl,_⟩:=he
        simp only [R2,cx,ht,h1,hf']
        exact a3f hK h rfl
     · exact h.elim
   · rename_i ht he
     obtain⟨s,h1,h2⟩:=Y7 hs he
     obtain⟨s1,rfl,h3⟩:=h2.one1
     have:=h3.sc;subst this
     simp only [R2,cx,ht,h1]
     exact a3f hK h rfl
   · exact h.elim
 · split at h
   · rename_i he
     obtain⟨s,h1,h2⟩:=Y7 hs he
     obtain⟨s1,s2,rfl,h3,h4⟩:=h2.two
     have:=h3.sc;subst this
     have:=h4.sc;subst this
     simp only [R2,h1]
     exact a3f hK h rfl
   · rename_i he
     obtain⟨s,h1,h2⟩:=Y7 hs he
     obtain⟨s1,s2,s3,rfl,h3,h4,h5⟩:=h2.three
     have:=h3.sc;subst this
     have:=h4.sc;subst this
     have:=h5.sc;subst this
     simp only [R2,h1]
     exact a3f hK h rfl
   · exact h.elim
 · split at h
   · rename_i he
     obtain⟨s,h1,h2⟩:=Y7 hs he
     obtain⟨s1,s2,rfl,h3,h4⟩:=h2.two
     have:=h3.sc;subst this
     have:=h4.sc;subst this
     simp only [R2,h1]
     exact a3f hK h rfl
   · exact h.elim
 · split at h
   · rename_i hb ht he
     obtain⟨s,h1,h2⟩:=Y7 hs he
     obtain⟨s1,s2,rfl,h3,h4⟩:=h2.two
     split at h
     · rename_i i hi
       split at h
       · rename_i hn
         simp only [R2,cx,hb,ht,h1,hi,hn]
         exact hK _ _ (by exact⟨rfl,rfl,rfl,h3,h4⟩) h
       · exact h.elim
     · exact h.elim
   · exact h.elim
 · exact h.elim
theorem c0O {fs:List (Nat×Nat×Nat)} {f:Nat} {x:D} {s:SV} (h:b8U X fs f x KY) (hr:c6 (okS A st) st.w (B1 st) x s):a9M (cx X w0 bor) fs f s K:=by
 unfold b8U at h
 split at h
 · rename_i hn ha
   obtain⟨r,h1,h2⟩:=b7g ha hr
   split at h
   · rename_i hi hq
     obtain⟨q,h3,h4⟩:=(h2.dropD _).takeD hq
     split at h
     · rename_i hb
       simp only [a9M,cx,hn,h1,hi,h3,hb]
       exact b5P hK h h4
     · exact h.elim
   · exact h.elim
 · exact h.elim
theorem b4m (hz:∀t i,I8 X.tt t=some i→(∀x,x∈i.z→a5V x=true)∧i.z.length=i.n) (hs:Sim A st sy) {t:TypeId} {l c:Operand} (h:y1 X sy (.makeSlice t l c) KY):ev1 (cx X w0 bor) st (.makeSlice t l c) K:=by
 simp only [y1]at h
 split at h
 · rename_i n0 agg0 z0 eq0 e esz bytes k1 p k2 q hi hl hc
   obtain⟨s,h1,h2,_⟩:=j5 hs hl
   obtain⟨u,h3,h4,_⟩:=j5 hs hc
   have:=h2.sc;subst this
   have:=h4.sc;subst this
   split at h
   · rename_i i hie
     split at h
     · rename_i hn
       obtain⟨h0,l',n',⟨rfl,rfl⟩,h⟩:=h
       simp only [ev1,cx,hi,h1,h3,hie,hn]
       have hzi:=hz _ _ hie
       have hrel:c5 (okS A st) st.w (B1 st) (b1L p.toNat (vD i.z)) (a5M p.toNat (vs i.z)):=b7t (b2B hzi.1) _
       have hno:Y6 (b1L p.toNat (vD i.z))=true:=c4d _ (c6t i.z)
       obtain⟨xs,hx,h5⟩:=hrel.vals hno
       refine⟨h0,hK (.newR (b1L p.toNat (vD i.z)) e esz p.toNat) _ (by exact⟨rfl,rfl,by rw [b8a,c2o,hzi.2,w4 hn],by simp only [maxLen];omega,a8n hno,xs,hx,h5⟩) h⟩
     · exact h.elim
   · exact h.elim
 · exact h.elim
theorem b7O (hs:Sim A st sy) {x:Operand} {n:Nat} (h:y1 X sy (.extract x n) KY):ev1 (cx X w0 bor) st (.extract x n) K:=by
 simp only [y1]at h
 cases hx:evY sy x with
 |none=>rw [hx]at h;exact h.elim
 |some d=>
  rw [hx]at h
  obtain⟨s,h1,h2,_⟩:=j5 hs hx
  cases d with
  |tup l=>
   simp only at h
   simp only [c6]at h2
   cases hq:dropD n l with
   |nil=>rw [hq]at h;exact h.elim
   |cons d r=>
    rw [hq]at h
    have hne:d≠ .bad:=fun e=>by subst e;exact h.elim
    have hk:KY (.val d):=by cases d<;>first|exact h|exact absurd rfl hne
    rcases h2 with⟨cs,rfl,h2⟩|⟨a,rfl,h2⟩
    · have h3:=h2.dropD n
      rw [hq]at h3
      simp only [ev1,h1]
      cases hq2:a2b n cs with
      |nil=>rw [hq2]at h3;simp [c5]at h3
      |cons q qs=>
       rw [hq2]at h3
       have hqb:=h3.1.ne hne
       have:=M1 hK hk h3.1 hne
       cases q<;>first|exact this|exact absurd rfl hqb
    · have h3:=h2.dropD n
      rw [hq]at h3
      simp only [ev1,h1]
      cases hq2:a2b n (vs a.toList)with
      |nil=>rw [hq2]at h3;simp [c5]at h3
      |cons q qs=>rw [hq2]at h3;exact M1 hK hk h3.1 hne
  |_=>exact h.elim
theorem b3B (hz:∀t i,I8 X.tt t=some i→(∀x,x∈i.z→a5V x=true)∧i.z.length=i.n) (hs:Sim A st sy) {t:TypeId} {n:Nat} {ps:Array (Nat×Operand)} (h:y1 X sy (.buildSlice t n ps) KY):ev1 (cx X w0 bor) st (.buildSlice t n ps) K:=by
 simp only [y1]at h
 cases hi:I8 X.tt t with
 |none=>rw [hi]at h;exact h.elim
 |some i=>
  rw [hi]at h
  obtain⟨in_,agg,iz,ieq,d⟩:=i
  cases d with
  |slice e esz bytes=>
   simp only at h
   cases hie:I8 X.tt e with
   |none=>rw [hie]at h;exact h.elim
   |some i=>
    rw [hie]at h
    simp only at h
    cases hb:Nat.ble (n*esz) 16777216 with
    |false=>rw [hb]at h;exact h.elim
    |true=>
     rw [hb]at h
     cases hn:Nat.beq i.n esz with
     |false=>rw [hn]at h;exact h.elim
     |true=>
      rw [hn]at h
      cases hl:a5I esz sy ps.toList (b1L n (vD i.z))with
      |none=>rw [hl]at h;exact h.elim
      |some l=>
       rw [hl]at h
       simp only at h
       obtain⟨r,h1,h2⟩:=b0R hs hl (b7t (b2B (hz _ _ hie).1) _)
       simp only [ev1,cx,hi,hie,hb,hn,h1]
       have hlen:l.length=n*esz:=by rw [b5o hl,b8a,c2o,(hz _ _ hie).2,w4 hn]
       cases hno:Y6 l with
       |false=>rw [hno]at h;exact hK (.new l e (some (esz,n))) _ (by exact⟨rfl,h2,rfl⟩) (by cases Nat.ble n 16777216<;>exact h)
       |true=>
        rw [hno]at h
        cases hbn:Nat.ble n 16777216 with
        |false=>rw [hbn]at h;exact hK (.new l e (some (esz,n))) _ (by exact⟨rfl,h2,rfl⟩) h
        |true=>
         rw [hbn]at h
         obtain⟨l',n',⟨rfl,rfl⟩,h⟩:=h
         obtain⟨xs,rfl,h3⟩:=h2.vals hno
         exact hK (.newR l e esz n) _ (by exact⟨rfl,rfl,hlen,(by have:=Nat.le_of_ble_eq_true hbn;simp only [maxLen];omega),a8n hno,xs,rfl,h3⟩) h
  |_=>exact h.elim
theorem b8x (hs:Sim A st sy) {t:TypeId} {x ix:Operand} {ok:Bool} (h:y1 X sy (.lookup t x ix ok) KY):ev1 (cx X w0 bor) st (.lookup t x ix ok) K:=by
 simp only [y1]at h
 split at h
 · rename_i l i hx hi
   obtain⟨hT,f,hf,hk⟩:=h
   obtain⟨s,h1,h2,_⟩:=j5 hs hx
   obtain⟨s',h3,h4,_⟩:=j5 hs hi
   have:=h4.sc;subst this
   simp only [c6,Rep]at h2
   obtain⟨y,rfl,r,es,c,rfl,hok,hb,he⟩:=h2
   obtain⟨j,hj⟩:=b4u l es.toList 0 he hf
   simp only [ev1,h1,h3]
   exact⟨hT,es,c,j,_, .inr ⟨hok.2.2,hb⟩,hj,M1 hK hk (by simp only [c6];exact .inr ⟨#[], #[],rfl,trivial,trivial⟩) (by simp)⟩
 · exact h.elim
theorem c3i (hs:Sim A st sy) {c:Call} (h:y1 X sy (.call c) KY):ev1 (cx X w0 bor) st (.call c) K:=by
 obtain⟨callee,args,tys⟩:=c
 cases callee with
 |value f=>
  simp only [y1]at h
  cases hf:evY sy f with
  |none=>rw [hf]at h;exact h.elim
  |some d=>
   rw [hf]at h
   cases d with
   |fn g l caps=>
    try simp only at h
    cases ha:a8T sy args.toList with
    |none=>rw [ha]at h;exact h.elim
    |some as=>
     rw [ha]at h
     try simp only at h
     obtain⟨s,h1,h2,_⟩:=j5 hs hf
     obtain⟨t,h3,h4⟩:=Y7 hs ha
     simp only [c6]at h2
     rcases h2 with⟨p,q,rfl,h5,h6⟩|⟨p,q,rfl,h5,h6⟩
     · simp only [ev1,h1,h3]
       exact hK (.call g _) _ (by exact⟨rfl,h5.app (h4.app h6)⟩) h
     · simp only [ev1,h1,h3]
       exact hK (.call g _) _ (by exact⟨rfl,h5.app (h4.app h6)⟩) h
   |_=>exact h.elim
 |builtin b=>
  simp only [y1]at h
  simp only [ev1]
  exact b7K hK hs h
 |_=>exact h.elim
theorem b9j (hz:∀t i,I8 X.tt t=some i→(∀x,x∈i.z→a5V x=true)∧i.z.length=i.n) (hs:Sim A st sy) {op:Op} (h:y1 X sy op KY):ev1 (cx X w0 bor) st op K:=by
 unfold y1 at h
 split at h
 · exact b6t hK hs h
 · exact b6t hK hs h
 · split at h
   · rename_i hc
     obtain⟨s,h1,h2,_⟩:=j5 hs hc
     have:=h2.sc;subst this
     simp only [ev1,h1]
     rename_i t _
     cases t
     · exact b6t hK hs h
     · exact b6t hK hs h
   · exact h.elim
 · split at h
   · rename_i i hi
     simp only [ev1,cx,hi]
     exact hK _ _ (by exact⟨rfl,b2B (hz _ _ hi).1,rfl⟩) h
   · exact h.elim
 · split at h
   · rename_i i d hi hd
     obtain⟨s,h1,h2,_⟩:=j5 hs hd
     split at h
     · rename_i l hl
       obtain⟨r,h3,h4⟩:=h2.cells hl
       split at h
       · rename_i hf
         simp only [ev1,cx,hi,h1,h3,h4.one (b5w st) hf]
         exact hK _ _ (by exact⟨rfl,h4,rfl⟩) h
       · exact h.elim
     · exact h.elim
   · exact h.elim
 · split at h
   · rename_i i d hi hd
     obtain⟨s,h1,h2,_⟩:=j5 hs hd
     simp only [ev1,h1]
     simp only [cx,hi]
     exact c0z (X:=X) (w0:=w0) (bor:=bor) hK hs h h2
   · exact h.elim
 · split at h
   · rename_i i d e hi hd he
     obtain⟨s,h1,h2,_⟩:=j5 hs hd
     obtain⟨t,h3,h4,_⟩:=j5 hs he
     simp only [ev1,cx,hi,h1,h3]
     exact b8v hK hs h h2 h4
   · exact h.elim
 · split at h
   · rename_i hd
     obtain⟨s,h1,h2,h3⟩:=j5 hs hd
     have h2':=h2
     simp only [c6]at h2;obtain⟨rfl,_⟩:=h2
     simp only [ev1,h1];exact M1 hK h h2' h3
   · rename_i hd
     obtain⟨s,h1,h2,h3⟩:=j5 hs hd
     have h2':=h2
     simp only [c6]at h2;obtain⟨rfl,_⟩:=h2
     simp only [ev1,h1];exact M1 hK h h2' h3
   · rename_i hd
     obtain⟨s,h1,h2,h3⟩:=j5 hs hd
     have h2':=h2
     simp only [c6]at h2;obtain⟨rfl,_⟩:=h2
     simp only [ev1,h1];exact M1 hK h h2' h3
   · rename_i hd
     obtain⟨s,h1,h2,h3⟩:=j5 hs hd
     have h2':=h2
     simp only [c6,Rep]at h2;obtain⟨y,rfl,b,p,xs,rfl,_⟩:=h2
     simp only [ev1,h1];exact M1 hK h h2' h3
   · exact h.elim
 · split at h
   · rename_i hi hd
     obtain⟨s,h1,h2,_⟩:=j5 hs hd
     split at h
     · rename_i hn
       obtain⟨y,h3,h4⟩:=a3h h
       obtain⟨t,h5,h6,h7⟩:=b3F h3 h2
       simp only [ev1,cx,hi,h1,hn,h5]
       exact M1 hK h4 h6 h7
     · exact h.elim
   · exact h.elim
 · split at h
   · rename_i hi hd
     obtain⟨s,h1,h2,_⟩:=j5 hs hd
     simp only [ev1,h1]
     simp only [cx,hi]
     exact c0O (X:=X) (w0:=w0) (bor:=bor) hK h h2
   · exact h.elim
 · --indexAddr
   split at h
   · rename_i hi hd hx
     obtain⟨s,h1,h2,_⟩:=j5 hs hd
     obtain⟨t,h3,h4,_⟩:=j5 hs hx
     have:=h4.sc;subst this
     split at h
     · rename_i hz
       obtain rfl:=w4 hz
       obtain⟨cs,⟨rfl,h0,hlt⟩,h⟩:=h
       simp only [c6,Rep]at h2
       obtain⟨y,rfl,a,c,rfl,hnc,hmx,hlen,hfl,hmem⟩:=h2
       simp only [ev1,cx,hi,h1,h3]
       rcases hmem with rfl|⟨b,o,xs,rfl,hok,hrep,hcell⟩
       · omega
       · refine⟨b,o,⟨rfl,h0,hlt⟩,M1 hK h ?_ (by simp)⟩
         simp only [c6]
         exact⟨_,rfl,c5P hlen hfl hok hrep hcell h0 hlt⟩
     · exact h.elim
   · rename_i hi hd hx
     obtain⟨s,h1,h2,_⟩:=j5 hs hd
     obtain⟨t,h3,h4,_⟩:=j5 hs hx
     have:=h4.sc;subst this
     simp only [c6]at h2
     obtain⟨rfl,h2⟩:=h2
     split at h
     · rename_i hz
       obtain rfl:=w4 hz
       simp only [ev1,cx,hi,h1,h3]
       exact⟨h.1,M1 hK h.2 (by simp only [c6];exact⟨trivial,h2⟩) (by simp)⟩
     · exact h.elim
   · rename_i hi hd hx
     obtain⟨s,h1,h2,_⟩:=j5 hs hd
     obtain⟨t,h3,h4,_⟩:=j5 hs hx
     have:=h4.sc;subst this
     simp only [c6]at h2
     obtain⟨rfl,h2⟩:=h2
     split at h
     · rename_i hz hf
       obtain rfl:=w4 hz
       obtain⟨e',hf',he⟩:=hs.H _ _ hf
       cases e' with
       |blk=>exact he.elim
       |row v n' xs z' ty'=>
        obtain⟨rfl,_⟩:=he
        split at h
        · rename_i hz2
          simp only [ev1,cx,hi,h1,h3,hf']
          exact⟨h.1,M1 hK h.2 (by simp only [c6];exact⟨rfl,h2⟩) (by simp)⟩
        · exact h.elim
     · exact h.elim
   · omega
   · rename_i hi hd hx
     obtain⟨s,h1,h2,_⟩:=j5 hs hd
     obtain⟨t,h3,h4,_⟩:=j5 hs hx
     have:=h4.sc;subst this
     obtain⟨h0,h⟩:=h
     obtain⟨y,h5,h6⟩:=a3h h
     simp only [ev1,cx,hi,h1,h3]
     refine⟨h0, ?_⟩
     split at h5
     · obtain⟨u,h7,h8,h9⟩:=b3F h5 h2
       rename_i hc
       simp only [hc,h7];exact M1 hK h6 h8 h9
     · obtain⟨u,h7,h8,h9⟩:=b7o h5 h2
       rename_i hc
       simp only [hc,h7];exact M1 hK h6 h8 h9
   · exact h.elim
 · --index
   split at h
   · rename_i hi hd hx
     obtain⟨s,h1,h2,_⟩:=j5 hs hd
     obtain⟨t,h3,h4,_⟩:=j5 hs hx
     have:=h4.sc;subst this
     have:=h2.sc;subst this
     obtain⟨c,h0,h⟩:=h
     simp only [ev1,cx,hi,h1,h3]
     exact⟨c,h0,a3f hK h rfl⟩
   · rename_i hi hd hx
     obtain⟨s,h1,h2,_⟩:=j5 hs hd
     obtain⟨t,h3,h4,_⟩:=j5 hs hx
     have:=h4.sc;subst this
     split at h
     · rename_i ha hti
       obtain⟨r,h5,h6⟩:=b7g ha h2
       obtain⟨h0,h⟩:=h
       simp only [ev1,cx,hi,h1,h3,h5,hti]
       refine⟨h0, ?_⟩
       split at h
       · rename_i hb hq
         obtain⟨q,h7,h8⟩:=(h6.dropD _).takeD hq
         simp only [hb,h7]
         exact b5P hK h h8
       · exact h.elim
     · exact h.elim
   · exact h.elim
 · --binOp
   split at h
   · rename_i hx hy
     obtain⟨s,h1,h2,_⟩:=j5 hs hx
     obtain⟨t,h3,h4,_⟩:=j5 hs hy
     have:=h2.sc;subst this
     have:=h4.sc;subst this
     simp only [ev1,h1,h3]
     generalize hb1:c5S _=b1 at h⊢
     generalize hb2:kEq _ _=b2 at h⊢
     cases b1<;>cases b2<;>simp only at h⊢
     · exact b8q (fun o ho=>a3k hK ho) h
     · exact b5B (fun o ho=>a3k hK ho) h
     · exact b5B (fun o ho=>a3k hK ho) h
   · rename_i hx hy
     obtain⟨s,h1,h2,_⟩:=j5 hs hx
     obtain⟨t,h3,h4,_⟩:=j5 hs hy
     have:=h2.sc;subst this
     have:=h4.sc;subst this
     simp only [ev1,h1,h3]
     exact b8Y (fun o ho=>a3k hK ho) h
   · rename_i hx hy
     obtain⟨s,h1,h2,_⟩:=j5 hs hx
     obtain⟨t,h3,h4,_⟩:=j5 hs hy
     split at h
     · rename_i hi
       split at h
       · rename_i hl hm
         obtain⟨⟨l',h5,h6⟩,h7⟩:=b2D hl h2
         obtain⟨⟨m',h8,h9⟩,h10⟩:=b2D hm h4
         split at h
         · rename_i e he
           have he':=c2a he h6 h9
           have nots:(∀k a,s≠ .v (.int k a))∧(∀a,s≠ .v (.string a)):=by
            rcases h7 with⟨_,cs,hcs⟩|⟨c,rfl⟩
            · exact⟨fun k a e=>by subst e;simp [a5d]at hcs,fun a e=>by subst e;simp [a5d]at hcs⟩
            · exact⟨fun k a e=>(by cases e),fun a e=>(by cases e)⟩
           exact c0Y h1 h3 nots.1 nots.2 hi h5 h8 he' (a7G (fun o ho=>a3k hK ho) h)
         · exact h.elim
       · exact h.elim
     · rename_i hi
       split at h
       · simp only [c6,Rep]at h2
         obtain⟨y,rfl,a,c,rfl,hnc,hmx,hlen,hfl,hmem⟩:=h2
         have:=h4.sc;subst this
         simp only [ev1,cx,h1,h3,hi]
         refine a7G (fun o ho=>a3k hK ho) (h a.isNone fun hb=> ?_)
         rcases hmem with rfl|⟨b,o,xs,rfl,_⟩
         · omega
         · cases hb
       · have:=h2.sc;subst this
         have:=h4.sc;subst this
         simp only [ev1,cx,h1,h3,hi]
         exact a7G (fun o ho=>a3k hK ho) h
       · exact h.elim
     · exact h.elim
   · exact h.elim
 · split at h
   · rename_i hx
     obtain⟨s,h1,h2,_⟩:=j5 hs hx
     have:=h2.sc;subst this
     simp only [ev1,h1];exact a3f hK h rfl
   · rename_i hx
     obtain⟨s,h1,h2,_⟩:=j5 hs hx
     have:=h2.sc;subst this
     simp only [ev1,h1];exact a3f hK h rfl
   · exact h.elim
 · split at h
   · rename_i h1 h2 hx
     obtain⟨s,g1,g2,_⟩:=j5 hs hx
     have:=g2.sc;subst this
     simp only [ev1,cx,h1,h2,g1];exact a3f hK h rfl
   · exact h.elim
 · exact b7O hK hs (by simpa only [y1]using h)
 · split at h
   · rename_i hl hc
     obtain⟨l',h1,h2⟩:=Y7 hs hl
     obtain⟨c',h3,h4⟩:=Y7 hs hc
     simp only [ev1,h1,h3]
     exact M1 hK h (by simp only [c6];exact .inl ⟨_,_,rfl,h2,h4⟩) (by simp)
   · exact h.elim
 · split at h
   · rename_i hi
     split at h
     · rename_i l hl
       have hzz:=(hz _ _ hi).1
       obtain⟨r,h1,h2⟩:=b4S hs hl (b2B hzz)
       split at h
       · rename_i hf
         simp only [ev1,cx,hi,h1]
         exact M1 hK h (by simp only [c6];exact⟨r,rfl,h2,hf⟩) (by simp)
       · exact h.elim
     · exact h.elim
   · rename_i hi
     split at h
     · rename_i l hl
       have hzz:=(hz _ _ hi).1
       obtain⟨r,h1,h2⟩:=b0R hs hl (b2B hzz)
       split at h
       · rename_i hf
         simp only [ev1,cx,hi,h1]
         exact M1 hK h (by simp only [c6];exact⟨r,rfl,h2,hf⟩) (by simp)
       · exact h.elim
     · exact h.elim
   · exact h.elim
 · exact b3B hK hz hs (by simpa only [y1]using h)
 · exact b4m hK hz hs (by simpa only [y1]using h)
 · split at h
   · rename_i hi hd
     obtain⟨s,h1,h2,_⟩:=j5 hs hd
     split at h
     · rename_i hzz
       obtain rfl:=w4 hzz
       simp only [c6,Rep]at h2
       obtain⟨y,rfl,a,c,rfl,hnc,hmx,hlen,hfl,hmem⟩:=h2
       simp only [ev1,cx,hi,h1]
       refine b5Y hs hnc (Nat.le_refl _) h fun p q m hpq hqn hk a' ha'=> ?_
       obtain⟨r,rfl,hk⟩:=hk
       refine M1 hK hk ?_ (by simp)
       simp only [c6]
       exact⟨_,rfl,c4h (xs:= []) (m:=0) hlen hmx hfl hmem hpq hqn hnc ha'⟩
     · exact h.elim
   · rename_i mx _ _ _ _ _ _ _ esz _ k z hi hd
     obtain⟨s,h1,h2,_⟩:=j5 hs hd
     simp only [c6]at h2
     obtain⟨rfl,hkey⟩:=h2
     split at h
     · rename_i hzz hf
       obtain rfl:=w4 hzz
       obtain⟨h0,h⟩:=h
       have hmx:mx=none:=by
        cases mx with
        |none=>rfl
        |some m=>simp [b8W]at h
       subst hmx
       obtain⟨e',hf',he⟩:=hs.H _ _ hf
       cases e' with
       |blk=>exact he.elim
       |row v n' xs z' ty'=>
        obtain⟨rfl,rfl,rfl,_⟩:=he
        simp only [ev1,cx,hi,h1,hf']
        refine⟨h0,fun c hnc=>b5Y hs hnc (Nat.le_refl _) h fun p q m hpq hqn hk=> ?_⟩
        refine M1 hK (hk (if c=p then 0 else p*z) ⟨?_,fun hp=>by subst hp;simp⟩) ?_ (by simp)
        · by_cases hc:c=p
          · left;omega
          · right;rw [if_neg hc]
        · simp only [c6];exact⟨trivial,hkey.1,by simp⟩
     · exact h.elim
   · rename_i hi hd
     obtain⟨s,h1,h2,_⟩:=j5 hs hd
     have:=h2.sc;subst this
     simp only [ev1,cx,hi,h1]
     rename_i mx _ _ _ _ _ _ _ _
     have hmx:mx=none:=by
      cases mx with
      |none=>rfl
      |some m=>simp [b8W]at h
     subst hmx
     exact b5Y hs (Nat.le_refl _) (Nat.le_refl _) h fun p q m _ _ hk=>a3f hK hk rfl
   · exact h.elim
 · exact b8x hK hs (by simpa only [y1]using h)
 · exact c3i hK hs (by simpa only [y1]using h)
 · exact h.elim
end
end Go.Sx
namespace Go.Sx
open Go Go.RowKit
mutual
def a3U (k:Nat):D→Bool
 | .own j _=>Nat.beq j k
 | .ownx j _=>Nat.beq j k
 | .row j _=>Nat.beq j k
 | .elr j _ _ _=>Nat.beq j k
 | .osl j _ _ _ _=>Nat.beq j k
 | .agg l=>a7E k l
 | .tup l=>a7E k l
 | .fn _ f c=>match a7E k f with|true=>true|false=>a7E k c
 |_=>false
def a7E (k:Nat):List D→Bool
 | []=>false
 |s::l=>match a3U k s with|true=>true|false=>a7E k l
end
def b0w (k:Nat) (s:D):D:=match a3U k s with|true=> .bad|false=>s
def b9D (k:Nat):List D→List D
 | []=> []
 |s::l=>b0w k s::b9D k l
def b6C (k:Nat):E→E
 | .blk cs ty=> .blk (b9D k cs) ty
 |e=>e
def a5E (k:Nat):Hy→Hy
 | []=> []
 |(j,e)::H=>(j,b6C k e)::a5E k H
def a9q (k:Nat) (T:List (Nat×D)) (K:List (Nat×D)→Prop):Prop:=match T with
 | []=>K []
 |(d,s)::T=>match a3U k s with
  |true=>a9q k T fun T'=>K ((d, .bad)::T')
  |false=>a9q k T fun T'=>K ((d,s)::T')
def b6p:Hy→Nat→E→(Hy→Prop)→Prop
 | [],_,_,_=>False
 |(k',e')::H,k,e,K=>match Nat.beq k' k with
  |true=>K ((k',e)::H)
  |false=>b6p H k e fun H'=>K ((k',e')::H')
mutual
def fzO (k:Nat) (e:E):D→Option D
 | .own j o=>match Nat.beq j k with
  |false=>some (.own j o)
  |true=>match e with| .blk cs _=>some (.ptr cs o)|_=>none
 | .ownx j o=>match Nat.beq j k with|false=>some (.ownx j o)|true=>none
 | .row j z=>match Nat.beq j k with
  |false=>some (.row j z)
  |true=>match e with| .row z' n l _=>some (.lst z' n l)|_=>none
 | .elr j z i o=>match Nat.beq j k with|false=>some (.elr j z i o)|true=>none
 | .osl j o z n c=>match Nat.beq j k with
  |false=>some (.osl j o z n c)
  |true=>match e with
   | .blk cs _=>match takeD (n*z) (dropD o cs),Nat.ble n c,Nat.ble n 9223372036854775807 with|some l,true,true=>some (.lst z n l)|_,_,_=>none
   |_=>none
 | .agg l=>match fzL k e l with|some l'=>some (.agg l')|none=>none
 | .tup l=>match fzL k e l with|some l'=>some (.tup l')|none=>none
 | .fn f a b=>match fzL k e a,fzL k e b with|some a',some b'=>some (.fn f a' b')|_,_=>none
 | .v x=>some (.v x)
 | .lst z n l=>some (.lst z n l)
 | .ptr l o=>some (.ptr l o)
 | .mp l=>some (.mp l)
 | .und=>some .und
 | .bad=>none
def fzL (k:Nat) (e:E):List D→Option (List D)
 | []=>some []
 |x::l=>match fzO k e x,fzL k e l with|some y,some r=>some (y::r)|_,_=>none
end
def fzG (k:Nat) (e:E) (x:D):D:=match fzO k e x with|some y=>y|none=> .bad
def fzT (k:Nat) (e:E):List (Nat×D)→List (Nat×D)
 | []=> []
 |(d,x)::T=>(d,fzG k e x)::fzT k e T
def fzC (k:Nat) (e:E):List D→List D
 | []=> []
 |x::l=>fzG k e x::fzC k e l
def fzE (k:Nat) (e:E):E→E
 | .blk cs ty=> .blk (fzC k e cs) ty
 |x=>x
def fzH (k:Nat) (e:E):Hy→Hy
 | []=> []
 |(j,x)::H=>match Nat.beq j k with
  |true=>fzH k e H
  |false=>(j,fzE k e x)::fzH k e H
mutual
def a0F:D→Bool
 | .v _=>true
 | .lst _ _ _=>true
 | .ptr _ _=>true
 | .mp _=>true
 | .agg l=>match U0 l with|true=>A9 l|false=>false
 | .tup l=>U0 l
 | .fn _ a b=>match U0 a with|true=>U0 b|false=>false
 |_=>false
def U0:List D→Bool
 | []=>true
 |x::l=>match a0F x with|true=>U0 l|false=>false
end
def okE:E→Bool
 | .blk cs _=>match U0 cs with|true=>A9 cs|false=>false
 | .row _ _ _ _=>true
def c3P (k:Nat) (e:E):List (Nat×D)→Option (List (Nat×D))
 | []=>some []
 |(d,x)::T=>match fzO k e x with
  |some y=>match c3P k e T with
   |some T'=>some ((d,y)::T')
   |none=>none
  |none=>match c3P k e T with
   |some T'=>some ((d, .bad)::T')
   |none=>none
def c3c (k:Nat) (e:E):List D→Option (List D)
 | []=>some []
 |x::l=>match fzO k e x with
  |some y=>match c3c k e l with
   |some l'=>some (y::l')
   |none=>none
  |none=>match c3c k e l with
   |some l'=>some (.bad::l')
   |none=>none
def c0y (k:Nat) (e:E):Hy→Option Hy
 | []=>some []
 |(j,x)::H=>match Nat.beq j k with
  |true=>c0y k e H
  |false=>match x with
   | .blk cs ty=>match c3c k e cs with
    |some cs'=>match c0y k e H with
     |some H'=>some ((j, .blk cs' ty)::H')
     |none=>none
    |none=>none
   | .row t c n m=>match c0y k e H with
    |some H'=>some ((j, .row t c n m)::H')
    |none=>none
theorem c0d (k:Nat) (e:E):∀T,c3P k e T=some (fzT k e T)
 | []=>rfl
 |(d,x)::T=>by
  simp only [c3P,c0d k e T,fzT,fzG]
  cases fzO k e x<;>rfl
theorem c0g (k:Nat) (e:E):∀l,c3c k e l=some (fzC k e l)
 | []=>rfl
 |x::l=>by
  simp only [c3c,c0g k e l,fzC,fzG]
  cases fzO k e x<;>rfl
theorem b9R (k:Nat) (e:E):∀H,c0y k e H=some (fzH k e H)
 | []=>rfl
 |(j,x)::H=>by
  simp only [c0y,b9R k e H,fzH]
  cases Nat.beq j k with
  |true=>rfl
  |false=>cases x<;>simp only [c0g,fzE]
def a5X:List Nat→Sy→List D→Option (Sy×List D)
 | [],st,l=>some (st,l)
 |k::ks,⟨T,H,nk⟩,l=>match j3 H k with
  |some e=>match okE e,fzL k e l with
   |true,some l'=>match c3P k e T with
    |some T'=>match c0y k e H with
     |some H'=>a5X ks ⟨T',H',nk⟩ l'
     |none=>none
    |none=>none
   |_,_=>none
  |none=>none
mutual
def c7j:Nat→Hy→List Nat→D→List Nat
 |0,_,acc,_=>acc
 |n+1,H,acc, .own j _=>b3b n H acc j
 |n+1,H,acc, .ownx j _=>b3b n H acc j
 |n+1,H,acc, .row j _=>b3b n H acc j
 |n+1,H,acc, .elr j _ _ _=>b3b n H acc j
 |n+1,H,acc, .osl j _ _ _ _=>b3b n H acc j
 |n+1,H,acc, .agg l=>a6q n H acc l
 |n+1,H,acc, .tup l=>a6q n H acc l
 |n+1,H,acc, .fn _ a b=>match a6q n H acc a with
  | []=>a6q n H [] b
  |y::r=>a6q n H (y::r) b
 |_,_,acc,_=>acc
def b3b:Nat→Hy→List Nat→Nat→List Nat
 |0,_,acc,_=>acc
 |n+1,H,acc,j=>match P8 j acc with
  |true=>acc
  |false=>match j3 H j with
   |some (.blk cs _)=>match a6q n H acc cs with
    | []=> [j]
    |y::r=>j::y::r
   |_=>j::acc
def a6q:Nat→Hy→List Nat→List D→List Nat
 |0,_,acc,_=>acc
 |_+1,_,acc, []=>acc
 |n+1,H,acc,x::l=>match c7j n H acc x with
  | []=>a6q n H [] l
  |y::r=>a6q n H (y::r) l
end
def c7b:List Nat→List Nat→List Nat
 | [],acc=>acc
 |x::l,acc=>c7b l (x::acc)
def c0n (H:Hy) (l:List D):List Nat:=c7b (a6q 40 H [] l) []
mutual
def a5H:D→Bool
 | .v _=>true
 | .agg l=>b7E l
 | .tup l=>b7E l
 |_=>false
def b7E:List D→Bool
 | []=>true
 |x::l=>match a5H x with|true=>b7E l|false=>false
end
def d7 (P:Program) (f:FuncId) (args:List D) (Q:D→Prop):Prop:=
 ∀(ok:Nat→Prop) (w:World) (vs:List Value),d6 ok w args vs→(∀b,ok b→b<w.heap.size)→
  Calls P f vs.toArray w fun e w'=>∃v r,e= .returned v∧Q r∧Rep (fun b=>ok b∨(w.heap.size≤b∧b<w'.heap.size)) w' r v∧Below w.heap.size w w'
def W6 (X:Cy) (st:Sy) (dst:Option Nat) (s:D) (K:Sy→Prop):Prop:=
 match dst with
 |none=>K st
 |some d=>match Nat.blt d X.nt,st with
  |true,⟨T,H,nk⟩=>K ⟨(d,s)::T,H,nk⟩
  |false,_=>False
mutual
def leD:D→D→Prop
 | .v x,y=>y= .v x∨(x= .slice none 0 0∧∃z,y= .lst z 0 [])
 | .agg l,y=>∃r,y= .agg r∧a4d l r
 | .tup l,y=>∃r,y= .tup r∧a4d l r
 |x,y=>x=y
def a4d:List D→List D→Prop
 | [], []=>True
 |x::l,y::r=>leD x y∧a4d l r
 |_,_=>False
end
mutual
def back (n:Nat):D→D
 | .row k z=>match Nat.blt k n with|true=> .row k z|false=> .v (.slice none 0 0)
 | .agg l=> .agg (a2N n l)
 | .tup l=> .tup (a2N n l)
 | .fn f a b=> .fn f (a2N n a) (a2N n b)
 |x=>x
def a2N (n:Nat):List D→List D
 | []=> []
 |x::l=>back n x::a2N n l
end
mutual
def inK (n:Nat) (ks:List Nat):D→Bool
 | .own j _=>match Nat.blt j n with|true=>P8 j ks|false=>false
 | .ownx j _=>match Nat.blt j n with|true=>P8 j ks|false=>false
 | .row j _=>P8 j ks
 | .elr j _ _ _=>match Nat.blt j n with|true=>P8 j ks|false=>false
 | .osl j _ _ _ _=>match Nat.blt j n with|true=>P8 j ks|false=>false
 | .agg l=>b9a n ks l
 | .tup l=>b9a n ks l
 | .fn _ a b=>match b9a n ks a with|true=>b9a n ks b|false=>false
 | .bad=>false
 |_=>true
def b9a (n:Nat) (ks:List Nat):List D→Bool
 | []=>true
 |x::l=>match inK n ks x with|true=>b9a n ks l|false=>false
end
def c3U (n:Nat) (ks:List Nat):List (Nat×D)→Bool
 | []=>true
 |(_,x)::T=>match inK n ks x with|true=>c3U n ks T|false=>false
def b5W (n:Nat) (ks:List Nat):List D→Bool
 | []=>true
 | .bad::l=>b5W n ks l
 |x::l=>match inK n ks x,a5B x with|true,true=>b5W n ks l|_,_=>false
def c0D (n:Nat) (ks:List Nat):Hy→Bool
 | []=>true
 |(k, .blk cs _)::H=>match Nat.blt k n,b5W n ks cs with|true,true=>c0D n ks H|_,_=>false
 |(_, .row _ _ _ _)::H=>c0D n ks H
def a0O:Hy→List Nat
 | []=> []
 |(k,_)::H=>k::a0O H
def ltY (n:Nat):Hy→Bool
 | []=>true
 |(k,_)::H=>match Nat.blt k n with|true=>ltY n H|false=>false
def b0a (n:Nat) (st:Sy):Bool:=match ndB (a0O st.H),ltY st.nk st.H,c3U n (a0O st.H) st.T,c0D n (a0O st.H) st.H with|true,true,true,true=>true|_,_,_,_=>false
def b0A:List D→List D→Prop
 | [], []=>True
 |_::l, .bad::r=>b0A l r
 |x::l,y::r=>leD x y∧b0A l r
 |_,_=>False
def b2t (n:Nat) (T:List (Nat×D)):List (Nat×D)→Prop
 | []=>True
 |(d,s)::r=>(∃y,s7 T d=some y∧leD y (back n s))∧b2t n T r
def b5y (n:Nat) (H:Hy) (k:Nat):E→Prop
 | .blk cs ty=>∃cs0,j3 H k=some (.blk cs0 ty)∧b0A cs0 (a2N n cs)
 | .row z m l ty=>match Nat.blt k n with
  |true=>∃m0 l0,j3 H k=some (.row z m0 l0 ty)∧m0=m∧l0=l
  |false=>m=0∧l= []
def b1y (n:Nat) (H:Hy):Hy→Prop
 | []=>True
 |(k,e)::r=>b5y n H k e∧b1y n H r
structure c5R (st st':Sy):Prop where
 ex:∃n,b0a n st'=true∧b2t n st.T st'.T∧b1y n st.H st'.H
structure Q0 (st st':Sy):Prop where
 ex:∃ks st1,a5X ks st []=some (st1, [])∧c5R st1 st'
def a1m (X:Cy) (st:Sy):List ResultVar→Option (List D)
 | []=>some []
 | .tmp t::r=>match b0W st.T t,a1m X st r with
  |some .bad,_=>none
  |some s,some l=>some (s::l)
  |_,_=>none
 | .cell a t::r=>match I8 X.tt t,b0W st.T a,a1m X st r with
  |some i,some (.own k o),some l=>match j3 st.H k with
   |some (.blk cs _)=>match takeD i.n (dropD o cs)with
    |some c=>match mkD i.agg c with
     |some s=>some (s::l)
     |none=>none
    |none=>none
   |_=>none
  |_,_,_=>none
def a2z:Nat→List D→List (Nat×D)
 |_, []=> []
 |n,s::l=>(n,s)::a2z (n+1) l
def a0j {α:Type} (nt:Nat):List (Nat×α)→List (Nat×α)
 | []=> []
 |(d,x)::T=>match Nat.blt d nt with
  |true=>(Nat.add 1000000 d,x)::a0j nt T
  |false=>match Nat.blt d 1000000 with
   |true=>a0j nt T
   |false=>(Nat.add d nt,x)::a0j nt T
def O8 {α:Type} (nt:Nat):List (Nat×α)→List (Nat×α)
 | []=> []
 |(d,x)::T=>match Nat.blt d 1000000 with
  |true=>O8 nt T
  |false=>match Nat.blt d (Nat.add 1000000 nt)with
   |true=>(Nat.mod d 1000000,x)::O8 nt T
   |false=>(Nat.sub d nt,x)::O8 nt T
def c1e:List D→D
 | [x]=>x
 |l=> .tup l
def c2T (X X':Cy) (rs:List ResultVar) (dst:Option Nat) (K:Sy→Prop) (e:Exit) (st:Sy):Prop:=
 match e,st with
 | .normal,⟨T,H,nk⟩=>match a1m X' ⟨T,H,nk⟩ rs with
  |some l=>W6 X ⟨O8 X.nt T,H,nk⟩ dst (c1e l) K
  |none=>False
 | .ret,⟨T,H,nk⟩=>match a1m X' ⟨T,H,nk⟩ rs with
  |some l=>W6 X ⟨O8 X.nt T,H,nk⟩ dst (c1e l) K
  |none=>False
 |_,_=>False
def c2E (X:Cy) (c:Code) (st0:Sy) (K:Exit→Sy→Prop):Prop:=
 ∀(A:Nat→Prop) (w0:World) (bor:List Nat) (sv:List Value) (st:St) (a:Act) (w:World) (Q:Exit→Act→World→Prop),(∀b,(w0.heap.size≤b∨b∈bor)→A b)→Sim A st st0→Rel (cx { X with sv:=sv} w0 bor) st a w→
  (∀e st' sy' a' w',plain e→K e sy'→Sim A st' sy'→Lv (cx { X with sv:=sv} w0 bor) st.H w st' a' w'→Q e a' w')→c.wp X.P Q a w
structure M2 (X:Cy) (f:FuncId) (args:List D) (dst:Option Nat) (st:Sy) (K:Sy→Prop):Prop where
 ex:∃(nt:Nat) (pl:List (Nat×PT)) (ln un inl:List Nat) (fn:Func) (c:Code) (st0 st1:Sy),
  (X.P.funcs[f]?=some fn∧fn.body=some c∧nt=fn.ntmps∧Nat.ble nt 1000000=true∧Nat.ble args.length nt=true)∧
  Q0 ⟨a2z 0 args++a0j X.nt st.T,st.H,st.nk⟩ st0∧c2E ⟨X.P,X.tt,nt,pl,ln,un, [],inl, []⟩ c st0 (c2T X ⟨X.P,X.tt,nt,pl,ln,un, [],inl, []⟩ fn.results.toList dst fun sy=>Q0 sy st1)∧K st1
structure b0s (P:Program) (seq:Bool) (f:FuncId) (fa:List D) (st st':Sy) (K:Sy→D→Prop):Prop where
 ex:∃Q,d7 P f fa Q∧∀r,Q r→match a5H r,seq with
  |true,_=>K st r
  |false,true=>K st' r
  |false,false=>False
structure a4R (P:Program) (f:FuncId) (args:List D) (st:Sy) (K:Sy→D→Prop):Prop where
 ex:∃Q,d7 P f args Q∧∀r,Q r→K st r
def a9X (ok:Nat→Prop) (w:World) (z n:Nat) (l:List D) (ty:TypeId) (v:Value):Prop:=
 ∃xs,w.ownsRow 0 ty z v n xs∧d6 ok w l xs∧A9 l=true∧l.length=n*z
def b1h (P:Program) (f:FuncId) (args:List D) (z n:Nat) (l:List D) (ty:TypeId):Prop:=
 ∀(ok:Nat→Prop) (w:World) (vs:List Value),d6 ok w args vs→(∀b,ok b→b<w.heap.size)→
  Calls P f vs.toArray w fun e w'=>∃v,e= .returned v∧(∀b,b∈o6 v→w.heap.size≤b)∧a9X (fun b=>(ok b∨(w.heap.size≤b∧b<w'.heap.size))∧b∉o6 v) w' z n l ty v∧Below w.heap.size w w'
def b3u (P:Program) (f:FuncId) (z n:Nat) (l:List D) (ty:TypeId) (args:List D) (z' n':Nat) (l':List D):Prop:=
 ∀(ok:Nat→Prop) (w:World) (v:Value) (vs:List Value),a9X ok w z n l ty v→(∀b,b∈o6 v→¬ok b)→d6 ok w args vs→(∀b,ok b→b<w.heap.size)→
  Calls P f (v::vs).toArray w fun e w'=>∃v',e= .returned v'∧(∀b,b∈o6 v'→b∈o6 v∨w.heap.size≤b)∧
   a9X (fun b=>(ok b∨b∈o6 v∨(w.heap.size≤b∧b<w'.heap.size))∧b∉o6 v') w' z' n' l' ty v'∧Fx (o6 v) w w'
structure b3d (P:Program) (f:FuncId) (args:List D) (st:Sy) (K:Sy→D→Prop):Prop where
 ex:∃z n l ty,b1h P f args z n l ty∧K ⟨st.T,(st.nk, .row z n l ty)::st.H,st.nk+1⟩ (.row st.nk z)
def W5 (ok:Nat→Prop) (w:World) (rv:List Value):List D→List Value→Prop
 | [], []=>True
 | .row i _::l,y::r=>rv[i]?=some y∧W5 ok w rv l r
 |d::l,y::r=>Rep ok w d y∧W5 ok w rv l r
 |_,_=>False
def a3N (ok:Nat→Prop) (w:World):List (Nat×Nat×List D×TypeId)→List Value→Prop
 | [], []=>True
 |(z,n,l,ty)::rs,v::vs=>a9X ok w z n l ty v∧a3N ok w rs vs
 |_,_=>False
def b5u (P:Program) (f:FuncId) (args:List D) (rows:List (Nat×Nat×List D×TypeId)) (cells:List D):Prop:=
 A9 cells=true∧∀(ok:Nat→Prop) (w:World) (vs:List Value),d6 ok w args vs→(∀b,ok b→b<w.heap.size)→
  Calls P f vs.toArray w fun e w'=>∃(a rv:List Value),e= .returned (.agg a.toArray)∧(∀b,b∈rv.flatMap o6→w.heap.size≤b∧b<w'.heap.size)∧(rv.flatMap o6).Nodup∧
   a3N (fun b=>(ok b∨(w.heap.size≤b∧b<w'.heap.size))∧b∉rv.flatMap o6) w' rows rv∧W5 (fun b=>(ok b∨(w.heap.size≤b∧b<w'.heap.size))∧b∉rv.flatMap o6) w' rv cells a∧Below w.heap.size w w'
def b7R:Nat→List (Nat×Nat×List D×TypeId)→Hy→Hy
 |_, [],H=>H
 |k,(z,n,l,ty)::rs,H=>b7R (k+1) rs ((k, .row z n l ty)::H)
def shC (nk:Nat):List D→List D
 | []=> []
 | .row i z::l=> .row (nk+i) z::shC nk l
 |d::l=>d::shC nk l
structure a4O (P:Program) (f:FuncId) (args:List D) (st:Sy) (K:Sy→D→Prop):Prop where
 ex:∃rows cells,b5u P f args rows cells∧K ⟨st.T,b7R st.nk rows st.H,st.nk+rows.length⟩ (.agg (shC st.nk cells))
structure b2N (P:Program) (f:FuncId) (k:Nat) (e:E) (fa:List D) (st:Sy) (K:Sy→D→Prop):Prop where
 ex:∃z n l ty z' n' l',e= .row z n l ty∧b3u P f z n l ty fa z' n' l'∧b6p (a5E k st.H) k (.row z' n' l' ty) fun H'=>a9q k st.T fun T'=>K ⟨T',H',st.nk⟩ (.row k z')
def c1U (P:Program) (f:FuncId) (z n:Nat) (l:List D) (ty:TypeId) (args:List D) (n':Nat) (l':List D):Prop:=
 n'=n∧∀(ok:Nat→Prop) (w:World) (v:Value) (vs:List Value),a9X ok w z n l ty v→(∀b,b∈o6 v→¬ok b)→d6 ok w args vs→(∀b,ok b→b<w.heap.size)→
  Calls P f (v::vs).toArray w fun e w'=>e= .returned (.tuple #[])∧a9X (fun b=>ok b∧b∉o6 v) w' z n l' ty v∧Fx (o6 v) w w'
structure c3J (P:Program) (f:FuncId) (k:Nat) (e:E) (fa:List D) (st:Sy) (K:Sy→D→Prop):Prop where
 ex:∃z n l ty n' l',e= .row z n l ty∧c1U P f z n l ty fa n' l'∧b6p st.H k (.row z n' l' ty) fun H'=>K ⟨st.T,H',st.nk⟩ (.tup [])
def b1G (X:Cy) (seq:Bool) (f:FuncId) (args:List D) (st:Sy) (K:Sy→D→Prop):Prop:=
 match P8 f X.ln,P8 f X.un with
 |true,_=>match seq,args with
  |true,x::rest=>match a5X (c0n st.H rest) st (x::rest)with
   |some (st', .row k _::fa)=>match U0 fa,j3 st'.H k with
    |true,some e=>b2N X.P f k e fa st' K∨c3J X.P f k e fa st' K
    |_,_=>False
   |_=>False
  |_,_=>False
 |false,true=>match seq,U0 args with
  |true,true=>b3d X.P f args st K∨a4O X.P f args st K
  |_,_=>False
 |false,false=>match U0 args with
  |true=>a4R X.P f args st K
  |false=>match a5X (c0n st.H args) st args with
   |some (st',fa)=>match U0 fa with
    |true=>b0s X.P seq f fa st st' K
    |false=>False
   |none=>False
def c3B (st:Sy) (esz:Nat) (x:D) (K:Nat→List D→Prop):Prop:=
 match x with
 | .osl k o z n _=>match Nat.beq z esz,j3 st.H k with
  |true,some (.blk cs _)=>match takeD (n*z) (dropD o cs)with
   |some l=>match Y6 l with|true=>K n l|false=>False
   |none=>False
  |true,some (.row z' N r _)=>match Nat.beq z' z with
   |true=>(n=0∨o+n*z≤N*z)∧K n ((r.drop o).take (n*z))
   |false=>False
  |_,_=>False
 | .row k _=>match j3 st.H k with
  |some (.row z n l _)=>match Nat.beq z esz with|true=>K n l|false=>False
  |_=>False
 | .v (.slice none 0 0)=>K 0 []
 | .lst z n l=>match Nat.beq z esz with|true=>K n l|false=>False
 |_=>False
def c5E (e esz bytes:Nat) (s x:D) (st:Sy) (K:Sy→D→Prop):Prop:=
 match Nat.ble 1 esz with
 |false=>False
 |true=>c3B st esz x fun m l=>match s,st with
  | .v (.slice none 0 0),⟨T,H,nk⟩=>(m*bytes≤140737488355328∧m≤9223372036854775807)∧∃r' n',(l=r'∧m=n')∧K ⟨T,(nk, .row esz n' r' e)::H,nk+1⟩ (.row nk esz)
  | .row k _,⟨T,H,nk⟩=>match j3 H k with
   |some (.row z n r ty)=>match Nat.beq z esz,Nat.beq ty e with
    |true,true=>((n+m)*bytes≤140737488355328∧n+m≤9223372036854775807)∧∃r' n',(r++l=r'∧n+m=n')∧b6p (a5E k H) k (.row esz n' r' e) fun H'=>a9q k T fun T'=>K ⟨T',H',nk⟩ (.row k esz)
    |_,_=>False
   |_=>False
  | .osl k o z0 n c,⟨T,H,nk⟩=>match Nat.beq o 0,Nat.beq c 0,Nat.beq z0 esz,j3 H k with
   |true,true,true,some (.row z N r ty)=>match Nat.beq z esz,Nat.beq ty e with
    |true,true=>(0<N∧n≤N∧(n+m)*bytes≤140737488355328∧n+m≤9223372036854775807)∧∃r' n',(r.take (n*z)++l=r'∧n+m=n')∧b6p (a5E k H) k (.row esz n' r' e) fun H'=>a9q k T fun T'=>K ⟨T',H',nk⟩ (.row k esz)
    |_,_=>False
   |_,_,_,_=>False
  |_,_=>False
def a7n (X:Cy) (seq:Bool) (st:Sy) (dst:Option Nat) (K:Sy→Prop) (o:a7g):Prop:=
 match o with
 | .val s=>W6 X st dst s K
 | .new cs ty sl=>match st with
  |⟨T,H,nk⟩=>W6 X ⟨T,(nk, .blk cs ty)::H,nk+1⟩ dst (match sl with|none=> .own nk 0|some (z,n)=> .osl nk 0 z n n) K
 | .newR l ty z n=>match st with
  |⟨T,H,nk⟩=>W6 X ⟨T,(nk, .row z n l ty)::H,nk+1⟩ dst (.row nk z) K
 | .call f args=>match P8 f X.inl with
  |true=>match seq with
   |true=>M2 X f args dst st K
   |false=>False
  |false=>b1G X seq f args st fun st' s=>W6 X st' dst s K
 | .upd k cs=>match st,j3 st.H k with
  |⟨T,H,nk⟩,some (.blk _ ty)=>b6p H k (.blk cs ty) fun H'=>W6 X ⟨T,H',nk⟩ dst .und K
  |_,_=>False
 | .updR k l=>match st,j3 st.H k with
  |⟨T,H,nk⟩,some (.row z n _ ty)=>b6p H k (.row z n l ty) fun H'=>W6 X ⟨T,H',nk⟩ dst .und K
  |_,_=>False
 | .app e esz bytes s x=>c5E e esz bytes s x st fun st' s=>W6 X st' dst s K
def a3b (ops:List Oper) (g:Option (Nat×Bool)) (st:Sy) (yes no:Sy→Prop):Prop:=
 match g with
 |none=>yes st
 |some (j,want)=>match b3P ops j with
  |some d=>match b0W st.T d with
   |some (.v (.bool b))=>match st with
    |⟨T,H,nk⟩=>VIf b
     (match want with|true=>yes ⟨(d, .v (.bool true))::T,H,nk⟩|false=>no ⟨(d, .v (.bool true))::T,H,nk⟩)
     (match want with|true=>no ⟨(d, .v (.bool false))::T,H,nk⟩|false=>yes ⟨(d, .v (.bool false))::T,H,nk⟩)
   |some .und=>no st
   |_=>False
  |none=>False
def b6F (X:Cy) (ops:List Oper):List Oper→Sy→(Sy→Prop)→Prop
 | [],st,K=>K st
 |o::rest,st,K=>a3b ops o.guard st
  (fun st=>y1 X st o.op (a7n X true st o.dst fun st=>b6F X ops rest st K))
  (fun st=>W6 X st o.dst .und fun st=>b6F X ops rest st K)
def c7i:D→Option Nat
 | .own k _=>some k
 | .ownx k _=>some k
 | .elr k _ _ _=>some k
 |_=>none
def b3e:a7g→Option Nat
 | .upd k _=>some k
 | .updR k _=>some k
 | .app _ _ _ (.row k _) _=>some k
 | .app _ _ _ (.osl k _ _ _ _) _=>some k
 |_=>none
def rdY (fl:Bool) (i:Nat) (op:Op) (st:Sy) (pr:List (Nat×Option Nat)) (K:List (Nat×Option Nat)→Prop):Prop:=
 match op with
 | .load _ p=>match evY st p with
  |some s=>match c7i s with
   |some k=>K ((i,some k)::pr)
   |none=>match s with
    | .ptr _ _=>K ((i,none)::pr)
    |_=>False
  |none=>False
 | .lookup _ _ _ _=>False
 |_=>K pr
def b7f (X:Cy) (i:Nat) (S:List Nat) (fl:Bool) (pr:List (Nat×Option Nat)) (o:Oper) (st:Sy) (K:Sy→List (Nat×Option Nat)→Prop) (out:a7g):Prop:=
 match a7D o with
 |true=>(match out with| .val s=>rdY fl i o.op st pr fun pr=>W6 X st o.dst s fun st=>K st pr|_=>False)
 |false=>match E8 o with
  |true=>(match out with| .new _ _ none=>a7n X false st o.dst (fun st=>K st pr) out| .newR _ _ _ _=>a7n X false st o.dst (fun st=>K st pr) out|_=>False)
  |false=>match a1X o with
   |true=>(match out with| .call _ _=>a7n X false st o.dst (fun st=>K st pr) out|_=>False)
   |false=>(match out with
    | .call _ _=>False
    |out=>match b3e out with
     |some k=>match b7q pr S k with|true=>a7n X false st o.dst (fun st=>K st pr) out|false=>False
     |none=>a7n X false st o.dst (fun st=>K st pr) out)
def b8c (X:Cy) (S:List Nat) (st:Sy) (dst:Option Nat) (K:Sy→Prop) (o:a7g):Prop:=
 match S with
 | []=>a7n X true st dst K o
 |_::_=>match o with
  | .call f args=>match P8 f X.inl,P8 f X.ln with
   |false,false=>b1G X true f args st fun st' s=>W6 X st' dst s K
   |_,_=>False
  |_=>False
def b4v (X:Cy) (ops:List Oper) (rest:PT) (i:Nat) (S:List Nat) (fl:Bool) (pr:List (Nat×Option Nat)) (o:Oper) (st:Sy) (K:Sy→List (Nat×Option Nat)→Prop):Prop:=
 match a1X o,fl with
 |true,true=>y1 X st o.op (b8c X S st o.dst fun st=>match st with|⟨T,H,nk⟩=>K ⟨a2Y .bad ops (b5M rest) T,H,nk⟩ pr)
 |_,_=>y1 X st o.op (b7f X i S fl pr o st K)
def a6X (X:Cy) (ops:List Oper):PT→Sy→List (Nat×Option Nat)→(Sy→Prop)→Prop
 | .nil,st,_,K=>K st
 | .op i S fl rest,st,pr,K=>match b4j ops i with
  |some o=>a3b ops o.guard st
   (fun st=>b4v X ops rest i S fl pr o st fun st pr=>a6X X ops rest st pr K)
   (fun st=>W6 X st o.dst .und fun st=>a6X X ops rest st pr K)
  |none=>False
 | .fork a b,st,pr,K=>a6X X ops a st pr K∧a6X X ops b st pr K
def a7f:List Oper→List (Nat×D)→List (Nat×D)
 | [],T=>T
 |o::l,T=>match E8 o,o.dst with
  |true,some d=>(d, .bad)::a7f l T
  |_,_=>a7f l T
structure q8 (body:Sy→(Exit→Sy→Prop)→Prop) (st:Sy) (K:Exit→Sy→Prop):Prop where
 ex:∃(α:Type) (f:α→Sy) (inv:α→Prop) (μ:α→Nat),
  (∃x,Q0 st (f x)∧inv x)∧
  ∀x,inv x→body (f x) fun e st2=>match e with
   | .normal=>∃y,Q0 st2 (f y)∧inv y∧μ y<μ x
   |e=>K e st2
def S1 (X:Cy):Code→Sy→(Exit→Sy→Prop)→Prop
 | .skip,st,K=>K .normal st
 | .region id ops draw,st,K=>match draw with
  |false=>b6F X ops.toList ops.toList st (K .normal)
  |true=>match b6N X.pl id with
   |some p=>a6r X.tt X.nt ops p=true∧(match st with|⟨T,H,nk⟩=>a6X X ops.toList p ⟨a7f ops.toList T,H,nk⟩ [] (K .normal))
   |none=>False
 | .seq a b,st,K=>S1 X a st fun e st'=>match e with
  | .normal=>S1 X b st' K
  |e=>K e st'
 | .cond c t e,st,K=>match evY st c with
  |some (.v (.bool b))=>VIf b (S1 X t st K) (S1 X e st K)
  |_=>False
 | .block id c,st,K=>S1 X c st fun e st'=>match e with
  | .exit j=>match Nat.beq j id with
   |true=>K .normal st'
   |false=>K (.exit j) st'
  |e=>K e st'
 | .loop c,st,K=>q8 (S1 X c) st K
 | .exit id,st,K=>K (.exit id) st
 | .ret,st,K=>K .ret st
 | .scope c,st,K=>S1 X c st K
 | .label _,st,K=>K .normal st
 |_,_,_=>False
structure d0 (r:D) (Q:D→Prop):Prop where
 ex:∃r',leD r r'∧Q r'
def a2n (st:Sy) (r:D) (Q:D→Prop):Prop:=
 match a0F r with
 |true=>d0 r Q
 |false=>match a5X (c0n st.H [r]) st [r]with
  |some (_, [r'])=>match a0F r' with
   |true=>d0 r' Q
   |false=>False
  |_=>False
def b9z (X:Cy) (rs:List ResultVar) (Q:D→Prop) (e:Exit) (st:Sy):Prop:=
 match e with
 | .normal=>match a1m X st rs with
  |some [s]=>a2n st s Q
  |some l=>a2n st (.tup l) Q
  |none=>False
 | .ret=>match a1m X st rs with
  |some [s]=>a2n st s Q
  |some l=>a2n st (.tup l) Q
  |none=>False
 |_=>False
end Go.Sx
namespace Go.Sx
open Go Go.RowKit
mutual
theorem c6.mentE {ok:Nat→Prop} {w:World} {R:Bool→Nat→Prop} (k:Nat):∀(d:D) (s:SV),c6 ok w R d s→ment k s=a3U k d
 | .v x,s,h=>by simp only [c6]at h;rw [h.1];rfl
 | .agg l,s,h=>by
  simp only [c6]at h
  obtain⟨cs,h1,h2,_⟩:=h
  have:=c5.mentE k l _ h2
  cases s<;>simp [a5d]at h1
  · rename_i x;cases x<;>simp at h1
    subst h1;rw [b1U]at this;simp only [a3U,←this];rfl
  · subst h1;simpa [ment,a3U]using this
 | .lst z n l,s,h=>by simp only [c6]at h;obtain⟨y,rfl,_⟩:=h;rfl
 | .ptr l o,s,h=>by simp only [c6]at h;obtain⟨y,rfl,_⟩:=h;rfl
 | .own j o,s,h=>by simp only [c6]at h;rw [h.1];rfl
 | .ownx j o,s,h=>by simp only [c6]at h;rw [h.1];rfl
 | .row j z,s,h=>by simp only [c6]at h;rw [h.1];rfl
 | .elr j z i o,s,h=>by simp only [c6]at h;rw [h.1];rfl
 | .osl j o z n c,s,h=>by simp only [c6]at h;rw [h.1];rfl
 | .tup l,s,h=>by
  simp only [c6]at h
  rcases h with⟨cs,rfl,h2⟩|⟨a,rfl,h2⟩
  · have:=c5.mentE k l _ h2;simpa [ment,a3U]using this
  · have:=c5.mentE k l _ h2;rw [b1U]at this;simp only [a3U,←this];rfl
 | .fn f a b,s,h=>by
  simp only [c6]at h
  rcases h with⟨p,q,rfl,h2,h3⟩|⟨p,q,rfl,h2,h3⟩
  · have e1:=c5.mentE k a _ h2;have e2:=c5.mentE k b _ h3
    simp only [ment,a3U,e1,e2];cases a7E k a<;>rfl
  · have e1:=c5.mentE k a _ h2;have e2:=c5.mentE k b _ h3
    rw [b1U]at e1 e2
    simp only [a3U,←e1,←e2];rfl
 | .mp l,s,h=>by simp only [c6]at h;obtain⟨y,rfl,_⟩:=h;rfl
 | .und,s,h=>by simp only [c6]at h;rw [h];rfl
 | .bad,s,h=>by simp only [c6]at h;rw [h];rfl
theorem c5.mentE {ok:Nat→Prop} {w:World} {R:Bool→Nat→Prop} (k:Nat):∀(l:List D) (r:List SV),c5 ok w R l r→M3 k r=a7E k l
 | [], [],_=>rfl
 |d::l,y::r,h=>by
  simp only [c5]at h;simp only [M3,a7E,c6.mentE k d y h.1,c5.mentE k l r h.2];cases a3U k d<;>rfl
 | [],_::_,h=>by simp [c5]at h
 |_::_, [],h=>by simp [c5]at h
end
theorem b3R {ok:Nat→Prop} {w:World} {R:Bool→Nat→Prop} {k:Nat} {l:List D} {r:List SV} (h:c5 ok w R l r):c5 ok w R (b9D k l) (b1C k r):=by
 induction l generalizing r with
 |nil=>cases r with
  |nil=>trivial
  |cons=>simp [c5]at h
 |cons d l ih=>cases r with
  |nil=>simp [c5]at h
  |cons s r=>
   simp only [c5]at h
   refine⟨?_,ih h.2⟩
   simp only [b0w,b0G,h.1.mentE k]
   cases a3U k d
   · exact h.1
   · simp only [c6]
theorem b3q {k:Nat} {T:List (Nat×SV)} {d:Nat} {s:SV} (h:y0 T d=some s):y0 (a1v k T) d=some (b0G k s):=by
 induction T with
 |nil=>simp [y0]at h
 |cons x T ih=>
  obtain⟨d',s'⟩:=x
  simp only [y0,a1v]at h⊢
  split at h
  · cases h;rfl
  · exact ih h
def a6P (k:Nat):List (Nat×D)→List (Nat×D)
 | []=> []
 |(d,s)::T=>(d,b0w k s)::a6P k T
theorem b0S {k:Nat} {T:List (Nat×D)} {K:List (Nat×D)→Prop}:a9q k T K=K (a6P k T):=by
 induction T generalizing K with
 |nil=>rfl
 |cons x T ih=>
  obtain⟨d,s⟩:=x
  simp only [a9q,a6P,b0w]
  split<;>rw [ih]
theorem b2x {k:Nat} {T:List (Nat×D)} {d:Nat} {x:D} (h:s7 (a6P k T) d=some x):∃y,s7 T d=some y∧x=b0w k y:=by
 induction T with
 |nil=>simp [s7,a6P]at h
 |cons q T ih=>
  obtain⟨d',s'⟩:=q
  simp only [s7,a6P]at h⊢
  split at h
  · cases h;exact⟨_,rfl,rfl⟩
  · exact ih h
theorem b1u {j k:Nat} {T:List (Nat×SV)} (h:u4 j T=true):u4 j (a1v k T)=true:=by
 induction T with
 |nil=>rfl
 |cons x T ih=>
  obtain⟨d,s⟩:=x
  simp only [u4,a1v]at h⊢
  split at h
  · cases h
  · rename_i hm
    have:ment j (b0G k s)=false:=by unfold b0G;split;rfl;exact hm
    rw [this];exact ih h
theorem b9C {j k:Nat} {l:List SV} (h:M3 j l=false):M3 j (b1C k l)=false:=by
 induction l with
 |nil=>rfl
 |cons s l ih=>
  simp only [M3,b1C]at h⊢
  split at h
  · cases h
  · rename_i hm
    have:ment j (b0G k s)=false:=by unfold b0G;split;rfl;exact hm
    rw [this];exact ih h
theorem b1F {j k:Nat} {H:Hp} (h:G0 j H=true):G0 j (B9 k H)=true:=by
 induction H with
 |nil=>rfl
 |cons x H ih=>
  obtain⟨i,e⟩:=x
  cases e with
  |blk b cs ty=>
   simp only [G0,B9,a1x]at h⊢
   split at h
   · cases h
   · rename_i hm
     rw [b9C hm];exact ih h
  |row v n xs sz ty=>simp only [G0,B9,a1x]at h⊢;exact ih h
def a1p:Hp→Nat→Ent→Hp
 | [],_,_=> []
 |(k',e')::H,k,e=>match Nat.beq k' k with|true=>(k',e)::H|false=>(k',e')::a1p H k e
def b1Q:Hy→Nat→E→Hy
 | [],_,_=> []
 |(k',e')::H,k,e=>match Nat.beq k' k with|true=>(k',e)::H|false=>(k',e')::b1Q H k e
theorem a6E {H:Hp} {k:Nat} {e e0:Ent} {K:Hp→Prop} (h:c9 H k=some e0) (hK:K (a1p H k e)):a9G H k e K:=by
 induction H generalizing K with
 |nil=>simp [c9]at h
 |cons x H ih=>
  obtain⟨k',e'⟩:=x
  simp only [c9,a9G,a1p]at h hK⊢
  split
  · rename_i hb;rw [hb]at hK;exact hK
  · rename_i hb;rw [hb]at hK h;exact ih h hK
theorem a4o {H:Hy} {k:Nat} {e:E} {K:Hy→Prop} (h:b6p H k e K):K (b1Q H k e):=by
 induction H generalizing K with
 |nil=>exact h.elim
 |cons x H ih=>
  obtain⟨k',e'⟩:=x
  simp only [b6p,b1Q]at h⊢
  split at h
  · rename_i hb
    try rw [hb]
    exact h
  · rename_i hb
    try rw [hb]
    exact ih h
theorem a1e {H:Hp} {k j:Nat} {e e0:Ent} (h:c9 H k=some e0):c9 (a1p H k e) j=if j=k then some e else c9 H j:=by
 induction H with
 |nil=>simp [c9]at h
 |cons x H ih=>
  obtain⟨k',e'⟩:=x
  simp only [c9,a1p]at h⊢
  cases hb:Nat.beq k' k with
  |true=>
   have:=w4 hb;subst this
   simp only [c9]
   by_cases hj:j=k'
   · subst hj;simp
   · rw [if_neg hj,Z1 (Ne.symm hj)]
  |false=>
   rw [hb]at h
   simp only [c9]
   by_cases hj:j=k
   · subst hj;rw [hb];simp only;rw [ih h];simp
   · cases hb2:Nat.beq k' j with
     |true=>simp [hj]
     |false=>simp only;rw [ih h]
theorem b0F {H:Hy} {k j:Nat} {e x:E} (h:j3 (b1Q H k e) j=some x):(j=k∧x=e)∨(j≠k∧j3 H j=some x):=by
 induction H with
 |nil=>simp [j3,b1Q]at h
 |cons q H ih=>
  obtain⟨k',e'⟩:=q
  simp only [b1Q]at h
  cases hb:Nat.beq k' k with
  |true=>
   have:=w4 hb;subst this
   rw [hb]at h
   simp only [j3]at h⊢
   cases hb2:Nat.beq k' j with
   |true=>rw [hb2]at h;cases h;exact .inl ⟨(w4 hb2).symm,rfl⟩
   |false=>rw [hb2]at h;exact .inr ⟨fun e=>a2V hb2 e.symm,h⟩
  |false=>
   rw [hb]at h
   simp only [j3]at h⊢
   cases hb2:Nat.beq k' j with
   |true=>rw [hb2]at h;cases h;exact .inr ⟨fun e=>by subst e;exact a2V hb (w4 hb2),rfl⟩
   |false=>rw [hb2]at h;exact ih h
theorem b0U {H:Hp} {k c:Nat} {e:Ent} (h:c∈bs (a1p H k e)):c∈bs H∨c∈bsE e:=by
 induction H with
 |nil=>simp [a1p,bs]at h
 |cons x H ih=>
  obtain⟨k',e'⟩:=x
  simp only [a1p]at h
  split at h
  · simp only [bs,List.mem_append]at h⊢
    rcases h with h|h
    · exact .inr h
    · exact .inl (.inr h)
  · simp only [bs,List.mem_append]at h⊢
    rcases h with h|h
    · exact .inl (.inl h)
    · rcases ih h with h|h
      · exact .inl (.inr h)
      · exact .inr h
def a6Q (j:Nat):Ent→Bool
 | .blk _ cs _=> !M3 j cs
 | .row _ _ _ _ _=>true
theorem a0b {j k:Nat} {e:Ent} {H:Hp} (he:a6Q j e=true) (h:G0 j H=true):G0 j ((k,e)::H)=true:=by
 cases e with
 |blk b cs ty=>simp only [a6Q,Bool.not_eq_true']at he;simp only [G0,he];exact h
 |row v n xs sz ty=>exact h
theorem b9v {j k:Nat} {e:Ent} {H:Hp} (h:G0 j ((k,e)::H)=true):a6Q j e=true∧G0 j H=true:=by
 cases e with
 |blk b cs ty=>
  simp only [G0]at h
  split at h
  · cases h
  · rename_i hm;exact⟨by simp [a6Q,hm],h⟩
 |row v n xs sz ty=>exact⟨rfl,h⟩
theorem a9b {j k:Nat} {e:Ent} {H:Hp} (he:a6Q j e=true) (h:G0 j H=true):G0 j (a1p H k e)=true:=by
 induction H with
 |nil=>rfl
 |cons x H ih=>
  obtain⟨k',e'⟩:=x
  obtain⟨h1,h2⟩:=b9v h
  simp only [a1p]
  split
  · exact a0b he h2
  · exact a0b h1 (ih h2)
theorem b2L {H:Hy} {k j:Nat} {x:E} (h:j3 (a5E k H) j=some x):∃y,j3 H j=some y∧x=b6C k y:=by
 induction H with
 |nil=>simp [j3,a5E]at h
 |cons q H ih=>
  obtain⟨k',e'⟩:=q
  simp only [j3,a5E]at h⊢
  split at h
  · cases h;exact⟨_,rfl,rfl⟩
  · exact ih h
section
variable {A : Nat → Prop} {X : Cy} {w0 : World} {bor : List Nat} {st : St} {sy : Sy} {KY : Sy → Prop}
theorem b0k {st:St} {j:Nat} (h:st.nk≤j) (q:Bool):¬B1 st q j:=fun hk=>by have:=hk.1;omega
theorem Sim.mono {st st':St} {T:List (Nat×D)} {H:Hy} {nk:Nat} (hs:Sim A st ⟨T,H,nk⟩) (hok:∀b,okS A st b→okS A st' b∧st'.w.heap[b]?=st.w.heap[b]?) (hk:∀q k,B1 st q k→B1 st' q k)
 (hT:∀d s,y0 st.T d=some s→y0 st'.T d=some s) (hH:∀k e,c9 st.H k=some e→c9 st'.H k=some e) (hn:st'.nk=st.nk) (fT:∀j,st'.nk≤j→u4 j st'.T=true) (fH:∀j,st'.nk≤j→G0 j st'.H=true):Sim A st' ⟨T,H,nk⟩:=by
 refine⟨fun d x hx=> ?_,fun k e he=> ?_,by rw [hn];exact hs.nk,fT,fH⟩
 · rcases hs.T d x hx with h|⟨s,h1,h2⟩
   · exact .inl h
   · exact .inr ⟨s,hT d s h1,c6.mono hok hk _ _ h2⟩
 · obtain⟨e',h1,h2⟩:=hs.H k e he
   refine⟨e',hH k e' h1, ?_⟩
   cases e<;>cases e'<;>simp only [a3R]at h2⊢
   · exact⟨h2.1,c5.mono hok hk _ _ h2.2⟩
   · exact⟨h2.1,h2.2.1,h2.2.2.1,d6.mono hok _ _ h2.2.2.2.1,h2.2.2.2.2⟩
theorem a3R.mono {ok ok':Nat→Prop} {w w':World} {R R':Bool→Nat→Prop} (hok:∀b,ok b→ok' b∧w'.heap[b]?=w.heap[b]?) (hk:∀q k,R q k→R' q k) {e:E} {e':Ent} (h:a3R ok w R e e'):a3R ok' w' R' e e':=by
 cases e<;>cases e'<;>simp only [a3R]at h⊢
 · exact⟨h.1,c5.mono hok hk _ _ h.2⟩
 · exact⟨h.1,h.2.1,h.2.2.1,d6.mono hok _ _ h.2.2.2.1,h.2.2.2.2⟩
theorem I7 {dst:Option Nat} {x:D} {s:SV} (h:W6 X sy dst x KY) (hs:Sim A st sy) (hr:c6 (okS A st) st.w (B1 st) x s):put (cx X w0 bor) st dst s fun st'=>∃sy',KY sy'∧Sim A st' sy':=by
 unfold W6 at h
 cases dst with
 |none=>exact⟨sy,h,hs⟩
 |some d=>
  obtain⟨T,H,nk⟩:=sy
  obtain⟨T',H',nk',w,lo,iv⟩:=st
  simp only at h
  simp only [put,cx]
  split at h
  · rename_i hd heq
    cases heq
    rw [hd]
    refine⟨_,h,fun d' x' hx'=> ?_,hs.H,hs.nk,fun j hj=> ?_,hs.fH⟩
    · simp only [s7]at hx'
      simp only [y0]
      cases hb:Nat.beq d d' with
      |true=>rw [hb]at hx';cases hx';exact .inr ⟨s,rfl,hr⟩
      |false=>rw [hb]at hx';exact hs.T d' x' hx'
    · simp only [u4,hr.ment (fun q=>b0k hj q)]
      exact hs.fT j hj
  · exact h.elim
theorem c4u {T:List (Nat×D)} {H:Hy} {nk:Nat} {T':List (Nat×SV)} {H':Hp} {nk':Nat} {w:World} {lo:Nat} {iv:List (Nat×Nat)} {b:Nat} {cs:List D} {cs':List SV} {ty:TypeId}
 (hs:Sim A ⟨T',H',nk',w,lo,iv⟩ ⟨T,H,nk⟩) (hr:c5 (okS A ⟨T',H',nk',w,lo,iv⟩) w (B1 ⟨T',H',nk',w,lo,iv⟩) cs cs') (hb:lo≤b) (hiv:a6i iv b):
 Sim A ⟨T',(nk', .blk b cs' ty)::H',nk'+1,w,lo,iv⟩ ⟨T,(nk, .blk cs ty)::H,nk+1⟩:=by
 have hnk:nk=nk':=hs.nk
 subst hnk
 have hok:∀c,okS A ⟨T',H',nk,w,lo,iv⟩ c→okS A ⟨T',(nk, .blk b cs' ty)::H',nk+1,w,lo,iv⟩ c∧w.heap[c]?=w.heap[c]?:=by
  intro c ⟨h1,h2,h3⟩
  refine⟨⟨h1,h2,fun x hx=> ?_⟩,rfl⟩
  simp only [bs,bsE,List.mem_append,List.mem_singleton]at hx
  rcases hx with rfl|hx
  · intro e;subst e
    rcases h1 with h1|⟨p,hp,h4,h5⟩
    · simp only at h1;omega
    · simp only at hp
      clear hr hs h2 h3
      induction iv with
      |nil=>cases hp
      |cons y l ih=>
       simp only [a6i]at hiv
       rcases List.mem_cons.1 hp with rfl|hp
       · omega
       · exact ih hiv.2 hp
  · exact h3 x hx
 have hk:∀q k,B1 ⟨T',H',nk,w,lo,iv⟩ q k→B1 ⟨T',(nk, .blk b cs' ty)::H',nk+1,w,lo,iv⟩ q k:=by
  intro q k ⟨h1,h2⟩
  simp only at h1
  refine⟨by simp only;omega,fun hq=> ?_⟩
  simp only
  rw [W7 (by omega)]
  exact h2 hq
 refine⟨fun d x hx=> ?_,fun k e he=> ?_,rfl,fun j hj=>hs.fT j (by simp only at hj⊢;omega),fun j hj=> ?_⟩
 · rcases hs.T d x hx with h|⟨s,h1,h2⟩
   · exact .inl h
   · exact .inr ⟨s,h1,c6.mono hok hk _ _ h2⟩
 · simp only [j3]at he
   simp only [c9]
   cases hb:Nat.beq nk k with
   |true=>
    rw [hb]at he;cases he
    exact⟨_,rfl,by exact⟨rfl,c5.mono hok hk _ _ hr⟩⟩
   |false=>
    rw [hb]at he
    obtain⟨e',h1,h2⟩:=hs.H k e he
    exact⟨e',h1,a3R.mono hok hk h2⟩
 · simp only at hj
   refine a0b ?_ (hs.fH j (by simp only;omega))
   simp only [a6Q,Bool.not_eq_true']
   exact c5.ment (fun q=>b0k (st:=⟨T',H',nk,w,lo,iv⟩) (by simp only;omega) q) _ _ hr
theorem c3x {T:List (Nat×D)} {H:Hy} {nk:Nat} {T':List (Nat×SV)} {H':Hp} {nk':Nat} {w:World} {lo:Nat} {iv:List (Nat×Nat)} {b:Nat} {l:List D} {xs:List Value} {z n:Nat} {ty:TypeId}
 (hs:Sim A ⟨T',H',nk',w,lo,iv⟩ ⟨T,H,nk⟩) (hr:d6 (okS A ⟨T',H',nk',w,lo,iv⟩) w l xs) (hfl:A9 l=true) (hlen:l.length=n*z) (hb:lo≤b) (hiv:a6i iv b):
 Sim A ⟨T',(nk', .row (.slice (some ⟨b,0,none⟩) n n) n xs z ty)::H',nk'+1,w,lo,iv⟩ ⟨T,(nk, .row z n l ty)::H,nk+1⟩:=by
 have hnk:nk=nk':=hs.nk
 subst hnk
 have hok:∀c,okS A ⟨T',H',nk,w,lo,iv⟩ c→okS A ⟨T',(nk, .row (.slice (some ⟨b,0,none⟩) n n) n xs z ty)::H',nk+1,w,lo,iv⟩ c∧w.heap[c]?=w.heap[c]?:=by
  intro c ⟨h1,h2,h3⟩
  refine⟨⟨h1,h2,fun x hx=> ?_⟩,rfl⟩
  simp only [bs,bsE,o6,List.mem_append,List.mem_singleton]at hx
  rcases hx with rfl|hx
  · intro e;subst e
    rcases h1 with h1|⟨p,hp,h4,h5⟩
    · simp only at h1;omega
    · simp only at hp
      clear hr hs h2 h3
      induction iv with
      |nil=>cases hp
      |cons y l ih=>
       simp only [a6i]at hiv
       rcases List.mem_cons.1 hp with rfl|hp
       · omega
       · exact ih hiv.2 hp
  · exact h3 x hx
 have hk:∀q k,B1 ⟨T',H',nk,w,lo,iv⟩ q k→B1 ⟨T',(nk, .row (.slice (some ⟨b,0,none⟩) n n) n xs z ty)::H',nk+1,w,lo,iv⟩ q k:=by
  intro q k ⟨h1,h2⟩
  simp only at h1
  refine⟨by simp only;omega,fun hq=> ?_⟩
  simp only
  rw [W7 (by omega)]
  exact h2 hq
 refine⟨fun d x hx=> ?_,fun k e he=> ?_,rfl,fun j hj=>hs.fT j (by simp only at hj⊢;omega),fun j hj=> ?_⟩
 · rcases hs.T d x hx with h|⟨s,h1,h2⟩
   · exact .inl h
   · exact .inr ⟨s,h1,c6.mono hok hk _ _ h2⟩
 · simp only [j3]at he
   simp only [c9]
   cases hb:Nat.beq nk k with
   |true=>
    rw [hb]at he;cases he
    exact⟨_,rfl,by exact⟨rfl,rfl,rfl,d6.mono hok _ _ hr,hfl,hlen⟩⟩
   |false=>
    rw [hb]at he
    obtain⟨e',h1,h2⟩:=hs.H k e he
    exact⟨e',h1,a3R.mono hok hk h2⟩
 · simp only at hj
   exact a0b rfl (hs.fH j (by simp only;omega))
theorem b5Q {T:List (Nat×D)} {H:Hy} {nk:Nat} {T':List (Nat×SV)} {H':Hp} {nk':Nat} {w:World} {lo:Nat} {iv:List (Nat×Nat)} {k:Nat} {e:E} {e0 e':Ent}
 (hs:Sim A ⟨T',H',nk',w,lo,iv⟩ ⟨T,H,nk⟩) (hf:c9 H' k=some e0) (hr:a3R (okS A ⟨T',H',nk',w,lo,iv⟩) w (B1 ⟨T',H',nk',w,lo,iv⟩) e e') (hb:bsE e'=bsE e0)
 (hrow:(∃v n xs sz ty,e0= .row v n xs sz ty)→∃v n xs sz ty,e'= .row v n xs sz ty) (hfe:∀j,nk'≤j→a6Q j e'=true):
 Sim A ⟨T',a1p H' k e',nk',w,lo,iv⟩ ⟨T,b1Q H k e,nk⟩:=by
 have hok:∀c,okS A ⟨T',H',nk',w,lo,iv⟩ c→okS A ⟨T',a1p H' k e',nk',w,lo,iv⟩ c∧w.heap[c]?=w.heap[c]?:=by
  intro c ⟨h1,h2,h3⟩
  refine⟨⟨h1,h2,fun x hx=> ?_⟩,rfl⟩
  rcases b0U hx with hx|hx
  · exact h3 x hx
  · rw [hb]at hx;exact h3 x (A7.2 ⟨k,e0,n5 hf,hx⟩)
 have hk:∀q j,B1 ⟨T',H',nk',w,lo,iv⟩ q j→B1 ⟨T',a1p H' k e',nk',w,lo,iv⟩ q j:=by
  intro q j ⟨h1,h2⟩
  refine⟨h1,fun hq=> ?_⟩
  simp only
  rw [a1e hf]
  obtain⟨v,n,xs,sz,ty,h3⟩:=h2 hq
  split
  · rename_i hjk
    subst hjk
    simp only at h3
    rw [hf]at h3;cases h3
    obtain⟨v,n,xs,sz,ty,rfl⟩:=hrow ⟨_,_,_,_,_,rfl⟩
    exact⟨_,_,_,_,_,rfl⟩
  · exact⟨_,_,_,_,_,h3⟩
 refine⟨fun d x hx=> ?_,fun j x hx=> ?_,hs.nk,hs.fT,fun j hj=>a9b (hfe j hj) (hs.fH j hj)⟩
 · rcases hs.T d x hx with h|⟨s,h1,h2⟩
   · exact .inl h
   · exact .inr ⟨s,h1,c6.mono hok hk _ _ h2⟩
 · simp only
   rw [a1e hf]
   rcases b0F hx with⟨rfl,rfl⟩|⟨hne,hx⟩
   · exact⟨e',by simp,a3R.mono hok hk hr⟩
   · obtain⟨e1,h1,h2⟩:=hs.H j x hx
     exact⟨e1,by rw [if_neg hne];exact h1,a3R.mono hok hk h2⟩
end
end Go.Sx
namespace Go.Sx
open Go Go.RowKit
section
variable {A : Nat → Prop} {X : Cy} {w0 : World} {bor : List Nat} {st : St} {sy : Sy} {KY : Sy → Prop}
theorem c2J {esz:Nat} {x:D} {s:SV} {Kn:Nat→List D→Prop} (h:c3B sy esz x Kn) (hs:Sim A st sy) (hr:c6 (okS A st) st.w (B1 st) x s):
 ∃m l news,Kn m l∧a4P (cx X w0 bor) st esz s m news∧d6 (okS A st) st.w l news∧A9 l=true∧l.length=m*esz:=by
 unfold c3B at h
 split at h
 · rename_i k o z n c
   simp only [c6]at hr
   obtain⟨rfl,_⟩:=hr
   split at h
   · rename_i cs ty hz hf
     obtain rfl:=w4 hz
     obtain⟨e',hf',he⟩:=hs.H _ _ hf
     cases e' with
     |row=>exact he.elim
     |blk b cs' ty'=>
      split at h
      · rename_i l hl
        split at h
        · rename_i hno
          obtain⟨r,h1,h2⟩:=(he.2.dropD o).takeD hl
          obtain⟨xs,rfl,h3⟩:=h2.vals hno
          refine⟨n,l,xs,h, ?_,h3,a8n hno,(b3j hl).1⟩
          simp only [a4P,hf']
          exact⟨trivial,vs xs,h1,h2.one (b5w st) (a8n hno),(L6 _ _).symm⟩
        · exact h.elim
      · exact h.elim
   · rename_i z' N r ty hz hf
     obtain rfl:=w4 hz
     obtain⟨e',hf',he⟩:=hs.H _ _ hf
     cases e' with
     |blk=>exact he.elim
     |row v n' xs z2 ty'=>
      obtain⟨rfl,rfl,rfl,hrep,hfl,hlen⟩:=he
      split at h
      · rename_i hzz
        obtain rfl:=w4 hzz
        obtain⟨hb,h⟩:=h
        refine⟨n,_,(xs.drop o).take (n*z'),h, ?_,(hrep.drop _).take _,a8p hfl fun d hd=>List.mem_of_mem_drop (List.mem_of_mem_take hd), ?_⟩
        · simp only [a4P,hf']
          exact⟨trivial,trivial,hb,trivial,hrep.one hfl⟩
        · rcases hb with rfl|hb
          · simp
          · simp only [List.length_take,List.length_drop];omega
      · exact h.elim
   · exact h.elim
 · rename_i k z0
   simp only [c6]at hr
   obtain⟨rfl,_⟩:=hr
   split at h
   · rename_i z n l ty hf
     obtain⟨e',hf',he⟩:=hs.H _ _ hf
     cases e' with
     |blk=>exact he.elim
     |row v n' xs z' ty'=>
      obtain⟨rfl,rfl,rfl,hrep,hfl,hlen⟩:=he
      split at h
      · rename_i hz
        obtain rfl:=w4 hz
        refine⟨n,l,xs,h, ?_,hrep,hfl,hlen⟩
        simp only [a4P,hf']
        exact⟨trivial,trivial,trivial,hrep.one hfl⟩
      · exact h.elim
   · exact h.elim
 · have:=hr.sc;subst this
   exact⟨0, [], [],h,by simp [a4P],trivial,rfl,by simp⟩
 · rename_i z n l
   simp only [c6,Rep]at hr
   obtain⟨y,rfl,a,c,rfl,hnc,hmx,hlen,hfl,hmem⟩:=hr
   split at h
   · rename_i hz
     obtain rfl:=w4 hz
     rcases hmem with rfl|⟨b,o,xs,rfl,hok,hrep,hcell⟩
     · have hn:n=0:=by omega
       subst hn
       have hl:l= []:=List.eq_nil_of_length_eq_zero (by simpa using hlen)
       subst hl
       refine⟨0, [], [],h, ?_,trivial,rfl,by simp⟩
       cases a with
       |none=>simp [a4P]
       |some ad=>obtain⟨b,o,sp⟩:=ad;simp [a4P]
     · refine⟨n,l,xs,h, ?_,hrep,hfl,hlen⟩
       simp only [a4P]
       have hxl:=hrep.length
       exact .inr ⟨trivial,trivial,hrep.one hfl,by omega, .inr ⟨hok.2.2,fun j hj=>hcell j hj⟩⟩
   · exact h.elim
 · exact h.elim
theorem b7Q {T:List (Nat×D)} {H:Hy} {nk:Nat} {T':List (Nat×SV)} {H':Hp} {nk':Nat} {w w1:World} {lo lo1:Nat} {iv iv1:List (Nat×Nat)} {k:Nat} {e0:Ent} {v':Value} {n z:Nat} {l:List D} {xs:List Value} {ty:TypeId}
 (hs:Sim A ⟨T',H',nk',w,lo,iv⟩ ⟨T,H,nk⟩) (hf:c9 H' k=some e0) (hv:∀b,b∈o6 v'→b∈bs H'∨w.heap.size≤b) (hfx:Fx (bs H') w w1) (hlo:(lo1=w1.heap.size)∨(lo1=lo∧iv1=iv))
 (hrep:d6 (okS A ⟨T',H',nk',w,lo,iv⟩) w l xs) (hfl:A9 l=true) (hlen:l.length=n*z):
 Sim A ⟨a1v k T',a1p (B9 k H') k (.row v' n xs z ty),nk',w1,lo1,iv1⟩ ⟨a6P k T,b1Q (a5E k H) k (.row z n l ty),nk⟩:=by
 have hf2:c9 (B9 k H') k=some (a1x k e0):=by rw [N4,hf];rfl
 have hok:∀c,okS A ⟨T',H',nk',w,lo,iv⟩ c→okS A ⟨a1v k T',a1p (B9 k H') k (.row v' n xs z ty),nk',w1,lo1,iv1⟩ c∧w1.heap[c]?=w.heap[c]?:=by
  intro c ⟨h1,h2,h3⟩
  refine⟨⟨⟨?_,h1.2⟩,Nat.lt_of_lt_of_le h2 hfx.size,fun x hx=> ?_⟩,hfx.block c h2 h3⟩
  · rcases hlo with rfl|⟨rfl,rfl⟩
    · exact .inl (Nat.lt_of_lt_of_le h2 hfx.size)
    · exact h1.1
  · rcases b0U hx with hx|hx
    · rw [a5q]at hx;exact h3 x hx
    · rcases hv x hx with hx|hx
      · exact h3 x hx
      · intro e;simp only at h2;omega
 have hk:∀q j,B1 ⟨T',H',nk',w,lo,iv⟩ q j→B1 ⟨a1v k T',a1p (B9 k H') k (.row v' n xs z ty),nk',w1,lo1,iv1⟩ q j:=by
  intro q j ⟨h1,h2⟩
  refine⟨h1,fun hq=> ?_⟩
  simp only
  rw [a1e hf2,N4]
  obtain⟨v,n,xs,sz,ty,h3⟩:=h2 hq
  split
  · exact⟨_,_,_,_,_,rfl⟩
  · simp only at h3;rw [h3];exact⟨_,_,_,_,_,rfl⟩
 refine⟨fun d x hx=> ?_,fun j x hx=> ?_,hs.nk,fun j hj=>b1u (hs.fT j hj),fun j hj=>a9b rfl (b1F (hs.fH j hj))⟩
 · obtain⟨y,hy,rfl⟩:=b2x hx
   rcases hs.T d y hy with h|⟨s,h1,h2⟩
   · subst h;exact .inl (by simp [b0w,a3U])
   · unfold b0w
     cases hm:a3U k y with
     |true=>exact .inl rfl
     |false=>
      refine .inr ⟨s, ?_,c6.mono hok hk _ _ h2⟩
      have:=b3q (k:=k) h1
      simp only [b0G,h2.mentE k,hm]at this
      exact this
 · simp only
   rw [a1e hf2,N4]
   rcases b0F hx with⟨rfl,rfl⟩|⟨hne,hx⟩
   · exact⟨.row v' n xs z ty,by simp,by exact⟨rfl,rfl,rfl,d6.mono hok _ _ hrep,hfl,hlen⟩⟩
   · obtain⟨y,hy,rfl⟩:=b2L hx
     obtain⟨e1,h1,h2⟩:=hs.H j y hy
     refine⟨a1x k e1,by rw [if_neg hne];simp only at h1;rw [h1];rfl, ?_⟩
     have h3:=a3R.mono hok hk h2
     cases y<;>cases e1<;>simp only [b6C,a1x,a3R]at h3⊢
     · exact⟨h3.1,b3R h3.2⟩
     · exact h3
theorem b9q {T:List (Nat×D)} {H:Hy} {nk:Nat} {T':List (Nat×SV)} {H':Hp} {nk':Nat} {w w1:World} {lo lo1:Nat} {iv iv1:List (Nat×Nat)} {v':Value} {n z:Nat} {l:List D} {xs:List Value} {ty:TypeId}
 (hs:Sim A ⟨T',H',nk',w,lo,iv⟩ ⟨T,H,nk⟩) (hv:∀b,b∈o6 v'→b∈bs H'∨w.heap.size≤b) (hfx:Fx (bs H') w w1) (hlo:(lo1=w1.heap.size)∨(lo1=lo∧iv1=iv))
 (hrep:d6 (okS A ⟨T',H',nk',w,lo,iv⟩) w l xs) (hfl:A9 l=true) (hlen:l.length=n*z):
 Sim A ⟨T',(nk', .row v' n xs z ty)::H',nk'+1,w1,lo1,iv1⟩ ⟨T,(nk, .row z n l ty)::H,nk+1⟩:=by
 have hnk:nk=nk':=hs.nk
 subst hnk
 have hok:∀c,okS A ⟨T',H',nk,w,lo,iv⟩ c→okS A ⟨T',(nk, .row v' n xs z ty)::H',nk+1,w1,lo1,iv1⟩ c∧w1.heap[c]?=w.heap[c]?:=by
  intro c ⟨h1,h2,h3⟩
  refine⟨⟨⟨?_,h1.2⟩,Nat.lt_of_lt_of_le h2 hfx.size,fun x hx=> ?_⟩,hfx.block c h2 h3⟩
  · rcases hlo with rfl|⟨rfl,rfl⟩
    · exact .inl (Nat.lt_of_lt_of_le h2 hfx.size)
    · exact h1.1
  · simp only [bs,bsE,List.mem_append]at hx
    rcases hx with hx|hx
    · rcases hv x hx with hx|hx
      · exact h3 x hx
      · intro e;simp only at h2;omega
    · exact h3 x hx
 have hk:∀q k,B1 ⟨T',H',nk,w,lo,iv⟩ q k→B1 ⟨T',(nk, .row v' n xs z ty)::H',nk+1,w1,lo1,iv1⟩ q k:=by
  intro q k ⟨h1,h2⟩
  simp only at h1
  refine⟨by simp only;omega,fun hq=> ?_⟩
  simp only
  rw [W7 (by omega)]
  exact h2 hq
 refine⟨fun d x hx=> ?_,fun k e he=> ?_,rfl,fun j hj=>hs.fT j (by simp only at hj⊢;omega),fun j hj=>a0b rfl (hs.fH j (by simp only at hj⊢;omega))⟩
 · rcases hs.T d x hx with h|⟨s,h1,h2⟩
   · exact .inl h
   · exact .inr ⟨s,h1,c6.mono hok hk _ _ h2⟩
 · simp only [j3]at he
   simp only [c9]
   cases hb:Nat.beq nk k with
   |true=>
    rw [hb]at he;cases he
    exact⟨_,rfl,by exact⟨rfl,rfl,rfl,d6.mono hok _ _ hrep,hfl,hlen⟩⟩
   |false=>
    rw [hb]at he
    obtain⟨e',h1,h2⟩:=hs.H k e he
    exact⟨e',h1,a3R.mono hok hk h2⟩
theorem c0G {T:List (Nat×D)} {H:Hy} {nk:Nat} {T':List (Nat×SV)} {H':Hp} {nk':Nat} {w w1:World} {lo lo1:Nat} {iv iv1:List (Nat×Nat)} {k:Nat} {e0:Ent} {v':Value} {n z:Nat} {l:List D} {xs:List Value} {ty:TypeId}
 (hs:Sim A ⟨T',H',nk',w,lo,iv⟩ ⟨T,H,nk⟩) (hf:c9 H' k=some e0) (hv:∀b,b∈o6 v'→b∈bs H'∨w.heap.size≤b) (hfx:Fx (bs H') w w1) (hlo:(lo1=w1.heap.size)∨(lo1=lo∧iv1=iv))
 (hrep:d6 (okS A ⟨a1v k T',a1p (B9 k H') k (.row v' n xs z ty),nk',w1,lo1,iv1⟩) w1 l xs) (hfl:A9 l=true) (hlen:l.length=n*z):
 Sim A ⟨a1v k T',a1p (B9 k H') k (.row v' n xs z ty),nk',w1,lo1,iv1⟩ ⟨a6P k T,b1Q (a5E k H) k (.row z n l ty),nk⟩:=by
 have hf2:c9 (B9 k H') k=some (a1x k e0):=by rw [N4,hf];rfl
 have hok:∀c,okS A ⟨T',H',nk',w,lo,iv⟩ c→okS A ⟨a1v k T',a1p (B9 k H') k (.row v' n xs z ty),nk',w1,lo1,iv1⟩ c∧w1.heap[c]?=w.heap[c]?:=by
  intro c ⟨h1,h2,h3⟩
  refine⟨⟨⟨?_,h1.2⟩,Nat.lt_of_lt_of_le h2 hfx.size,fun x hx=> ?_⟩,hfx.block c h2 h3⟩
  · rcases hlo with rfl|⟨rfl,rfl⟩
    · exact .inl (Nat.lt_of_lt_of_le h2 hfx.size)
    · exact h1.1
  · rcases b0U hx with hx|hx
    · rw [a5q]at hx;exact h3 x hx
    · rcases hv x hx with hx|hx
      · exact h3 x hx
      · intro e;simp only at h2;omega
 have hk:∀q j,B1 ⟨T',H',nk',w,lo,iv⟩ q j→B1 ⟨a1v k T',a1p (B9 k H') k (.row v' n xs z ty),nk',w1,lo1,iv1⟩ q j:=by
  intro q j ⟨h1,h2⟩
  refine⟨h1,fun hq=> ?_⟩
  simp only
  rw [a1e hf2,N4]
  obtain⟨v,n,xs,sz,ty,h3⟩:=h2 hq
  split
  · exact⟨_,_,_,_,_,rfl⟩
  · simp only at h3;rw [h3];exact⟨_,_,_,_,_,rfl⟩
 refine⟨fun d x hx=> ?_,fun j x hx=> ?_,hs.nk,fun j hj=>b1u (hs.fT j hj),fun j hj=>a9b rfl (b1F (hs.fH j hj))⟩
 · obtain⟨y,hy,rfl⟩:=b2x hx
   rcases hs.T d y hy with h|⟨s,h1,h2⟩
   · subst h;exact .inl (by simp [b0w,a3U])
   · unfold b0w
     cases hm:a3U k y with
     |true=>exact .inl rfl
     |false=>
      refine .inr ⟨s, ?_,c6.mono hok hk _ _ h2⟩
      have:=b3q (k:=k) h1
      simp only [b0G,h2.mentE k,hm]at this
      exact this
 · simp only
   rw [a1e hf2,N4]
   rcases b0F hx with⟨rfl,rfl⟩|⟨hne,hx⟩
   · exact⟨.row v' n xs z ty,by simp,by exact⟨rfl,rfl,rfl,hrep,hfl,hlen⟩⟩
   · obtain⟨y,hy,rfl⟩:=b2L hx
     obtain⟨e1,h1,h2⟩:=hs.H j y hy
     refine⟨a1x k e1,by rw [if_neg hne];simp only at h1;rw [h1];rfl, ?_⟩
     have h3:=a3R.mono hok hk h2
     cases y<;>cases e1<;>simp only [b6C,a1x,a3R]at h3⊢
     · exact⟨h3.1,b3R h3.2⟩
     · exact h3
theorem b6X {T:List (Nat×D)} {H:Hy} {nk:Nat} {T':List (Nat×SV)} {H':Hp} {nk':Nat} {w w1:World} {lo lo1:Nat} {iv iv1:List (Nat×Nat)} {v':Value} {n z:Nat} {l:List D} {xs:List Value} {ty:TypeId}
 (hs:Sim A ⟨T',H',nk',w,lo,iv⟩ ⟨T,H,nk⟩) (hv:∀b,b∈o6 v'→b∈bs H'∨w.heap.size≤b) (hfx:Fx (bs H') w w1) (hlo:(lo1=w1.heap.size)∨(lo1=lo∧iv1=iv))
 (hrep:d6 (okS A ⟨T',(nk', .row v' n xs z ty)::H',nk'+1,w1,lo1,iv1⟩) w1 l xs) (hfl:A9 l=true) (hlen:l.length=n*z):
 Sim A ⟨T',(nk', .row v' n xs z ty)::H',nk'+1,w1,lo1,iv1⟩ ⟨T,(nk, .row z n l ty)::H,nk+1⟩:=by
 have hnk:nk=nk':=hs.nk
 subst hnk
 have hok:∀c,okS A ⟨T',H',nk,w,lo,iv⟩ c→okS A ⟨T',(nk, .row v' n xs z ty)::H',nk+1,w1,lo1,iv1⟩ c∧w1.heap[c]?=w.heap[c]?:=by
  intro c ⟨h1,h2,h3⟩
  refine⟨⟨⟨?_,h1.2⟩,Nat.lt_of_lt_of_le h2 hfx.size,fun x hx=> ?_⟩,hfx.block c h2 h3⟩
  · rcases hlo with rfl|⟨rfl,rfl⟩
    · exact .inl (Nat.lt_of_lt_of_le h2 hfx.size)
    · exact h1.1
  · simp only [bs,bsE,List.mem_append]at hx
    rcases hx with hx|hx
    · rcases hv x hx with hx|hx
      · exact h3 x hx
      · intro e;simp only at h2;omega
    · exact h3 x hx
 have hk:∀q k,B1 ⟨T',H',nk,w,lo,iv⟩ q k→B1 ⟨T',(nk, .row v' n xs z ty)::H',nk+1,w1,lo1,iv1⟩ q k:=by
  intro q k ⟨h1,h2⟩
  simp only at h1
  refine⟨by simp only;omega,fun hq=> ?_⟩
  simp only
  rw [W7 (by omega)]
  exact h2 hq
 refine⟨fun d x hx=> ?_,fun k e he=> ?_,rfl,fun j hj=>hs.fT j (by simp only at hj⊢;omega),fun j hj=>a0b rfl (hs.fH j (by simp only at hj⊢;omega))⟩
 · rcases hs.T d x hx with h|⟨s,h1,h2⟩
   · exact .inl h
   · exact .inr ⟨s,h1,c6.mono hok hk _ _ h2⟩
 · simp only [j3]at he
   simp only [c9]
   cases hb:Nat.beq nk k with
   |true=>
    rw [hb]at he;cases he
    exact⟨_,rfl,by exact⟨rfl,rfl,rfl,hrep,hfl,hlen⟩⟩
   |false=>
    rw [hb]at he
    obtain⟨e',h1,h2⟩:=hs.H k e he
    exact⟨e',h1,a3R.mono hok hk h2⟩
theorem c4k {seq:Bool} {e esz bytes:Nat} {s x:D} {s' x':SV} {dst:Option Nat} (h:c5E e esz bytes s x sy fun st' d=>W6 X st' dst d KY) (hs:Sim A st sy) (h1:c6 (okS A st) st.w (B1 st) s s') (h2:c6 (okS A st) st.w (B1 st) x x'):
 b5n (cx X w0 bor) seq e esz bytes s' x' st fun st' d=>put (cx X w0 bor) st' dst d fun st'=>∃sy',KY sy'∧Sim A st' sy':=by
 unfold c5E at h
 split at h
 · exact h.elim
 rename_i hez
 have hez:=Nat.le_of_ble_eq_true hez
 have hnews:=h
 clear h
 obtain⟨m,l,news,h,hn,hrep,hfl,hlen⟩:=c2J (X:=X) (w0:=w0) (bor:=bor) hnews hs h2
 clear hnews
 obtain⟨T',H',nk',w,lo,iv⟩:=st
 have reW_of:∀ {w1:World} {K:List (Nat×SV)→Hp→Nat→World→Nat→List (Nat×Nat)→Prop},(∀lo1 iv1,(lo1=w1.heap.size∨(lo1=lo∧iv1=iv))→K T' H' nk' w1 lo1 iv1)→reW seq ⟨T',H',nk',w,lo,iv⟩ w1 K:=by
  intro w1 K hh
  cases seq with
  |true=>exact hh _ _ (.inl rfl)
  |false=>exact hh _ _ (.inr ⟨rfl,rfl⟩)
 split at h
 · rename_i T H nk
   have:=h1.sc;subst this
   obtain⟨hb,r',n',⟨rfl,rfl⟩,h⟩:=h
   have hnk:nk=nk':=hs.nk
   subst hnk
   refine⟨0,0,m, .slice none 0 0, [],news,⟨hez,hn,by simpa using hb.1,by simpa [maxLen]using hb.2⟩, .inl ⟨rfl,rfl,fun v' w1 hv hz hf=>reW_of fun lo1 iv1 hlo=> ?_⟩⟩
   have hsim:=b9q (ty:=e) hs hz hf hlo hrep hfl hlen
   refine⟨hs.fT nk (Nat.le_refl _),hs.fH nk (Nat.le_refl _),I7 h hsim ?_⟩
   simp only [c6]
   exact⟨trivial,by simp only;omega,fun _=>⟨_,_,_,_,_,by simp [c9];exact⟨rfl,rfl,rfl,rfl,rfl⟩⟩⟩
 · rename_i k z0 T H nk
   have h1':=h1
   simp only [c6]at h1
   obtain⟨rfl,hkey⟩:=h1
   split at h
   · rename_i z n r ty hfy
     split at h
     · rename_i hzz hty
       obtain rfl:=w4 hzz
       obtain rfl:=w4 hty
       obtain⟨hb,r',n',⟨rfl,rfl⟩,h⟩:=h
       obtain⟨e',hf',he⟩:=hs.H _ _ hfy
       cases e' with
       |blk=>exact he.elim
       |row v n' xs z' ty'=>
        obtain⟨rfl,rfl,rfl,hrep0,hfl0,hlen0⟩:=he
        refine⟨k,n,m,v,xs,news,⟨hez,hn,hb.1,by simpa [maxLen]using hb.2⟩, .inr (.inl ⟨rfl,hf',fun v' w1 hv hz hf=>reW_of fun lo1 iv1 hlo=> ?_⟩)⟩
        have h:=a4o h
        rw [b0S]at h
        have hsim:=b7Q (k:=k) (v':=v') (n:=n+m) (z:=z) (ty:=ty) (l:=r++l) (xs:=xs++news) hs hf' hz hf hlo (hrep0.app hrep) (R9 fun d hd=>by
         rcases List.mem_append.1 hd with hd|hd
         · exact w8 hfl0 hd
         · exact w8 hfl hd) (by simp [hlen0,hlen,Nat.add_mul])
        refine a6E (e0:=a1x k _) (by rw [N4];simp only at hf';rw [hf'];rfl) ?_
        rw [a4G]
        refine I7 h hsim ?_
        simp only [c6]
        exact⟨trivial,hkey.1,fun _=>⟨_,_,_,_,_,by simp only;rw [a1e (e0:=a1x k _) (by rw [N4];simp only at hf';rw [hf'];rfl)];simp;exact⟨rfl,rfl,rfl,rfl,rfl⟩⟩⟩
     · exact h.elim
   · exact h.elim
 · rename_i k o z0 n c T H nk
   simp only [c6]at h1
   obtain⟨rfl,hkey⟩:=h1
   split at h
   · rename_i z N r ty ho hc hz0 hfy
     obtain rfl:=w4 ho
     obtain rfl:=w4 hc
     split at h
     · rename_i hzz hty
       obtain rfl:=w4 hzz
       obtain rfl:=w4 hty
       obtain⟨⟨hN0,hnN,hb⟩,r',n',⟨rfl,rfl⟩,h⟩:=h
       obtain⟨e',hf',he⟩:=hs.H _ _ hfy
       cases e' with
       |blk=>exact he.elim
       |row v N' xs z' ty'=>
        obtain⟨rfl,rfl,rfl,hrep0,hfl0,hlen0⟩:=he
        have hle:n*z≤N*z:=Nat.mul_le_mul_right _ hnN
        refine⟨k,n,m,v,xs.take (n*z),news,⟨hez,hn,hb.1,by simpa [maxLen]using hb.2⟩, .inr (.inr (.inl ⟨rfl,⟨v,N,xs,hf',hN0,hnN,rfl⟩,fun v' w1 hv hz hf=>reW_of fun lo1 iv1 hlo=> ?_⟩))⟩
        have h:=a4o h
        rw [b0S]at h
        have hsim:=b7Q (k:=k) (v':=v') (n:=n+m) (z:=z) (ty:=ty) (l:=r.take (n*z)++l) (xs:=xs.take (n*z)++news) hs hf' hz hf hlo ((hrep0.take _).app hrep) (R9 fun d hd=>by
         rcases List.mem_append.1 hd with hd|hd
         · exact w8 hfl0 (List.mem_of_mem_take hd)
         · exact w8 hfl hd) (by simp only [List.length_append,List.length_take,hlen0,hlen,Nat.min_eq_left hle,Nat.add_mul])
        refine a6E (e0:=a1x k _) (by rw [N4];simp only at hf';rw [hf'];rfl) ?_
        rw [a4G]
        refine I7 h hsim ?_
        simp only [c6]
        exact⟨trivial,hkey.1,fun _=>⟨_,_,_,_,_,by simp only;rw [a1e (e0:=a1x k _) (by rw [N4];simp only at hf';rw [hf'];rfl)];simp;exact⟨rfl,rfl,rfl,rfl,rfl⟩⟩⟩
     · exact h.elim
   · exact h.elim
 · exact h.elim
end
end Go.Sx
namespace Go.Sx
open Go Go.RowKit
def R1 (k:Nat):Hp→Hp
 | []=> []
 |(j,e)::H=>match Nat.beq j k with|true=>R1 k H|false=>(j,e)::R1 k H
theorem a6J {H:Hp} {k j:Nat} (h:j≠k):c9 (R1 k H) j=c9 H j:=by
 induction H with
 |nil=>rfl
 |cons x H ih=>
  obtain⟨i,e⟩:=x
  simp only [R1,c9]
  cases hb:Nat.beq i k with
  |true=>
   have:=w4 hb;subst this
   rw [Z1 (Ne.symm h)];exact ih
  |false=>simp only [c9];rw [ih]
theorem a4x {H:Hp} {k j:Nat} {e:Ent} (h:(j,e)∈R1 k H):(j,e)∈H∧j≠k:=by
 induction H with
 |nil=>cases h
 |cons x H ih=>
  obtain⟨i,e'⟩:=x
  simp only [R1]at h
  cases hb:Nat.beq i k with
  |true=>rw [hb]at h;obtain⟨h1,h2⟩:=ih h;exact⟨List.mem_cons_of_mem _ h1,h2⟩
  |false=>
   rw [hb]at h
   rcases List.mem_cons.1 h with h|h
   · cases h;exact⟨List.mem_cons_self,a2V hb⟩
   · obtain⟨h1,h2⟩:=ih h;exact⟨List.mem_cons_of_mem _ h1,h2⟩
theorem b7p {k:Nat} (H:Hp):(R1 k H).Sublist H:=by
 induction H with
 |nil=>exact List.Sublist.slnil
 |cons x H ih=>
  obtain⟨i,e⟩:=x
  simp only [R1]
  cases hb:Nat.beq i k with
  |true=>exact List.Sublist.cons _ ih
  |false=>exact List.Sublist.cons_cons _ ih
theorem c5J {H H':Hp} (h:H.Sublist H'):(bs H).Sublist (bs H'):=by
 induction h with
 |slnil=>exact List.Sublist.slnil
 |cons x _ ih=>obtain⟨i,e⟩:=x;exact ih.trans (List.sublist_append_right _ _)
 |cons_cons x _ ih=>obtain⟨i,e⟩:=x;exact List.Sublist.append (List.Sublist.refl _) ih
def a3q (g:Nat→List SV→List SV):Hp→Hp
 | []=> []
 |(j, .blk b cs ty)::H=>(j, .blk b (g j cs) ty)::a3q g H
 |(j,e)::H=>(j,e)::a3q g H
theorem b0X {g:Nat→List SV→List SV} {H:Hp} {j:Nat}:c9 (a3q g H) j=(c9 H j).map (fun| .blk b cs ty=> .blk b (g j cs) ty|e=>e):=by
 induction H with
 |nil=>rfl
 |cons x H ih=>
  obtain⟨i,e⟩:=x
  cases e<;>simp only [a3q,c9]<;>cases hb:Nat.beq i j
  · exact ih
  · have:=w4 hb;subst this;rfl
  · exact ih
  · rfl
theorem mem_map {g:Nat→List SV→List SV} {H:Hp} {j:Nat} {e:Ent} (h:(j,e)∈a3q g H):(∃b cs ty,(j, .blk b cs ty)∈H∧e= .blk b (g j cs) ty)∨((j,e)∈H∧∃v n xs sz ty,e= .row v n xs sz ty):=by
 induction H with
 |nil=>cases h
 |cons x H ih=>
  obtain⟨i,e'⟩:=x
  cases e' with
  |blk b cs ty=>
   simp only [a3q]at h
   rcases List.mem_cons.1 h with h|h
   · cases h;exact .inl ⟨b,cs,ty,List.mem_cons_self,rfl⟩
   · rcases ih h with⟨b,cs,ty,h1,h2⟩|⟨h1,h2⟩
     · exact .inl ⟨b,cs,ty,List.mem_cons_of_mem _ h1,h2⟩
     · exact .inr ⟨List.mem_cons_of_mem _ h1,h2⟩
  |row v n xs sz ty=>
   simp only [a3q]at h
   rcases List.mem_cons.1 h with h|h
   · cases h;exact .inr ⟨List.mem_cons_self,_,_,_,_,_,rfl⟩
   · rcases ih h with⟨b,cs,ty,h1,h2⟩|⟨h1,h2⟩
     · exact .inl ⟨b,cs,ty,List.mem_cons_of_mem _ h1,h2⟩
     · exact .inr ⟨List.mem_cons_of_mem _ h1,h2⟩
theorem b8Z {g:Nat→List SV→List SV} {H:Hp}:bs (a3q g H)=bs H:=by
 induction H with
 |nil=>rfl
 |cons x H ih=>obtain⟨i,e⟩:=x;cases e<;>simp [a3q,bs,bsE,ih]
theorem c3j {g:Nat→List SV→List SV} {H:Hp}:(a3q g H).map (·.1)=H.map (·.1):=by
 induction H with
 |nil=>rfl
 |cons x H ih=>obtain⟨i,e⟩:=x;cases e<;>simp [a3q,ih]
theorem c4F {g:Nat→List SV→List SV} {H:Hp} (j:Nat):bOf (a3q g H) j=bOf H j∧m8 (a3q g H) j=m8 H j:=by
 simp only [bOf,m8,b0X]
 cases c9 H j with
 |none=>exact⟨rfl,rfl⟩
 |some e=>cases e<;>exact⟨rfl,rfl⟩
section
variable {A : Nat → Prop} {Xx : Cx} {w : World}
structure c4M (ok ok':Nat→Prop) (R R':Bool→Nat→Prop) (H:Hp) (w:World) (k:Nat) (e:E):Prop where
 ok:∀b,ok b→ok' b
 R:∀q j,j≠k→R q j→R' q j
 blk:∀cs ty,e= .blk cs ty→A9 cs=true∧m8 H k=undef∧∃b xs,bOf H k=b∧ok' b∧d6 ok' w cs xs∧∀j,j<cs.length→w.cell? ⟨b,j,none⟩=xs[j]?
 row:∀z n l ty,e= .row z n l ty→Rep ok' w (.lst z n l) (m8 H k)
variable {ok ok' : Nat → Prop} {R R' : Bool → Nat → Prop} {H : Hp} {k : Nat} {e : E}
theorem a7Q {s:SV} (h:ment k s=false):den (R1 k H) s=den H s:=a8m k (fun j hj=>⟨by simp [bOf,a6J hj],by simp [m8,a6J hj]⟩) s h
theorem c4l {x x':D} (h:fzO k e x=some x') (ho:a5B x=true):a5B x'=true:=by
 cases x<;>simp [a5B]at ho<;>simp only [fzO]at h
 · cases h;rfl
 · cases h;rfl
 · cases h;rfl
 · split at h
   · cases h;rfl
   · split at h<;>cases h;rfl
 · split at h<;>cases h;rfl
 · split at h
   · cases h;rfl
   · split at h<;>cases h;rfl
 · split at h<;>cases h;rfl
 · split at h
   · cases h;rfl
   · split at h
     · split at h<;>cases h;rfl
     · cases h
 · split at h<;>cases h;rfl
 · cases h;rfl
theorem c2Y {l l':List D} (h:fzL k e l=some l') (ho:A9 l=true):A9 l'=true:=by
 induction l generalizing l' with
 |nil=>simp [fzL]at h;subst h;rfl
 |cons x l ih=>
  simp only [fzL]at h
  split at h
  · rename_i y r hy hr
    cases h
    simp only [A9]
    rw [c4l hy (w8 ho List.mem_cons_self)]
    exact ih hr (R9 fun d hd=>w8 ho (List.mem_cons_of_mem _ hd))
  · cases h
mutual
theorem b8S (hz:c4M ok ok' R R' H w k e):∀(x:D) (s:SV) (x':D),c6 ok w R x s→fzO k e x=some x'→∃s',c6 ok' w R' x' s'∧den (R1 k H) s'=den H s∧ment k s'=false
 | .v x,s,x',h,hx=>by
  simp only [c6]at h
  simp only [fzO]at hx;cases hx
  obtain⟨rfl,h⟩:=h
  exact⟨.v x,by simp only [c6];exact⟨trivial,h⟩,rfl,rfl⟩
 | .lst z n l,s,x',h,hx=>by
  simp only [fzO]at hx;cases hx
  simp only [c6]at h
  obtain⟨y,rfl,h⟩:=h
  exact⟨.v y,by simp only [c6];exact⟨y,rfl,Rep.mono (fun b hb=>⟨hz.ok b hb,rfl⟩) _ _ h⟩,rfl,rfl⟩
 | .ptr l o,s,x',h,hx=>by
  simp only [fzO]at hx;cases hx
  simp only [c6]at h
  obtain⟨y,rfl,h⟩:=h
  exact⟨.v y,by simp only [c6];exact⟨y,rfl,Rep.mono (fun b hb=>⟨hz.ok b hb,rfl⟩) _ _ h⟩,rfl,rfl⟩
 | .own j o,s,x',h,hx=>by
  simp only [c6]at h
  obtain⟨rfl,h⟩:=h
  simp only [fzO]at hx
  cases hb:Nat.beq j k with
  |false=>
   rw [hb]at hx;cases hx
   exact⟨_,by simp only [c6];exact⟨trivial,hz.R _ _ (a2V hb) h⟩,a7Q (by simpa [ment]using hb),by simpa [ment]using hb⟩
  |true=>
   have:=w4 hb;subst this
   rw [hb]at hx
   simp only at hx
   split at hx
   · cases hx
     obtain⟨hfl,hrv,b,xs,h1,h2,h3,h4⟩:=hz.blk _ _ rfl
     refine⟨.v (.pointer (some ⟨b,o,none⟩)), ?_,by simp [den,h1],rfl⟩
     simp only [c6,Rep]
     exact⟨_,rfl,b,0,xs,by rw [Nat.zero_add],h2,hfl,h3,fun i hi=>by rw [Nat.zero_add];exact h4 i hi⟩
   · cases hx
 | .ownx j o,s,x',h,hx=>by
  simp only [c6]at h
  obtain⟨rfl,h⟩:=h
  simp only [fzO]at hx
  cases hb:Nat.beq j k with
  |false=>rw [hb]at hx;cases hx;exact⟨_,by simp only [c6];exact⟨trivial,hz.R _ _ (a2V hb) h⟩,a7Q (by simpa [ment]using hb),by simpa [ment]using hb⟩
  |true=>rw [hb]at hx;cases hx
 | .elr j z i o,s,x',h,hx=>by
  simp only [c6]at h
  obtain⟨rfl,h⟩:=h
  simp only [fzO]at hx
  cases hb:Nat.beq j k with
  |false=>rw [hb]at hx;cases hx;exact⟨_,by simp only [c6];exact⟨trivial,hz.R _ _ (a2V hb) h⟩,a7Q (by simpa [ment]using hb),by simpa [ment]using hb⟩
  |true=>rw [hb]at hx;cases hx
 | .row j z,s,x',h,hx=>by
  simp only [c6]at h
  obtain⟨rfl,h⟩:=h
  simp only [fzO]at hx
  cases hb:Nat.beq j k with
  |false=>rw [hb]at hx;cases hx;exact⟨_,by simp only [c6];exact⟨trivial,hz.R _ _ (a2V hb) h⟩,a7Q (by simpa [ment]using hb),by simpa [ment]using hb⟩
  |true=>
   have:=w4 hb;subst this
   rw [hb]at hx
   simp only at hx
   split at hx
   · cases hx
     exact⟨.v (m8 H j),by simp only [c6];exact⟨_,rfl,hz.row _ _ _ _ rfl⟩,rfl,rfl⟩
   · cases hx
 | .osl j o z n c,s,x',h,hx=>by
  simp only [c6]at h
  obtain⟨rfl,h⟩:=h
  simp only [fzO]at hx
  cases hb:Nat.beq j k with
  |false=>rw [hb]at hx;cases hx;exact⟨_,by simp only [c6];exact⟨trivial,hz.R _ _ (a2V hb) h⟩,a7Q (by simpa [ment]using hb),by simpa [ment]using hb⟩
  |true=>
   have:=w4 hb;subst this
   rw [hb]at hx
   simp only at hx
   split at hx
   · split at hx
     · rename_i l hl hnc hnm
       cases hx
       obtain⟨hfl,hrv,b,xs,h1,h2,h3,h4⟩:=hz.blk _ _ rfl
       obtain⟨g1,g2,g3⟩:=h3.part hl
       refine⟨.v (.slice (some ⟨b,o,none⟩) n c), ?_,by simp [den,h1,hrv,b2H,undef],rfl⟩
       simp only [c6,Rep]
       have hll:=(b3j hl).2.1
       rw [b7Y]at hll
       refine⟨_,rfl,_,c,rfl,Nat.le_of_ble_eq_true hnc,by have:=Nat.le_of_ble_eq_true hnm;omega,g2,a8p hfl fun d hd=>List.mem_of_mem_drop (List.mem_of_mem_take (hll▸hd)), .inr ⟨b,o,_,rfl,h2,g1,fun i hi=> ?_⟩⟩
       rw [h4 (o+i) (by omega),List.getElem?_take,if_pos hi,List.getElem?_drop]
     · cases hx
   · cases hx
 | .agg l,s,x',h,hx=>by
  simp only [c6]at h
  obtain⟨cs,h1,h2,h3⟩:=h
  simp only [fzO]at hx
  split at hx
  · rename_i l' hl
    cases hx
    obtain⟨cs',g1,g2,g3⟩:=a4g hz l cs l' h2 hl
    refine⟨.agg cs',by simp only [c6];exact⟨cs',rfl,g1,c2Y hl h3⟩, ?_,by simpa [ment]using g3⟩
    cases s<;>simp [a5d]at h1
    · rename_i y;cases y<;>simp at h1
      subst h1
      rw [L6]at g2
      simp [den,g2]
    · subst h1;simp [den,g2]
  · cases hx
 | .tup l,s,x',h,hx=>by
  simp only [c6]at h
  simp only [fzO]at hx
  split at hx
  · rename_i l' hl
    cases hx
    rcases h with⟨cs,rfl,h2⟩|⟨a,rfl,h2⟩
    · obtain⟨cs',g1,g2,g3⟩:=a4g hz l cs l' h2 hl
      exact⟨.tup cs',by simp only [c6];exact .inl ⟨cs',rfl,g1⟩,by simp [den,g2],by simpa [ment]using g3⟩
    · obtain⟨cs',g1,g2,g3⟩:=a4g hz l _ l' h2 hl
      rw [L6]at g2
      exact⟨.tup cs',by simp only [c6];exact .inl ⟨cs',rfl,g1⟩,by simp [den,g2],by simpa [ment]using g3⟩
  · cases hx
 | .fn f a b,s,x',h,hx=>by
  simp only [c6]at h
  simp only [fzO]at hx
  split at hx
  · rename_i a' b' ha hb
    cases hx
    rcases h with⟨p,q,rfl,h2,h3⟩|⟨p,q,rfl,h2,h3⟩
    · obtain⟨p',g1,g2,g3⟩:=a4g hz a p a' h2 ha
      obtain⟨q',g4,g5,g6⟩:=a4g hz b q b' h3 hb
      exact⟨.fn f p' q',by simp only [c6];exact .inl ⟨p',q',rfl,g1,g4⟩,by simp [den,g2,g5],by simp only [ment,g3,g6]⟩
    · obtain⟨p',g1,g2,g3⟩:=a4g hz a _ a' h2 ha
      obtain⟨q',g4,g5,g6⟩:=a4g hz b _ b' h3 hb
      rw [L6]at g2 g5
      exact⟨.fn f p' q',by simp only [c6];exact .inl ⟨p',q',rfl,g1,g4⟩,by simp [den,g2,g5],by simp only [ment,g3,g6]⟩
  · cases hx
 | .mp l,s,x',h,hx=>by
  simp only [fzO]at hx;cases hx
  simp only [c6]at h⊢
  obtain⟨y,rfl,h⟩:=h
  exact⟨.v y,⟨y,rfl,Rep.mono (fun b hb=>⟨hz.ok b hb,rfl⟩) _ _ h⟩,rfl,rfl⟩
 | .und,s,x',h,hx=>by
  simp only [fzO]at hx;cases hx
  simp only [c6]at h
  subst h
  exact⟨.v undef,by simp only [c6],rfl,rfl⟩
 | .bad,_,_,_,hx=>by simp [fzO]at hx
theorem a4g (hz:c4M ok ok' R R' H w k e):∀(l:List D) (r:List SV) (l':List D),c5 ok w R l r→fzL k e l=some l'→∃r',c5 ok' w R' l' r'∧i0 (R1 k H) r'=i0 H r∧M3 k r'=false
 | [], [],l',_,hx=>by simp only [fzL]at hx;cases hx;exact⟨[],trivial,rfl,rfl⟩
 |d::l,y::r,l',h,hx=>by
  simp only [c5]at h
  simp only [fzL]at hx
  split at hx
  · rename_i d' l'' hd hl
    cases hx
    obtain⟨s',g1,g2,g3⟩:=b8S hz d y d' h.1 hd
    obtain⟨r',g4,g5,g6⟩:=a4g hz l r l'' h.2 hl
    exact⟨s'::r',⟨g1,g4⟩,by simp [i0,g2,g5],by simp only [M3,g3,g6]⟩
  · cases hx
 | [],_::_,_,h,_=>by simp [c5]at h
 |_::_, [],_,h,_=>by simp [c5]at h
end
theorem c0a (hz:c4M ok ok' R R' H w k e):∀(l:List D) (r:List SV),c5 ok w R l r→∃r',c5 ok' w R' (fzC k e l) r'∧M3 k r'=false∧∀xs,j9 H r xs→j9 (R1 k H) r' xs
 | [], [],_=>⟨[],trivial,rfl,fun xs h=>by cases xs with
  |nil=>trivial
  |cons=>simp [j9]at h⟩
 |d::l,y::r,h=>by
  simp only [c5]at h
  obtain⟨r',g4,g5,g6⟩:=c0a hz l r h.2
  simp only [fzC,fzG]
  cases hd:fzO k e d with
  |none=>exact⟨.bad::r',⟨by simp only [c6],g4⟩,by simp only [M3,ment,g5],fun xs hc=>by
   cases xs with
   |nil=>simp [j9]at hc
   |cons x xs=>simp only [j9]at hc;exact⟨.inl rfl,g6 xs hc.2⟩⟩
  |some d'=>
   obtain⟨s',g1,g2,g3⟩:=b8S hz d y d' h.1 hd
   have hne:d≠ .bad:=fun e=>by subst e;simp [fzO]at hd
   have hy:=h.1.ne hne
   refine⟨s'::r',⟨g1,g4⟩,by simp only [M3,g3,g5],fun xs hc=> ?_⟩
   cases xs with
   |nil=>simp [j9]at hc
   |cons x xs=>
    simp only [j9]at hc
    refine⟨?_,g6 xs hc.2⟩
    rcases hc.1 with h|h
    · exact absurd h hy
    · exact .inr (by rw [g2];exact h)
 | [],_::_,h=>by simp [c5]at h
 |_::_, [],h=>by simp [c5]at h
theorem c1R {T:List (Nat×D)} {d:Nat} {x:D} (h:s7 (fzT k e T) d=some x):∃y,s7 T d=some y∧x=fzG k e y:=by
 induction T with
 |nil=>simp [s7,fzT]at h
 |cons q T ih=>
  obtain⟨d',s'⟩:=q
  simp only [s7,fzT]at h⊢
  cases hb:Nat.beq d' d with
  |true=>rw [hb]at h;cases h;exact⟨_,rfl,rfl⟩
  |false=>rw [hb]at h;exact ih h
theorem c1T {Hd:Hy} {j:Nat} {x:E} (h:j3 (fzH k e Hd) j=some x):j≠k∧∃y,j3 Hd j=some y∧x=fzE k e y:=by
 induction Hd with
 |nil=>simp [j3,fzH]at h
 |cons q Hd ih=>
  obtain⟨i,s'⟩:=q
  simp only [fzH]at h
  simp only [j3]
  cases hb:Nat.beq i k with
  |true=>
   rw [hb]at h
   obtain⟨h1,y,h2,h3⟩:=ih h
   have:=w4 hb;subst this
   rw [Z1 (Ne.symm h1)]
   exact⟨h1,y,h2,h3⟩
  |false=>
   rw [hb]at h
   simp only [j3]at h
   cases hb2:Nat.beq i j with
   |true=>rw [hb2]at h;cases h;exact⟨by have:=w4 hb2;subst this;exact a2V hb,_,rfl,rfl⟩
   |false=>rw [hb2]at h;exact ih h
end
end Go.Sx
namespace Go.Sx
open Go Go.RowKit
mutual
theorem a4s {ok:Nat→Prop} {w:World} {R:Bool→Nat→Prop} {H:Hp}:∀(x:D) (s:SV),c6 ok w R x s→a0F x=true→Rep ok w x (den H s)
 | .v x,s,h,_=>by simp only [c6]at h;rw [h.1];simp only [Rep,den];exact⟨trivial,h.2⟩
 | .lst z n l,s,h,_=>by simp only [c6]at h;obtain⟨y,rfl,h⟩:=h;exact h
 | .ptr l o,s,h,_=>by simp only [c6]at h;obtain⟨y,rfl,h⟩:=h;exact h
 | .agg l,s,h,hc=>by
  simp only [c6]at h
  obtain⟨cs,h1,h2,h3⟩:=h
  simp only [a0F]at hc
  split at hc
  · rename_i hcl
    have:=J8 (H:=H) l cs h2 hcl
    simp only [Rep]
    cases s<;>simp [a5d]at h1
    · rename_i y;cases y<;>simp at h1
      subst h1
      rw [L6]at this
      exact⟨_,rfl,this,h3⟩
    · subst h1;exact⟨_,rfl,by simpa using this,h3⟩
  · cases hc
 | .tup l,s,h,hc=>by
  simp only [c6]at h
  simp only [a0F]at hc
  simp only [Rep]
  rcases h with⟨cs,rfl,h⟩|⟨a,rfl,h⟩
  · exact⟨_,rfl,by simpa using J8 (H:=H) l cs h hc⟩
  · have:=J8 (H:=H) l _ h hc
    rw [L6]at this
    exact⟨_,rfl,this⟩
 | .mp l,s,h,hc=>by
  simp only [c6]at h
  obtain⟨y,rfl,h⟩:=h
  exact h
 | .fn f a b,s,h,hc=>by
  simp only [c6]at h
  simp only [a0F]at hc
  split at hc
  · rename_i ha
    simp only [Rep]
    rcases h with⟨p,q,rfl,h2,h3⟩|⟨p,q,rfl,h2,h3⟩
    · exact⟨_,_,rfl,by simpa using J8 (H:=H) a p h2 ha,by simpa using J8 (H:=H) b q h3 hc⟩
    · have g1:=J8 (H:=H) a _ h2 ha
      have g2:=J8 (H:=H) b _ h3 hc
      rw [L6]at g1 g2
      exact⟨_,_,rfl,g1,g2⟩
  · cases hc
 | .own _ _,_,_,h=>by simp [a0F]at h
 | .ownx _ _,_,_,h=>by simp [a0F]at h
 | .row _ _,_,_,h=>by simp [a0F]at h
 | .elr _ _ _ _,_,_,h=>by simp [a0F]at h
 | .osl _ _ _ _ _,_,_,h=>by simp [a0F]at h
 | .und,_,_,h=>by simp [a0F]at h
 | .bad,_,_,h=>by simp [a0F]at h
theorem J8 {ok:Nat→Prop} {w:World} {R:Bool→Nat→Prop} {H:Hp}:∀(l:List D) (r:List SV),c5 ok w R l r→U0 l=true→d6 ok w l (i0 H r)
 | [], [],_,_=>trivial
 |d::l,y::r,h,hc=>by
  simp only [c5]at h
  simp only [U0]at hc
  split at hc
  · rename_i hd
    exact⟨a4s d y h.1 hd,J8 l r h.2 hc⟩
  · cases hc
 | [],_::_,h,_=>by simp [c5]at h
 |_::_, [],h,_=>by simp [c5]at h
end
theorem b1B {ok:Nat→Prop} {w:World} {R:Bool→Nat→Prop}:∀(l:List D) (r:List SV),c5 ok w R l r→U0 l=true→ .bad∉r
 | [], [],_,_=>by simp
 |d::l,y::r,h,hc=>by
  simp only [c5]at h
  simp only [U0]at hc
  split at hc
  · rename_i hd
    have h2:=b1B l r h.2 hc
    intro hm
    rcases List.mem_cons.1 hm with e|hm
    · subst e
      cases d<;>simp_all [c6,a0F,a5d]
    · exact h2 hm
  · cases hc
 | [],_::_,h,_=>by simp [c5]at h
 |_::_, [],h,_=>by simp [c5]at h
section
variable {A : Nat → Prop} {Xx : Cx} {w : World} {st : St} {sy : Sy}
def c3I (st st':St):Prop:=∀d s,y0 st'.T d=some s→s= .bad∨∃s0,y0 st.T d=some s0∧s0≠ .bad∧den st'.H s=den st.H s0
theorem b4E {α:Type} {p:α→Prop} (d:α):∃x,(p x∨¬(∃y,p y)∧x=d):=by
 by_cases h:∃y,p y
 · obtain⟨y,hy⟩:=h;exact⟨y, .inl hy⟩
 · exact⟨d, .inr ⟨h,rfl⟩⟩
theorem b5t {g:Nat→SV→SV} {T:List (Nat×SV)} {d:Nat}:y0 (T.map fun p=>(p.1,g p.1 p.2)) d=(y0 T d).map (g d):=by
 induction T with
 |nil=>rfl
 |cons x T ih=>
  obtain⟨i,s⟩:=x
  simp only [List.map_cons,y0]
  cases hb:Nat.beq i d with
  |true=>have:=w4 hb;subst this;rfl
  |false=>exact ih
theorem b7m {g:Nat→SV→SV} {T:List (Nat×SV)} {j:Nat} (h:∀d s,ment j (g d s)=false):u4 j (T.map fun p=>(p.1,g p.1 p.2))=true:=by
 induction T with
 |nil=>rfl
 |cons x T ih=>simp only [List.map_cons,u4,h];exact ih
theorem b7N {g:Nat→List SV→List SV} {H:Hp} {j:Nat} (h:∀i cs,M3 j (g i cs)=false):G0 j (a3q g H)=true:=by
 induction H with
 |nil=>rfl
 |cons x H ih=>
  obtain⟨i,e⟩:=x
  cases e with
  |blk b cs ty=>simp only [a3q,G0,h];exact ih
  |row v n xs sz ty=>simp only [a3q,G0];exact ih
theorem b3w {H:Hp}:∀(xs:List Value),j9 H (xs.map fun _=>SV.bad) xs
 | []=>trivial
 |x::xs=>⟨.inl rfl,b3w xs⟩
theorem c1y {α:Type} (k:Nat) (l:List α):M3 k (l.map fun _=>SV.bad)=false:=by
 induction l with
 |nil=>rfl
 |cons x l ih=>simp only [List.map_cons,M3,ment];exact ih
def a8t (H' H:Hp):Prop:=∀j e,(j,e)∈H'→∃e0,(j,e0)∈H∧∀b,b∈bsE e→b∈bsE e0
theorem a8t.bs {H' H:Hp} (h:a8t H' H) (b:Nat) (hb:b∈bs H'):b∈Sx.bs H:=by
 obtain⟨j,e,h1,h2⟩:=A7.1 hb
 obtain⟨e0,h3,h4⟩:=h j e h1
 exact A7.2 ⟨j,e0,h3,h4 b h2⟩
theorem a8t.refl (H:Hp):a8t H H:=fun _ e h=>⟨e,h,fun _ h=>h⟩
theorem a8t.trans {A B C:Hp} (h:a8t A B) (k:a8t B C):a8t A C:=fun j e hm=>by
 obtain⟨e1,h1,h2⟩:=h j e hm
 obtain⟨e2,h3,h4⟩:=k j e1 h1
 exact⟨e2,h3,fun b hb=>h4 b (h2 b hb)⟩
theorem c4r (hA:∀b,(Xx.w0.heap.size≤b∨b∈Xx.bor)→A b) (hc:Cls Xx st.H st.nk w w) (hat:At st w) (hs:Sim A st sy) {k:Nat} {e:E} (hf:j3 sy.H k=some e) (hok:okE e=true):
 ∃st',Cls Xx st'.H st'.nk w w∧At st' w∧Sim A st' ⟨fzT k e sy.T,fzH k e sy.H,sy.nk⟩∧a8t st'.H st.H∧st'.nk=st.nk∧c3I st st'∧
  ∀l r l',c5 (okS A st) w (B1 st) l r→fzL k e l=some l'→∃r',c5 (okS A st') w (B1 st') l' r'∧i0 st'.H r'=i0 st.H r:=by
 obtain⟨T,H,nk,ws,lo,iv⟩:=st
 obtain⟨h1,h2,h3⟩:=hat
 simp only at h1 h2 h3 hc
 subst h1 h2 h3
 obtain⟨e',hf',hr⟩:=hs.H k e hf
 simp only at hf'
 have hmem:=n5 hf'
 have hkb:∀b,b∈bsE e'→b∉bs (R1 k H):=by
  intro b hb hb2
  obtain⟨j,x,hj,hbx⟩:=A7.1 hb2
  obtain⟨hj1,hj2⟩:=a4x hj
  exact a4y hc.nd hc.keys hmem hj1 (Ne.symm hj2) hb hbx
 have hsubl:=c5J (b7p (k:=k) H)
 --what is allowed now
 let ok':Nat→Prop:=fun b=>(b<ws.heap.size∧b9U (R1 k H) b)∧A b
 let R':Bool→Nat→Prop:=fun q j=>j<nk∧(q=true→∃v n xs sz ty,c9 (R1 k H) j=some (.row v n xs sz ty))
 have hz:c4M (okS A ⟨T,H,nk,ws,ws.heap.size, []⟩) ok' (B1 ⟨T,H,nk,ws,ws.heap.size, []⟩) R' H ws k e:=by
  have hok1:∀b,okS A ⟨T,H,nk,ws,ws.heap.size, []⟩ b→ok' b:=fun b h=>⟨⟨h.2.1,fun c hcb=>h.2.2 c (hsubl.subset hcb)⟩,h.1.2⟩
  have hkok:∀b,b∈bsE e'→ok' b:=fun b hb=>⟨⟨b7v (hc.own k e' hmem) hb,fun c hcb e=>hkb b hb (e▸hcb)⟩,hA b (by
   rcases hc.lb b (A7.2 ⟨k,e',hmem,hb⟩)with h|h
   · exact .inr h
   · exact .inl h)⟩
  refine⟨hok1,fun q j hj hq=>⟨hq.1,fun h=> ?_⟩,fun cs ty he=> ?_,fun z n l ty he=> ?_⟩
  · rw [a6J hj];exact hq.2 h
  · subst he
    cases e' with
    |row=>exact hr.elim
    |blk b cs' ty'=>
     simp only [okE]at hok
     split at hok
     · rename_i hno
       have hrep:=J8 (H:=H) _ _ hr.2 hno
       obtain⟨ys,hy,hh⟩:=hc.blk hf'
       have hys:=c0X hy (b1B _ _ hr.2 hno)
       rw [←hys]at hrep
       refine⟨hok,by simp [m8,hf'],b,ys,a6t hf',hkok b (by simp [bsE]),d6.mono (fun b hb=>⟨hok1 b hb,rfl⟩) _ _ hrep,fun j hj=> ?_⟩
       rw [a5Z hh];simp
     · cases hok
  · subst he
    cases e' with
    |blk=>exact hr.elim
    |row v n' xs z' ty'=>
     obtain⟨rfl,rfl,rfl,hrep,hfl,hlen⟩:=hr
     have hown:=hc.row hf'
     have hrv:m8 H k=v:=by simp [m8,hf']
     rw [hrv]
     simp only [Rep]
     rcases hown.2 with⟨rfl,rfl⟩|⟨g,cap,cur,rfl,hb,hg,hnc,hcm,_⟩
     · exact⟨none,0,rfl,Nat.le_refl _,by simp,hlen,hfl, .inl rfl⟩
     · refine⟨_,cap,rfl,hnc,by simp only [maxLen]at hcm;omega,hlen,hfl, .inr ⟨g,0,xs,rfl,hkok g (by simp [bsE,o6]),d6.mono (fun b hb=>⟨hok1 b hb,rfl⟩) _ _ hrep,fun j hj=> ?_⟩⟩
       have hxl:=hrep.length
       have hlt:j<xs.length:=by omega
       have:=hown.cells (g:=g) rfl j (xs[j]) (by simp [hlt])
       rw [V5]at this
       rw [this];simp [hlt]
 --the slots
 have hg:∀d s,∃s',((∃x x',s7 sy.T d=some x∧fzO k e x=some x'∧c6 ok' ws R' x' s'∧den (R1 k H) s'=den H s∧s≠ .bad∧ment k s'=false)∨
  ¬(∃s',∃x x',s7 sy.T d=some x∧fzO k e x=some x'∧c6 ok' ws R' x' s'∧den (R1 k H) s'=den H s∧s≠ .bad∧ment k s'=false)∧s'=SV.bad):=fun d s=>b4E (SV.bad)
 let g:Nat→SV→SV:=fun d s=>(hg d s).choose
 have hgs:∀d s,_:=fun d s=>(hg d s).choose_spec
 --the cells
 have hq:∀j cs,∃cs',((∃dcs ty,j3 sy.H j=some (.blk dcs ty)∧c5 ok' ws R' (fzC k e dcs) cs'∧M3 k cs'=false∧∀xs,j9 H cs xs→j9 (R1 k H) cs' xs)∨
  ¬(∃cs',∃dcs ty,j3 sy.H j=some (.blk dcs ty)∧c5 ok' ws R' (fzC k e dcs) cs'∧M3 k cs'=false∧∀xs,j9 H cs xs→j9 (R1 k H) cs' xs)∧cs'=cs.map fun _=>SV.bad):=fun j cs=>b4E _
 let q:Nat→List SV→List SV:=fun j cs=>(hq j cs).choose
 have hqs:∀j cs,_:=fun j cs=>(hq j cs).choose_spec
 have hR'lt:∀ {p j},R' p j→j<nk:=fun h=>h.1
 have hgm:∀j,nk≤j→∀d s,ment j (g d s)=false:=by
  intro j hj d s
  rcases hgs d s with⟨x,x',_,_,h3,_⟩|⟨_,h⟩
  · exact h3.ment (fun p hp=>by have:=hR'lt hp;omega)
  · show ment j (hg d s).choose=false
    rw [h];rfl
 have hqm:∀j,nk≤j→∀i cs,M3 j (q i cs)=false:=by
  intro j hj i cs
  rcases hqs i cs with⟨dcs,ty,_,h3,_⟩|⟨_,h⟩
  · exact h3.ment (fun p hp=>by have:=hR'lt hp;omega)
  · show M3 j (hq i cs).choose=false
    rw [h];exact c1y _ _
 have hden:∀s,den (a3q q (R1 k H)) s=den (R1 k H) s:=fun s=>a7S (fun j=>c4F j) s
 have hcell:∀l xs,j9 (R1 k H) l xs→j9 (a3q q (R1 k H)) l xs:=fun l xs h=>a2x h fun s _ _=>hden s
 have hksub:a8t (a3q q (R1 k H)) H:=fun j x hm=>by
  rcases mem_map hm with⟨b,cs,ty,h1,rfl⟩|⟨h1,v,n,xs,sz,ty,rfl⟩
  · exact⟨_,(a4x h1).1,fun _ h=>h⟩
  · exact⟨_,(a4x h1).1,fun _ h=>h⟩
 have hbs:∀b,b∈bs (a3q q (R1 k H))→b∈bs H:=hksub.bs
 have hks:∀b,okS A ⟨T.map fun p=>(p.1,g p.1 p.2),a3q q (R1 k H),nk,ws,ws.heap.size, []⟩ b↔ok' b:=by
  intro b
  constructor
  · intro h;exact⟨⟨h.2.1,fun c hcb=>h.2.2 c (by rw [b8Z];exact hcb)⟩,h.1.2⟩
  · intro h;exact⟨⟨.inl h.1.1,h.2⟩,h.1.1,fun c hcb=>h.1.2 c (by simp only [b8Z]at hcb;exact hcb)⟩
 have hkk:∀p j,R' p j→B1 ⟨T.map fun p=>(p.1,g p.1 p.2),a3q q (R1 k H),nk,ws,ws.heap.size, []⟩ p j:=by
  intro p j h
  refine⟨h.1,fun hp=> ?_⟩
  obtain⟨v,n,xs,sz,ty,h2⟩:=h.2 hp
  simp only
  rw [b0X,h2]
  exact⟨_,_,_,_,_,rfl⟩
 have up:∀x s,c6 ok' ws R' x s→c6 (okS A ⟨T.map fun p=>(p.1,g p.1 p.2),a3q q (R1 k H),nk,ws,ws.heap.size, []⟩) ws (B1 ⟨T.map fun p=>(p.1,g p.1 p.2),a3q q (R1 k H),nk,ws,ws.heap.size, []⟩) x s:=
  fun x s h=>c6.mono (fun b hb=>⟨(hks b).2 hb,rfl⟩) hkk _ _ h
 have upL:∀x s,c5 ok' ws R' x s→c5 (okS A ⟨T.map fun p=>(p.1,g p.1 p.2),a3q q (R1 k H),nk,ws,ws.heap.size, []⟩) ws (B1 ⟨T.map fun p=>(p.1,g p.1 p.2),a3q q (R1 k H),nk,ws,ws.heap.size, []⟩) x s:=
  fun x s h=>c5.mono (fun b hb=>⟨(hks b).2 hb,rfl⟩) hkk _ _ h
 refine⟨⟨T.map fun p=>(p.1,g p.1 p.2),a3q q (R1 k H),nk,ws,ws.heap.size, []⟩, ?_,⟨rfl,rfl,rfl⟩, ?_,hksub,rfl, ?_, ?_⟩
 · refine⟨Fx.refl _ _,hc.fx0,fun j x hm=> ?_,by simp only [b8Z];exact hsubl.nodup hc.nd,fun b hb=>hc.lb b (hbs b hb),by simp only [c3j];exact((b7p H).map _).nodup hc.keys,fun j x hm=> ?_⟩
   · rcases mem_map hm with⟨b,cs,ty,h1,rfl⟩|⟨h1,v,n,xs,sz,ty,rfl⟩
     · obtain⟨h2,h3⟩:=a4x h1
       obtain⟨xs,h4,h5⟩:=hc.own j _ h2
       refine⟨xs,hcell _ _ ?_,h5⟩
       rcases hqs j cs with⟨dcs,ty',_,_,_,h6⟩|⟨_,h6⟩
       · exact h6 xs h4
       · show j9 _ (hq j cs).choose xs
         rw [h6]
         have hl:=a8O h4
         have:(cs.map fun _=>SV.bad)=(xs.map fun _=>SV.bad):=by
          simp only [List.map_const',hl]
         rw [this];exact b3w xs
     · exact hc.own j _ (a4x h1).1
   · rcases mem_map hm with⟨b,cs,ty,h1,rfl⟩|⟨h1,_⟩
     · exact hc.lt j _ (a4x h1).1
     · exact hc.lt j _ (a4x h1).1
 · refine⟨fun d x hx=> ?_,fun j x hx=> ?_,hs.nk,fun j hj=>b7m (hgm j hj),fun j hj=>b7N (hqm j hj)⟩
   · obtain⟨y,hy,rfl⟩:=c1R hx
     unfold fzG
     cases hfz:fzO k e y with
     |none=>exact .inl rfl
     |some x'=>
      right
      have hyne:y≠ .bad:=fun e=>by subst e;simp [fzO]at hfz
      rcases hs.T d y hy with h|⟨s,h1,h2⟩
      · exact absurd h hyne
      · simp only at h1 h2
        refine⟨g d s,by simp only [b5t,h1];rfl,up _ _ ?_⟩
        rcases hgs d s with⟨y2,x2,h3,h4,h5,_⟩|⟨h3,_⟩
        · rw [hy]at h3;cases h3
          rw [hfz]at h4;cases h4
          exact h5
        · exfalso
          obtain⟨s',g1,g2,g3⟩:=b8S hz y s x' h2 hfz
          exact h3 ⟨s',y,x',hy,hfz,g1,g2,h2.ne hyne,g3⟩
   · obtain⟨hjk,y,hy,rfl⟩:=c1T hx
     obtain⟨e1,h1,h2⟩:=hs.H j y hy
     simp only at h1 h2
     simp only
     rw [b0X,a6J hjk,h1]
     cases y with
     |blk dcs ty=>
      cases e1 with
      |row=>exact h2.elim
      |blk b cs ty'=>
       obtain⟨rfl,h2⟩:=h2
       refine⟨_,rfl, ?_⟩
       simp only [fzE,a3R]
       refine⟨trivial,upL _ _ ?_⟩
       rcases hqs j cs with⟨dcs',ty',h3,h4,_⟩|⟨h3,_⟩
       · rw [hy]at h3;cases h3;exact h4
       · exfalso
         obtain⟨r',g1,g2,g3⟩:=c0a hz dcs cs h2
         exact h3 ⟨r',dcs,ty,hy,g1,g2,g3⟩
     |row z n l ty=>
      cases e1 with
      |blk=>exact h2.elim
      |row v n' xs z' ty'=>
       refine⟨_,rfl, ?_⟩
       simp only [a3R]at h2
       simp only [fzE,a3R]
       exact⟨h2.1,h2.2.1,h2.2.2.1,d6.mono (fun b hb=>⟨(hks b).2 (hz.ok b hb),rfl⟩) _ _ h2.2.2.2.1,h2.2.2.2.2⟩
 · intro d s hd
   simp only [b5t]at hd
   cases hl:y0 T d with
   |none=>rw [hl]at hd;cases hd
   |some s0=>
    rw [hl]at hd
    simp only [Option.map_some,Option.some.injEq]at hd
    rcases hgs d s0 with⟨x,x',h3,h4,h5,h6,h7,_⟩|⟨_,h3⟩
    · right
      refine⟨s0,rfl,h7, ?_⟩
      simp only
      rw [hden,←hd];exact h6
    · left;rw [←hd];exact h3
 · intro l r l' hl hfl
   obtain⟨r',g1,g2,_⟩:=a4g hz l r l' hl hfl
   refine⟨r',upL _ _ g1, ?_⟩
   simp only
   rw [←g2,U4,U4]
   exact List.map_congr_left fun s _=>hden s
end
end Go.Sx
namespace Go.Sx
open Go Go.RowKit
mutual
theorem b0o {ok ok':Nat→Prop} {w w':World}:∀(x:D) (y:Value),Rep ok w x y→a5H x=true→Rep ok' w' x y
 | .v x,y,h,_=>h
 | .agg l,y,h,hc=>by
  simp only [Rep]at h⊢
  obtain⟨a,h1,h2,h3⟩:=h
  exact⟨a,h1,b1e l _ h2 (by simpa [a5H]using hc),h3⟩
 | .tup l,y,h,hc=>by
  simp only [Rep]at h⊢
  obtain⟨a,h1,h2⟩:=h
  exact⟨a,h1,b1e l _ h2 (by simpa [a5H]using hc)⟩
 | .lst _ _ _,_,_,h=>by simp [a5H]at h
 | .ptr _ _,_,_,h=>by simp [a5H]at h
 | .mp _,_,_,h=>by simp [a5H]at h
 | .fn _ _ _,_,_,h=>by simp [a5H]at h
 | .own _ _,_,_,h=>by simp [a5H]at h
 | .ownx _ _,_,_,h=>by simp [a5H]at h
 | .row _ _,_,_,h=>by simp [a5H]at h
 | .elr _ _ _ _,_,_,h=>by simp [a5H]at h
 | .osl _ _ _ _ _,_,_,h=>by simp [a5H]at h
 | .und,_,_,h=>by simp [a5H]at h
 | .bad,_,_,h=>by simp [a5H]at h
theorem b1e {ok ok':Nat→Prop} {w w':World}:∀(l:List D) (r:List Value),d6 ok w l r→b7E l=true→d6 ok' w' l r
 | [], [],_,_=>trivial
 |d::l,y::r,h,hc=>by
  simp only [d6]at h
  simp only [b7E]at hc
  split at hc
  · rename_i hd;exact⟨b0o d y h.1 hd,b1e l r h.2 hc⟩
  · cases hc
 | [],_::_,h,_=>by simp [d6]at h
 |_::_, [],h,_=>by simp [d6]at h
end
section
variable {A : Nat → Prop} {Xx : Cx} {X : Cy} {w0 : World} {bor : List Nat} {st : St} {sy : Sy} {a : Act} {w : World}
theorem b8m {s1 s2 s3:St} (h:c3I s1 s2) (h':c3I s2 s3):c3I s1 s3:=by
 intro d s hd
 rcases h' d s hd with e|⟨t,h1,h2,h3⟩
 · exact .inl e
 · rcases h d t h1 with e|⟨u,h4,h5,h6⟩
   · exact absurd e h2
   · exact .inr ⟨u,h4,h5,by rw [h3,h6]⟩
theorem a6a (hA:∀b,(Xx.w0.heap.size≤b∨b∈Xx.bor)→A b):∀(ks:List Nat) {st:St} {sy sy':Sy} {l l':List D} {r:List SV},Cls Xx st.H st.nk w w→At st w→Sim A st sy→c5 (okS A st) w (B1 st) l r→a5X ks sy l=some (sy',l')→
 ∃st' r',Cls Xx st'.H st'.nk w w∧At st' w∧Sim A st' sy'∧a8t st'.H st.H∧c3I st st'∧c5 (okS A st') w (B1 st') l' r'∧i0 st'.H r'=i0 st.H r
 | [],st,sy,sy',l,l',r,hc,hat,hs,hl,h=>by
  simp only [a5X]at h;cases h
  exact⟨st,r,hc,hat,hs,a8t.refl _,fun d s h=>by
   by_cases hb:s= .bad
   · exact .inl hb
   · exact .inr ⟨s,h,hb,rfl⟩,hl,rfl⟩
 |k::ks,st,sy,sy',l,l',r,hc,hat,hs,hl,h=>by
  obtain⟨T,H,nk⟩:=sy
  simp only [a5X]at h
  split at h
  · rename_i e he
    split at h
    · rename_i l1 hok hfl
      simp only [c0d,b9R]at h
      obtain⟨st1,c1,a1,s1,b1,n1,o1,f1⟩:=c4r hA hc hat hs he hok
      obtain⟨r1,g1,g2⟩:=f1 l r l1 hl hfl
      obtain⟨st2,r2,c2,a2,s2,b2,o2,g3,g4⟩:=a6a hA ks c1 a1 s1 g1 h
      exact⟨st2,r2,c2,a2,s2,b2.trans b1,b8m o1 o2,g3,by rw [g4,g2]⟩
    · cases h
  · cases h
def now (st:St) (w:World):St:=⟨st.T,st.H,st.nk,w,w.heap.size, []⟩
theorem Rel.now (hr:Rel Xx st a w):Rel Xx (now st w) a w:=by
 refine⟨hr.size,hr.T,hr.dfs, ?_,Nat.le_refl _,by simp [Sx.now]⟩
 have hc:=hr.cls
 exact⟨Fx.refl _ _,hc.fx0,hc.own,hc.nd,hc.lb,hc.keys,hc.lt⟩
theorem a5G (hc:Cls Xx st.H st.nk st.w w):∀b,okS A st b→okS A (now st w) b∧w.heap[b]?=st.w.heap[b]?:=fun b hb=>
 ⟨⟨⟨.inl (Nat.lt_of_lt_of_le hb.2.1 hc.fx.size),hb.1.2⟩,Nat.lt_of_lt_of_le hb.2.1 hc.fx.size,hb.2.2⟩,hc.fx.block b hb.2.1 hb.2.2⟩
theorem Sim.now (hs:Sim A st sy) (hc:Cls Xx st.H st.nk st.w w):Sim A (now st w) sy:=by
 obtain⟨T,H,nk⟩:=sy
 exact hs.mono (a5G hc) (fun _ _ h=>h) (fun _ _ h=>h) (fun _ _ h=>h) rfl hs.fT hs.fH
theorem c5.now {l:List D} {r:List SV} (h:c5 (okS A st) st.w (B1 st) l r) (hc:Cls Xx st.H st.nk st.w w):c5 (okS A (now st w)) w (B1 (now st w)) l r:=c5.mono (a5G hc) (fun _ _ h=>h) _ _ h
theorem Rel.past {w':World} (hr:Rel Xx st a w) (hb:Below w.heap.size w w'):Rel Xx (Sx.now st w') a w':=by
 have hc:=hr.cls
 have hown:∀b,b∈bs st.H→w'.heap[b]?=w.heap[b]?:=fun b hbm=>hb.block b (hc.lt_size hbm)
 exact⟨hr.size,hr.T,hr.dfs,⟨Fx.refl _ _,hc.fx0.of_below hb,fun k e he=>V8 (hc.own k e he) fun b hbe=>hown b (A7.2 ⟨k,e,he,hbe⟩),hc.nd,hc.lb,hc.keys,hc.lt⟩,Nat.le_refl _,by simp [Sx.now]⟩
theorem b5L {w':World} (hc:Cls Xx st.H st.nk st.w w) (hb:Below w.heap.size w w'):∀b,okS A st b→okS A (now st w') b∧w'.heap[b]?=st.w.heap[b]?:=fun b h=>
 ⟨⟨⟨.inl (Nat.lt_of_lt_of_le h.2.1 (Nat.le_trans hc.fx.size hb.size)),h.1.2⟩,Nat.lt_of_lt_of_le h.2.1 (Nat.le_trans hc.fx.size hb.size),h.2.2⟩,by
  rw [hb.block b (Nat.lt_of_lt_of_le h.2.1 hc.fx.size)];exact hc.fx.block b h.2.1 h.2.2⟩
theorem Sim.past {w':World} (hs:Sim A st sy) (hc:Cls Xx st.H st.nk st.w w) (hb:Below w.heap.size w w'):Sim A (Sx.now st w') sy:=by
 obtain⟨T,H,nk⟩:=sy
 exact hs.mono (b5L hc hb) (fun _ _ h=>h) (fun _ _ h=>h) (fun _ _ h=>h) rfl hs.fT hs.fH
def LvY (A:Nat→Prop) (Xx:Cx) (H:Hp) (w:World) (KY:Sy→Prop) (a':Act) (w':World):Prop:=∃st' sy',KY sy'∧Sim A st' sy'∧Lv Xx H w st' a' w'
theorem a6o (v:Value):(o6 v).Nodup:=by unfold o6;split<;>simp
theorem b5r {k b:Nat} {e e':Ent}:∀ {H:Hp},(bs H).Nodup→c9 H k=some e→b∈bsE e→b∉bsE e'→b∉bs (a1p H k e')
 | [],_,h,_,_=>by simp [c9]at h
 |(j,ej)::H,hn,h,hb,hb'=>by
  simp only [bs,List.nodup_append]at hn
  simp only [c9]at h
  simp only [a1p]
  cases hj:Nat.beq j k with
  |true=>
   rw [hj]at h;cases h
   simp only [bs,List.mem_append,not_or]
   exact⟨hb',fun hm=>hn.2.2 b hb b hm rfl⟩
  |false=>
   rw [hj]at h
   simp only [bs,List.mem_append,not_or]
   exact⟨fun hm=>hn.2.2 b hm b (A7.2 ⟨k,e,n5 h,hb⟩) rfl,b5r hn.2.1 h hb hb'⟩
theorem c3a {k:Nat} {v v':Value} {n n' z z' ty ty':Nat} {xs xs':List Value} {w':World} (hr:Rel Xx st a w) (hat:At st w) (hf:c9 st.H k=some (.row v n xs z ty)) (hfx:Fx (o6 v) w w') (hown:w'.ownsRow 0 ty' z' v' n' xs')
 (hb:∀b,b∈o6 v'→b∈o6 v∨w.heap.size≤b):Rel Xx ⟨a1v k st.T,a1p (B9 k st.H) k (.row v' n' xs' z' ty'),st.nk,w',w'.heap.size, []⟩ a w':=by
 have hsplit:∃H1 H2,st.H=H1++(k, .row v n xs z ty)::H2∧(∀e',(k,e')∉H1):=by
  have:∀H:Hp,c9 H k=some (.row v n xs z ty)→∃H1 H2,H=H1++(k, .row v n xs z ty)::H2∧(∀e',(k,e')∉H1):=by
   intro H
   induction H with
   |nil=>intro h;simp [c9]at h
   |cons x H ih=>
    obtain⟨j,e⟩:=x
    intro h
    simp only [c9]at h
    cases hb:Nat.beq j k with
    |true=>rw [hb]at h;cases h;have:=w4 hb;subst this;exact⟨[],H,rfl,by simp⟩
    |false=>
     rw [hb]at h
     obtain⟨H1,H2,rfl,h1⟩:=ih h
     refine⟨(j,e)::H1,H2,rfl,fun e' hm=> ?_⟩
     rcases List.mem_cons.1 hm with hm|hm
     · cases hm;exact a2V hb rfl
     · exact h1 e' hm
  exact this _ hf
 obtain⟨H1,H2,hH,hk1⟩:=hsplit
 have hupd:∀e,a1p (B9 k st.H) k e=B9 k H1++(k,e)::B9 k H2:=by
  intro e
  rw [hH]
  clear hH hf
  induction H1 with
  |nil=>simp [B9,a1p]
  |cons x H1 ih=>
   obtain⟨j,ej⟩:=x
   have hj:j≠k:=fun e=>hk1 ej (by rw [e];exact List.mem_cons_self)
   simp only [List.cons_append,B9,a1p,Z1 hj]
   rw [ih fun e' hm=>hk1 e' (List.mem_cons_of_mem _ hm)]
 have hc:=hr.cls
 have hcw:Cls Xx st.H st.nk w w:=⟨Fx.refl _ _,hc.fx0,hc.own,hc.nd,hc.lb,hc.keys,hc.lt⟩
 have hnin:∀i,i∉o6 v→∀b,b∈o6 v→b≠i:=fun i hi b hb e=>hi (e▸hb)
 obtain⟨hcls,hden⟩:=hcw.grow (v':=v') (n:=n') (sz:=z') (ty:=ty') (xs:=xs') hH hk1 hown (fun i hi hn=>hfx.block i hi (hnin i (by simpa [bsE]using hn))) hfx.size hfx.os hfx.tape hfx.output (by simpa [bsE]using hb)
  (fun b hb=>hc.lb b (A7.2 ⟨k,_,n5 hf,hb⟩))
 refine⟨hr.size,fun d s hlk=> ?_,hr.dfs,by rw [hupd];exact hcls,Nat.le_refl _,by simp⟩
 rcases b0P hlk with h|⟨h,hm⟩
 · exact .inl h
 · rcases hr.T d s h with h|h
   · exact .inl h
   · right;rw [h];simp only;rw [hupd,hden s hm]
theorem b5q {k:Nat} {e:Ent}:∀ {H:Hp},c9 H k=some e→∃H1 H2,H=H1++(k,e)::H2∧(∀e',(k,e')∉H1)∧∀e',a1p H k e'=H1++(k,e')::H2
 | [],h=>by simp [c9]at h
 |(j,ej)::H,h=>by
  simp only [c9]at h
  cases hb:Nat.beq j k with
  |true=>rw [hb]at h;cases h;have:=w4 hb;subst this;exact⟨[],H,rfl,by simp,fun e'=>by simp [a1p]⟩
  |false=>
   rw [hb]at h
   obtain⟨H1,H2,rfl,h1,h2⟩:=b5q h
   refine⟨(j,ej)::H1,H2,rfl,fun e' hm=> ?_,fun e'=>by simp only [a1p,hb,h2];rfl⟩
   rcases List.mem_cons.1 hm with hm|hm
   · cases hm;exact a2V hb rfl
   · exact h1 e' hm
theorem c0J {v:Value} {w w':World} (h:Fx (o6 v) w w') (hlt:∀b,b∈o6 v→b<w.heap.size):∃w1,Below w.heap.size w w1∧w'.heap.size=w1.heap.size∧(∀i,i∉o6 v→w'.heap[i]?=w1.heap[i]?)∧w'.os=w1.os∧w'.tape=w1.tape∧w'.output=w1.output:=by
 have hcases:o6 v= []∨∃g,o6 v= [g]:=by
  unfold o6
  split
  · exact .inr ⟨_,rfl⟩
  · exact .inl rfl
 rcases hcases with h0|⟨g,h0⟩
 · rw [h0]at h⊢
   exact⟨w',⟨h.os,h.tape,h.output,h.size,fun i hi=>h.block i hi (by simp)⟩,rfl,fun _ _=>rfl,rfl,rfl,rfl⟩
 · rw [h0]at h hlt⊢
   have hg:=hlt g (by simp)
   refine⟨{ w' with heap:=w'.heap.setIfInBounds g (w.heap[g]'hg)},⟨h.os,h.tape,h.output,by simpa using h.size,fun i hi=> ?_⟩,by simp,fun i hi=> ?_,rfl,rfl,rfl⟩
   · simp only [Array.getElem?_setIfInBounds]
     by_cases e:g=i
     · subst e
       rw [if_pos rfl,if_pos (Nat.lt_of_lt_of_le hg h.size),Array.getElem?_eq_getElem hg]
     · rw [if_neg e]
       exact h.block i hi (by simpa using e)
   · simp only [Array.getElem?_setIfInBounds]
     rw [if_neg (fun e=>hi (by simp [e]))]
theorem c2i {A:Nat→Prop} {X:Cy} {w0:World} {bor:List Nat} {st1:St} {sy1:Sy} {H0:Hp} {a:Act} {w w':World} {KY:Sy→Prop} {dst:Option Nat} {k z n ty:Nat} {v:Value} {xs:List Value} {l':List D}
 (hr1:Rel (cx X w0 bor) st1 a w) (a1:At st1 w) (s1:Sim A st1 sy1) (b1:a8t st1.H H0) (hf':c9 st1.H k=some (.row v n xs z ty)) (hk:W6 X ⟨sy1.T,b1Q sy1.H k (.row z n l' ty),sy1.nk⟩ dst (.tup []) KY)
 (hrow:a9X (fun b=>okS A st1 b∧b∉o6 v) w' z n l' ty v) (hfx:Fx (o6 v) w w'):∃st' sy',KY sy'∧Sim A st' sy'∧Lv (cx X w0 bor) H0 w st' (a.put dst (.tuple #[])) w':=by
 obtain⟨T,H,nk⟩:=sy1
 obtain⟨T',H',nk',ws,lo,iv⟩:=st1
 obtain⟨h1,h2,h3⟩:=a1
 simp only at h1 h2 h3
 subst h1 h2 h3
 have c1:Cls (cx X w0 bor) H' nk' ws ws:=hr1.cls
 have hlt:∀b,b∈o6 v→b<ws.heap.size:=fun b hb=>c1.lt_size (A7.2 ⟨k,_,n5 hf',hb⟩)
 obtain⟨w1,hb1,hz1,hh1,ho1,ho2,ho3⟩:=c0J hfx hlt
 have hr2:=hr1.past hb1
 have s2:=s1.past c1 hb1
 obtain⟨xs',hown',hrp,hfl',hlen'⟩:=hrow
 simp only at hf'
 obtain⟨H1,H2,hH,hk1,hupd⟩:=b5q hf'
 have hd:∀j,bOf (H1++(k, .row v n xs' z ty)::H2) j=bOf (H1++(k, .row v n xs z ty)::H2) j∧m8 (H1++(k, .row v n xs' z ty)::H2) j=m8 (H1++(k, .row v n xs z ty)::H2) j:=by
  intro j
  simp only [bOf,m8,a2G (e:= .row v n xs' z ty) (e0:= .row v n xs z ty) hk1]
  by_cases hj:j=k
  · subst hj;simp [a2s hk1]
  · simp [hj]
 have hr3:Rel (cx X w0 bor) ⟨T',H1++(k, .row v n xs' z ty)::H2,nk',w1,w1.heap.size, []⟩ a w':=by
  have hr2':Rel (cx X w0 bor) ⟨T',H1++(k, .row v n xs z ty)::H2,nk',w1,w1.heap.size, []⟩ a w1:=by
   have:=hr2
   unfold Sx.now at this
   simp only at this
   rw [hH]at this
   exact this
  exact hr2'.swap rfl hd hz1 hh1 ho1 ho2 ho3 hown'
 have hr4:=hr3.now
 have s3:Sim A ⟨T',a1p H' k (.row v n xs' z ty),nk',w1,w1.heap.size, []⟩ ⟨T,b1Q H k (.row z n l' ty),nk⟩:=by
  refine b5Q (e0:= .row v n xs z ty) s2 hf' ?_ rfl (fun _=>⟨_,_,_,_,_,rfl⟩) fun j hj=>rfl
  refine⟨rfl,rfl,rfl,d6.mono (fun b hb=>⟨?_,(hh1 b hb.2).symm⟩) _ _ hrp,hfl',hlen'⟩
  exact(b5L c1 hb1 b hb.1).1
 rw [hupd]at s3
 have s4:=s3.now hr3.cls
 have hput:=I7 (w0:=w0) (bor:=bor) (s:= .v (.tuple #[])) hk s4 (by simp only [c6];exact .inr ⟨_,rfl,trivial⟩)
 obtain⟨st2,⟨sy2,g1,g2⟩,g3,g4⟩:=a2F hr4 hput (v:= .tuple #[]) (.inr rfl)
 refine⟨st2,sy2,g1,g2,g3,hfx.wide fun b hb=>b1.bs b (A7.2 ⟨k,_,n5 hf',hb⟩),fun b hb2=> .inl ?_⟩
 rw [g4]at hb2
 refine b1.bs b ?_
 have:bs (H1++(k,Ent.row v n xs' z ty)::H2)=bs H':=by rw [hH];exact b1X rfl
 rw [←this];exact hb2
theorem c1g (hA:∀b,(w0.heap.size≤b∨b∈bor)→A b) {o:Oper} {Q:Exit→Act→World→Prop} {KY:Sy→Prop} {f:FuncId} {args:List D} {args':List SV} (hr:Rel (cx X w0 bor) st a w) (hs:Sim A st sy) (ha:c5 (okS A st) st.w (B1 st) args args')
 (h:match(generalizing:=false) true,args with
 |true,x::rest=>match a5X (c0n sy.H rest) sy (x::rest)with
  |some (st', .row k _::fa)=>match U0 fa,j3 st'.H k with
   |true,some e=>(b2N X.P f k e fa st' fun sy' x=>W6 X sy' o.dst x KY)∨(c3J X.P f k e fa st' fun sy' x=>W6 X sy' o.dst x KY)
   |_,_=>False
  |_=>False
 |_,_=>False) (hout:a2i (cx X w0 bor) st a o (.call f args')):o.wp X.P a w (LvY A (cx X w0 bor) st.H w KY) Q:=by
 have hr0:=hr.now
 have hs0:=hs.now hr.cls
 have ha0:=ha.now hr.cls
 split at h
 · rename_i x rest _ _
   split at h
   · rename_i sy1 k z0 fa hfz
     split at h
     · rename_i e hcl hfe
       obtain⟨st1,l1,c1,a1,s1,b1,o1,g1,g2⟩:=a6a (Xx:=cx X w0 bor) hA _ hr0.cls ⟨rfl,rfl,rfl⟩ hs0 ha0 hfz
       have hr1:Rel (cx X w0 bor) st1 a w:=by
        refine⟨hr.size,fun d s hd=> ?_,hr.dfs, ?_, ?_, ?_⟩
        · rcases o1 d s hd with e|⟨s0,h1,h2,h3⟩
          · exact .inl e
          · rcases hr0.T d s0 h1 with e|e
            · exact absurd e h2
            · right;rw [e,h3]
        · rw [a1.1];exact c1
        · rw [a1.2.1];exact Nat.le_refl _
        · rw [a1.2.2];simp
       cases l1 with
       |nil=>simp [c5]at g1
       |cons s0 fa'=>
        simp only [c5]at g1
        obtain⟨g0,g1⟩:=g1
        simp only [c6]at g0
        obtain⟨rfl,hkey⟩:=g0
        obtain⟨e',hf',he⟩:=s1.H _ _ hfe
        cases e with
        |blk=>rcases h with h|h<;>(obtain⟨z,n,l,ty,_⟩:=h.ex;simp_all)
        |row z n l ty=>
        cases e' with
        |blk=>exact he.elim
        |row v n1 xs z1 ty1=>
         obtain⟨rfl,rfl,rfl,hrep,hfl,hlen⟩:=he
         rw [a1.1]at hrep
         have hown:=c1.row hf'
         have hdv:den st1.H (.row k)=v:=by simp [den,m8,hf']
         have hrepA:=J8 (H:=st1.H) _ _ g1 hcl
         have hnok:∀b,b∈o6 v→¬okS A st1 b:=fun b hb hok=>hok.2.2 b (A7.2 ⟨k,_,n5 hf',hb⟩) rfl
         have hoksz:∀b,okS A st1 b→b<w.heap.size:=fun b hb=>by have:=hb.2.1;rw [a1.1]at this;exact this
         have hargs:(i0 st.H args').toArray=(v::i0 st1.H fa').toArray:=by
          have:i0 st1.H (.row k::fa')=i0 st.H args':=g2
          rw [←this];simp only [i0,hdv]
         rcases h with h|h
         rotate_left
         · obtain⟨_,_,_,_,n',l',he1,⟨rfl,hd⟩,hk⟩:=h.ex
           cases he1
           have hcall:=hd (okS A st1) w v _ ⟨xs,hown,hrep,hfl,hlen⟩ hnok hrepA hoksz
           rw [←hargs]at hcall
           have hbody:=a0X hcall fun e w' ⟨he,_⟩=>⟨_,he⟩
           unfold Oper.wp
           rw [show(execOp a.eval o).run X.P w=_ from hout w hbody]
           simp only [Oper.upon]
           refine hcall.mono fun e w' ⟨he,hrow,hb⟩=> ?_
           subst he
           simp only
           exact c2i hr1 a1 s1 b1 hf' (a4o hk) hrow hb
         obtain⟨_,_,_,_,z',n',l',he1,hd,hk⟩:=h.ex
         cases he1
         have hcall:=hd (okS A st1) w v _ ⟨xs,hown,hrep,hfl,hlen⟩ hnok hrepA hoksz
         rw [←hargs]at hcall
         have hbody:=a0X hcall fun e w' ⟨v',he,_⟩=>⟨_,he⟩
         unfold Oper.wp
         rw [show(execOp a.eval o).run X.P w=_ from hout w hbody]
         simp only [Oper.upon]
         refine hcall.mono fun e w' ⟨v',he,hfr,⟨xs',hown',hrp,hfl',hlen'⟩,hb⟩=> ?_
         subst he
         simp only
         have hk:=a4o hk
         rw [b0S]at hk
         have hrel2:=c3a hr1 a1 hf' hb hown' hfr
         obtain⟨T,H,nk⟩:=sy1
         obtain⟨T',H',nk',ws,lo,iv⟩:=st1
         obtain⟨h1,h2,h3⟩:=a1
         simp only at h1 h2 h3
         subst h1 h2 h3
         have hlt:∀c,c∈bs H'→c<ws.heap.size:=fun c hc=>c1.lt_size hc
         have hfxH:Fx (bs H') ws w':=hb.wide fun b hb=>A7.2 ⟨k,_,n5 hf',hb⟩
         have hsim:Sim A ⟨a1v k T',a1p (B9 k H') k (.row v' n' xs' z' ty),nk',w',w'.heap.size, []⟩ ⟨a6P k T,b1Q (a5E k H) k (.row z' n' l' ty),nk⟩:=by
          refine c0G (lo:=ws.heap.size) (iv:= []) (w:=ws) s1 hf' (fun b hb=> ?_) hfxH (.inl rfl) ?_ hfl' hlen'
          · rcases hfr b hb with h|h
            · exact .inl (A7.2 ⟨k,_,n5 hf',h⟩)
            · exact .inr h
          · refine d6.mono (fun b hbk=>⟨?_,rfl⟩) _ _ hrp
            obtain⟨hb1,hb2⟩:=hbk
            have hne:∀c,c∈bs (a1p (B9 k H') k (.row v' n' xs' z' ty))→c≠b:=by
             intro c hc e
             subst e
             rcases hb1 with hb1|hb1|hb1
             · rcases b0U hc with hc|hc
               · rw [a5q]at hc
                 exact hb1.2.2 c hc rfl
               · exact hb2 hc
             · exact b5r (by rw [a5q];exact c1.nd) (show c9 (B9 k H') k=some (a1x k _) by rw [N4,hf'];rfl) (by rw [a9Z];exact hb1) hb2 hc
             · rcases b0U hc with hc|hc
               · rw [a5q]at hc
                 have:=hlt c hc;omega
               · exact hb2 hc
            rcases hb1 with hb1|hb1|hb1
            · exact⟨⟨.inl (Nat.lt_of_lt_of_le hb1.2.1 hb.size),hb1.1.2⟩,Nat.lt_of_lt_of_le hb1.2.1 hb.size,hne⟩
            · have hbm:b∈bs H':=A7.2 ⟨k,_,n5 hf',hb1⟩
              have hlw:=Nat.lt_of_lt_of_le (hlt b hbm) hb.size
              exact⟨⟨.inl hlw,hA b (c1.lb b hbm).symm⟩,hlw,hne⟩
            · exact⟨⟨.inl hb1.2,hA b (.inl (Nat.le_trans c1.fx0.size hb1.1))⟩,hb1.2,hne⟩
         have hfu:c9 (a1p (B9 k H') k (.row v' n' xs' z' ty)) k=some (.row v' n' xs' z' ty):=by
          rw [a1e (e0:=a1x k _) (by rw [N4,hf'];rfl)];simp
         have hput:=I7 (w0:=w0) (bor:=bor) (s:= .row k) hk hsim (by simp only [c6];exact⟨trivial,hkey.1,fun _=>⟨_,_,_,_,_,hfu⟩⟩)
         obtain⟨st2,⟨sy2,h1,h2⟩,h3,h4⟩:=a2F hrel2 hput (v:=v') (.inr (by simp [den,m8,hfu]))
         refine⟨st2,sy2,h1,h2,h3,hb.wide fun b hb=>b1.bs b (A7.2 ⟨k,_,n5 hf',hb⟩),fun b hb2=> ?_⟩
         rw [h4]at hb2
         rcases b0U hb2 with hb2|hb2
         · rw [a5q]at hb2;exact .inl (b1.bs b hb2)
         · rcases hfr b hb2 with h|h
           · exact .inl (b1.bs b (A7.2 ⟨k,_,n5 hf',h⟩))
           · exact .inr h
     · exact h.elim
   · exact h.elim
 · exact h.elim
def LvK (A:Nat→Prop) (Xx:Cx) (H:Hp) (w:World) (KY:Sy→Prop) (a':Act) (w':World):Prop:=∃st' sy',KY sy'∧Sim A st' sy'∧Lv Xx H w st' a' w'∧(∀i,i<w.heap.size→w'.heap[i]?=w.heap[i]?)∧KB H w st'.H
theorem b8Q (hA:∀b,(w0.heap.size≤b∨b∈bor)→A b) {o:Oper} {Q:Exit→Act→World→Prop} {KY:Sy→Prop} {f:FuncId} {args:List D} {args':List SV} (hr:Rel (cx X w0 bor) st a w) (hs:Sim A st sy) (ha:c5 (okS A st) st.w (B1 st) args args')
 (hcl:U0 args=true) (h:b3d X.P f args sy fun sy' x=>W6 X sy' o.dst x KY) (hout:a2i (cx X w0 bor) st a o (.call f args')):o.wp X.P a w (LvK A (cx X w0 bor) st.H w KY) Q:=by
 have hr0:=hr.now
 have hs0:=hs.now hr.cls
 have ha0:=ha.now hr.cls
 obtain⟨z,n,l,ty,hd,hk⟩:=h.ex
 have hrep:=J8 (H:=st.H) _ _ ha0 hcl
 have hcall:=hd (okS A (now st w)) w _ hrep fun b hb=>hb.2.1
 have hbody:=a0X hcall fun e w' ⟨v,he,_⟩=>⟨_,he⟩
 unfold Oper.wp
 rw [show(execOp a.eval o).run X.P w=_ from hout w hbody]
 simp only [Oper.upon]
 refine hcall.mono fun e w' ⟨v,he,hfr,⟨xs,hown,hrp,hfl,hlen⟩,hb⟩=> ?_
 subst he
 simp only
 obtain⟨T,H,nk⟩:=sy
 obtain⟨T',H',nk',ws,lo,iv⟩:=st
 have hnk:nk=nk':=hs.nk
 subst hnk
 have hownB:=a6o v
 have hblk:∀i,i<w.heap.size→w'.heap[i]?=w.heap[i]?:=fun i hi=>hb.block i hi
 have hrel:=hr0.cons (w':=w') (e:= .row v n xs z ty) (hs.fT nk (Nat.le_refl _)) (hs.fH nk (Nat.le_refl _)) hb.size hblk hb.os hb.tape hb.output hown hfr hownB
 have hrel2:=hrel.now
 have hlt:∀c,c∈bs H'→c<w.heap.size:=fun c hc=>hr.cls.lt_size hc
 have hsim:Sim A ⟨T',(nk, .row v n xs z ty)::H',nk+1,w',w'.heap.size, []⟩ ⟨T,(nk, .row z n l ty)::H,nk+1⟩:=by
  refine b6X (lo:=w.heap.size) (iv:= []) (w:=w) hs0 (fun b hb=> .inr (hfr b hb)) ((Fx.refl _ _).of_below hb) (.inl rfl) ?_ hfl hlen
  refine d6.mono (fun b hbk=>⟨?_,rfl⟩) _ _ hrp
  obtain⟨hb1,hb2⟩:=hbk
  have hne:∀c,c∈bs ((nk,Ent.row v n xs z ty)::H')→c≠b:=by
   intro c hc e
   subst e
   simp only [bs,bsE,List.mem_append]at hc
   rcases hc with hc|hc
   · exact hb2 hc
   · rcases hb1 with hb1|hb1
     · exact hb1.2.2 c hc rfl
     · have:=hlt c hc;omega
  rcases hb1 with hb1|hb1
  · exact⟨⟨.inl (Nat.lt_of_lt_of_le hb1.2.1 hb.size),hb1.1.2⟩,Nat.lt_of_lt_of_le hb1.2.1 hb.size,hne⟩
  · exact⟨⟨.inl hb1.2,hA b (.inl (Nat.le_trans hr.cls.fx0.size hb1.1))⟩,hb1.2,hne⟩
 have hput:=I7 (w0:=w0) (bor:=bor) (s:= .row nk) hk hsim (by simp only [c6];exact⟨trivial,by simp only;omega,fun _=>⟨_,_,_,_,_,by simp [c9];exact⟨rfl,rfl,rfl,rfl,rfl⟩⟩⟩)
 obtain⟨st2,⟨sy2,h1,h2⟩,h3,h4⟩:=a2F hrel2 hput (v:=v) (.inr (by simp [den,m8,now,c9]))
 refine⟨st2,sy2,h1,h2,⟨h3,(Fx.refl _ _).of_below hb,fun b hb2=> ?_⟩,hblk,fun k e hm b hb2=> ?_⟩
 rotate_left
 · rw [h4]at hm
   simp only [now]at hm
   rcases List.mem_cons.1 hm with hm|hm
   · cases hm;exact .inl (hfr b hb2)
   · exact .inr ⟨e,hm,hb2⟩
 rw [h4]at hb2
 simp only [now,bs,bsE,List.mem_append]at hb2
 rcases hb2 with hb2|hb2
 · exact .inr (hfr b hb2)
 · exact .inl hb2
abbrev b4n:=Value×Nat×List Value×Nat×TypeId
def a0q:Nat→List b4n→Hp→Hp
 |_, [],H=>H
 |k,(v,n,xs,z,ty)::rs,H=>a0q (k+1) rs ((k, .row v n xs z ty)::H)
theorem b3o:∀(rs:List b4n) (k:Nat) (H:Hp) (b:Nat),b∈bs (a0q k rs H)↔b∈bs H∨b∈rs.flatMap fun r=>o6 r.1
 | [],k,H,b=>by simp [a0q]
 |(v,n,xs,z,ty)::rs,k,H,b=>by
  rw [a0q,b3o rs]
  simp only [bs,bsE,List.mem_append,List.flatMap_cons]
  constructor
  · rintro((h|h)|h)
    · exact .inr (.inl h)
    · exact .inl h
    · exact .inr (.inr h)
  · rintro(h|h|h)
    · exact .inl (.inr h)
    · exact .inl (.inl h)
    · exact .inr h
theorem b5b:∀(rs:List b4n) (k:Nat) (H:Hp) (j:Nat) (e:Ent),(j,e)∈a0q k rs H→(j,e)∈H∨(∀b,b∈bsE e→b∈rs.flatMap fun r=>o6 r.1)
 | [],k,H,j,e,h=> .inl h
 |(v,n,xs,z,ty)::rs,k,H,j,e,h=>by
  rw [a0q]at h
  rcases b5b rs _ _ _ _ h with h|h
  · rcases List.mem_cons.1 h with h|h
    · cases h
      exact .inr fun b hb=>by simp only [List.flatMap_cons,List.mem_append];exact .inl hb
    · exact .inl h
  · exact .inr fun b hb=>by simp only [List.flatMap_cons,List.mem_append];exact .inr (h b hb)
theorem b1j {j:Nat}:∀(rs:List b4n) (k:Nat) (H:Hp),G0 j H=true→G0 j (a0q k rs H)=true
 | [],_,_,h=>h
 |(v,n,xs,z,ty)::rs,k,H,h=>b1j rs _ _ (by simpa [G0]using h)
theorem a1H {k:Nat}:∀(rs:List b4n) (nk:Nat) (H:Hp),k<nk→c9 (a0q nk rs H) k=c9 H k
 | [],_,_,_=>rfl
 |(v,n,xs,z,ty)::rs,nk,H,h=>by rw [a0q,a1H rs _ _ (by omega),W7 (by omega)]
theorem a3P:∀(rs:List b4n) (nk:Nat) (H:Hp) (i:Nat) (v:Value) (n:Nat) (xs:List Value) (z:Nat) (ty:TypeId),rs[i]?=some (v,n,xs,z,ty)→c9 (a0q nk rs H) (nk+i)=some (.row v n xs z ty)
 | [],_,_,_,_,_,_,_,_,h=>by simp at h
 |(v',n',xs',z',ty')::rs,nk,H,i,v,n,xs,z,ty,h=>by
  rw [a0q]
  cases i with
  |zero=>
   simp at h
   obtain⟨rfl,rfl,rfl,rfl,rfl⟩:=h
   rw [Nat.add_zero,a1H rs _ _ (by omega)]
   simp [c9]
  |succ i=>
   have:=a3P rs (nk+1) ((nk, .row v' n' xs' z' ty')::H) i v n xs z ty (by simpa using h)
   rw [show nk+(i+1)=nk+1+i by omega]
   exact this
theorem b1p {k:Nat} {e:E}:∀(rs:List (Nat×Nat×List D×TypeId)) (nk:Nat) (H:Hy),(∀k e,j3 H k=some e→k<nk)→j3 (b7R nk rs H) k=some e→j3 H k=some e∧k<nk∨∃i z n l ty,k=nk+i∧rs[i]?=some (z,n,l,ty)∧e= .row z n l ty
 | [],nk,H,hl,h=> .inl ⟨h,hl _ _ h⟩
 |(z,n,l,ty)::rs,nk,H,hl,h=>by
  rw [b7R]at h
  rcases b1p rs (nk+1) _ (fun k e hk=>by
   simp only [j3]at hk
   cases hb:Nat.beq nk k with
   |true=>have:=w4 hb;omega
   |false=>rw [hb]at hk;have:=hl _ _ hk;omega) h with⟨h,hlt⟩|⟨i,z',n',l',ty',rfl,h1,h2⟩
  · simp only [j3]at h
    cases hb:Nat.beq nk k with
    |true=>
     rw [hb]at h;cases h
     have:=w4 hb;subst this
     exact .inr ⟨0,z,n,l,ty,rfl,rfl,rfl⟩
    |false=>
     rw [hb]at h
     exact .inl ⟨h,by have:=a2V hb;omega⟩
  · exact .inr ⟨i+1,z',n',l',ty',by omega,by simpa using h1,h2⟩
theorem Rel.consL {Xx:Cx} {a:Act} {w:World} {T:List (Nat×SV)} {ws:World} {lo:Nat} {iv:List (Nat×Nat)}:∀(rs:List b4n) (H:Hp) (nk:Nat),Rel Xx ⟨T,H,nk,ws,lo,iv⟩ a w→(∀j,nk≤j→u4 j T=true)→(∀j,nk≤j→G0 j H=true)→
 (∀v n xs z ty,(v,n,xs,z,ty)∈rs→w.ownsRow 0 ty z v n xs)→(∀b,(b∈rs.flatMap fun r=>o6 r.1)→Xx.w0.heap.size≤b∧b∉bs H)→(rs.flatMap fun r=>o6 r.1).Nodup→Rel Xx ⟨T,a0q nk rs H,nk+rs.length,ws,lo,iv⟩ a w
 | [],_,_,hr,_,_,_,_,_=>hr
 |(v,n,xs,z,ty)::rs,H,nk,hr,hT,hH,ho,hb,hn=>by
  simp only [List.flatMap_cons,List.nodup_append]at hn
  have h1:=hr.consG (e:= .row v n xs z ty) (hT nk (Nat.le_refl _)) (hH nk (Nat.le_refl _)) (ho v n xs z ty List.mem_cons_self) (fun b hb'=>hb b (by simp only [List.flatMap_cons,List.mem_append];exact .inl hb')) (a6o v)
  have h2:=Rel.consL rs _ _ h1 (fun j hj=>hT j (Nat.le_of_succ_le hj)) (fun j hj=>by simpa [G0]using hH j (Nat.le_of_succ_le hj)) (fun v n xs z ty h=>ho v n xs z ty (List.mem_cons_of_mem _ h)) (fun b hb'=>by
   have h3:=hb b (by simp only [List.flatMap_cons,List.mem_append];exact .inr hb')
   refine⟨h3.1,fun hc=> ?_⟩
   simp only [bs,bsE,List.mem_append]at hc
   rcases hc with hc|hc
   · exact hn.2.2 b hc b hb' rfl
   · exact h3.2 hc) hn.2.1
  rw [a0q,List.length_cons,show nk+(rs.length+1)=nk+1+rs.length by omega]
  exact h2
theorem a3N.choose {ok:Nat→Prop} {w:World}:∀ {rows:List (Nat×Nat×List D×TypeId)} {rv:List Value},a3N ok w rows rv→
 ∃rs:List b4n,rs.map (·.1)=rv∧rs.length=rows.length∧(∀v n xs z ty,((v,n,xs,z,ty):b4n)∈rs→w.ownsRow 0 ty z v n xs)∧
  ∀(i z n:Nat) (l:List D) (ty:TypeId),rows[i]?=some (z,n,l,ty)→∃(v:Value) (xs:List Value),rs[i]?=some ((v,n,xs,z,ty):b4n)∧d6 ok w l xs∧A9 l=true∧l.length=n*z
 | [], [],_=>⟨[],rfl,rfl,fun _ _ _ _ _ h=>by simp at h,fun _ _ _ _ _ h=>by simp at h⟩
 |(z,n,l,ty)::rows,v::rv,h=>by
  simp only [a3N]at h
  obtain⟨⟨xs,h1,h2,h3,h4⟩,h5⟩:=h
  obtain⟨rs,g1,g2,g3,g4⟩:=a3N.choose h5
  refine⟨(v,n,xs,z,ty)::rs,by simp [g1],by simp [g2],fun v' n' xs' z' ty' hm=> ?_,fun i z' n' l' ty' hi=> ?_⟩
  · rcases List.mem_cons.1 hm with hm|hm
    · cases hm;exact h1
    · exact g3 _ _ _ _ _ hm
  · cases i with
    |zero=>simp at hi;obtain⟨rfl,rfl,rfl,rfl⟩:=hi;exact⟨v,xs,rfl,h2,h3,h4⟩
    |succ i=>
     obtain⟨v',xs',e1,e2⟩:=g4 i z' n' l' ty' (by simpa using hi)
     exact⟨v',xs',by simpa using e1,e2⟩
 | [],_::_,h=>by simp [a3N]at h
 |_::_, [],h=>by simp [a3N]at h
theorem b8j (hA:∀b,(w0.heap.size≤b∨b∈bor)→A b) {o:Oper} {Q:Exit→Act→World→Prop} {KY:Sy→Prop} {f:FuncId} {args:List D} {args':List SV} (hr:Rel (cx X w0 bor) st a w) (hs:Sim A st sy) (ha:c5 (okS A st) st.w (B1 st) args args')
 (hcl:U0 args=true) (h:a4O X.P f args sy fun sy' x=>W6 X sy' o.dst x KY) (hout:a2i (cx X w0 bor) st a o (.call f args')):o.wp X.P a w (LvK A (cx X w0 bor) st.H w KY) Q:=by
 have hr0:=hr.now
 have hs0:=hs.now hr.cls
 have ha0:=ha.now hr.cls
 obtain⟨rows,cells,⟨hfl,hd⟩,hk⟩:=h.ex
 have hrep:=J8 (H:=st.H) _ _ ha0 hcl
 have hcall:=hd (okS A (now st w)) w _ hrep fun b hb=>hb.2.1
 have hbody:=a0X hcall fun e w' ⟨v,rv,he,_⟩=>⟨_,he⟩
 unfold Oper.wp
 rw [show(execOp a.eval o).run X.P w=_ from hout w hbody]
 simp only [Oper.upon]
 refine hcall.mono fun e w' hex=> ?_
 obtain⟨av,rv,he,hbl,hnd,hrows,hcells,hb⟩:=hex
 subst he
 simp only
 obtain⟨T,H,nk⟩:=sy
 obtain⟨T',H',nk',ws,lo,iv⟩:=st
 have hnk:nk=nk':=hs.nk
 subst hnk
 obtain⟨rs,e1,e2,hown,hrow⟩:=hrows.choose
 have hflat:(rs.flatMap fun r=>o6 r.1)=rv.flatMap o6:=by rw [←e1,List.flatMap_map]
 have hlt:∀c,c∈bs H'→c<w.heap.size:=fun c hc=>hr.cls.lt_size hc
 have hblk:∀i,i<w.heap.size→w'.heap[i]?=w.heap[i]?:=fun i hi=>hb.block i hi
 have hrel0:=hr0.past hb
 have hrel:Rel (cx X w0 bor) ⟨T',a0q nk rs H',nk+rs.length,w',w'.heap.size, []⟩ a w':=by
  refine Rel.consL rs H' nk hrel0 hs.fT hs.fH hown (fun b hb'=> ?_) (by rw [hflat];exact hnd)
  rw [hflat]at hb'
  have h1:=hbl b hb'
  exact⟨Nat.le_trans hr.cls.fx0.size h1.1,fun hc=>by have:=hlt b hc;omega⟩
 have hne:∀b,(∀c,c∈bs H'→c≠b)→b∉rv.flatMap o6→∀c,c∈bs (a0q nk rs H')→c≠b:=by
  intro b h1 h2 c hc
  rcases(b3o rs nk H' c).1 hc with hc|hc
  · exact h1 c hc
  · rw [hflat]at hc
    exact fun e=>h2 (e▸hc)
 have hokN:∀b,((okS A (now ⟨T',H',nk,ws,lo,iv⟩ w) b∨(w.heap.size≤b∧b<w'.heap.size))∧b∉rv.flatMap o6)→okS A ⟨T',a0q nk rs H',nk+rs.length,w',w'.heap.size, []⟩ b:=by
  rintro b ⟨hb1,hb2⟩
  rcases hb1 with hb1|hb1
  · exact⟨⟨.inl (Nat.lt_of_lt_of_le hb1.2.1 hb.size),hb1.1.2⟩,Nat.lt_of_lt_of_le hb1.2.1 hb.size,hne b hb1.2.2 hb2⟩
  · exact⟨⟨.inl hb1.2,hA b (.inl (Nat.le_trans hr.cls.fx0.size hb1.1))⟩,hb1.2,hne b (fun c hc e=>by have:=hlt c hc;omega) hb2⟩
 have hokO:∀b,okS A (now ⟨T',H',nk,ws,lo,iv⟩ w) b→okS A ⟨T',a0q nk rs H',nk+rs.length,w',w'.heap.size, []⟩ b∧w'.heap[b]?=w.heap[b]?:=fun b hb1=>
  ⟨hokN b ⟨.inl hb1,fun hc=>by have h1:=(hbl b hc).1;have h2:=hb1.2.1;simp only [now]at h2;omega⟩,hblk b hb1.2.1⟩
 have hkO:∀q k,B1 (now ⟨T',H',nk,ws,lo,iv⟩ w) q k→B1 ⟨T',a0q nk rs H',nk+rs.length,w',w'.heap.size, []⟩ q k:=by
  intro q k ⟨h1,h2⟩
  simp only [now]at h1
  refine⟨by simp only;omega,fun hq=> ?_⟩
  simp only
  rw [a1H rs _ _ h1]
  exact h2 hq
 have hsim:Sim A ⟨T',a0q nk rs H',nk+rs.length,w',w'.heap.size, []⟩ ⟨T,b7R nk rows H,nk+rows.length⟩:=by
  refine⟨fun d x hx=> ?_,fun k e he=> ?_,by rw [e2],fun j hj=>hs.fT j (by simp only at hj⊢;omega),fun j hj=>b1j rs _ _ (hs.fH j (by simp only at hj⊢;omega))⟩
  · rcases hs0.T d x hx with h|⟨s,h1,h2⟩
    · exact .inl h
    · exact .inr ⟨s,h1,c6.mono hokO hkO _ _ h2⟩
  · have hyl:∀k e,j3 H k=some e→k<nk:=fun k e h=>by
     obtain⟨e',h1,_⟩:=hs.H k e h
     exact hr.cls.lt k e' (n5 h1)
    rcases b1p rows nk H hyl he with⟨h1,h2⟩|⟨i,z,n,l,ty,rfl,h1,rfl⟩
    · obtain⟨e',g1,g2⟩:=hs0.H k e h1
      exact⟨e',by rw [show(_:St).H=_ from rfl];simp only;rw [a1H rs _ _ h2];exact g1,a3R.mono hokO hkO g2⟩
    · obtain⟨v,xs,g1,g2,g3,g4⟩:=hrow i z n l ty h1
      exact⟨_,a3P rs nk H' i v n xs z ty g1,rfl,rfl,rfl,d6.mono (fun b hb1=>⟨hokN b hb1,rfl⟩) _ _ g2,g3,g4⟩
 have hval:∃cs:List SV,c5 (okS A ⟨T',a0q nk rs H',nk+rs.length,w',w'.heap.size, []⟩) w' (B1 ⟨T',a0q nk rs H',nk+rs.length,w',w'.heap.size, []⟩) (shC nk cells) cs∧i0 (a0q nk rs H') cs=av:=by
  clear hfl hk hd hcall hbody
  induction cells generalizing av with
  |nil=>cases av with
   |nil=>exact⟨[],trivial,rfl⟩
   |cons=>simp [W5]at hcells
  |cons d cells ih=>cases av with
   |nil=>cases d<;>simp [W5]at hcells
   |cons y av=>
    have gen:Rep (fun b=>(okS A (now ⟨T',H',nk,ws,lo,iv⟩ w) b∨(w.heap.size≤b∧b<w'.heap.size))∧b∉rv.flatMap o6) w' d y→W5 (fun b=>(okS A (now ⟨T',H',nk,ws,lo,iv⟩ w) b∨(w.heap.size≤b∧b<w'.heap.size))∧b∉rv.flatMap o6) w' rv cells av→
     ∃cs:List SV,c5 (okS A ⟨T',a0q nk rs H',nk+rs.length,w',w'.heap.size, []⟩) w' (B1 ⟨T',a0q nk rs H',nk+rs.length,w',w'.heap.size, []⟩) (d::shC nk cells) cs∧i0 (a0q nk rs H') cs=y::av:=by
     intro h1 h2
     obtain⟨cs,g1,g2⟩:=ih av h2
     exact⟨.v y::cs,⟨Rep.rel _ _ (Rep.mono (fun b hb1=>⟨hokN b hb1,rfl⟩) _ _ h1),g1⟩,by simp [i0,den,g2]⟩
    cases d with
    |row i z=>
     simp only [W5]at hcells
     obtain⟨h1,h2⟩:=hcells
     obtain⟨cs,g1,g2⟩:=ih av h2
     have h3:∃r,rs[i]?=some r∧r.1=y:=by
      rw [←e1,List.getElem?_map]at h1
      cases hri:rs[i]? with
      |none=>rw [hri]at h1;cases h1
      |some r=>rw [hri]at h1;exact⟨r,rfl,Option.some.inj h1⟩
     obtain⟨⟨v,n,xs,z',ty⟩,h3,rfl⟩:=h3
     have h4:=a3P rs nk H' i v n xs z' ty h3
     have hi:i<rs.length:=(List.getElem?_eq_some_iff.1 h3).1
     refine⟨.row (nk+i)::cs,⟨?_,g1⟩,by simp [i0,den,m8,h4,g2]⟩
     simp only [c6]
     exact⟨trivial,by simp only;omega,fun _=>⟨v,n,xs,z',ty,h4⟩⟩
    |_=>simp only [W5]at hcells;exact gen hcells.1 hcells.2
 obtain⟨cs,hcs,hden⟩:=hval
 have hflS:A9 (shC nk cells)=true:=by
  clear hcs hcells hk hd hcall hbody
  induction cells with
  |nil=>rfl
  |cons d l ih=>
   have h1:=w8 hfl List.mem_cons_self
   have h2:=ih (R9 fun x hx=>w8 hfl (List.mem_cons_of_mem _ hx))
   cases d<;>simp [a5B]at h1<;>exact h2
 have hput:=I7 (w0:=w0) (bor:=bor) (s:= .agg cs) hk hsim (by simp only [c6];exact⟨cs,rfl,hcs,hflS⟩)
 obtain⟨st2,⟨sy2,h1,h2⟩,h3,h4⟩:=a2F hrel hput (v:= .agg av.toArray) (.inr (by simp [den,hden]))
 refine⟨st2,sy2,h1,h2,⟨h3,(Fx.refl _ _).of_below hb,fun b hb2=> ?_⟩,hblk,fun k e hm b hb2=> ?_⟩
 · rw [h4]at hb2
   rcases(b3o rs nk H' b).1 hb2 with hb2|hb2
   · exact .inl hb2
   · rw [hflat]at hb2;exact .inr (hbl b hb2).1
 · rw [h4]at hm
   rcases b5b rs nk H' k e hm with hm|hm
   · exact .inr ⟨e,hm,hb2⟩
   · have:=hm b hb2
     rw [hflat]at this
     exact .inl (hbl b this).1
theorem b2R (hA:∀b,(w0.heap.size≤b∨b∈bor)→A b) {o:Oper} {Q:Exit→Act→World→Prop} {KY:Sy→Prop} {f:FuncId} {args:List D} {args':List SV} (hr:Rel (cx X w0 bor) st a w) (hs:Sim A st sy) (ha:c5 (okS A st) st.w (B1 st) args args')
 (hln:P8 f X.ln=false) (h:b1G X true f args sy fun sy' x=>W6 X sy' o.dst x KY) (hout:a2i (cx X w0 bor) st a o (.call f args')):o.wp X.P a w (LvK A (cx X w0 bor) st.H w KY) Q:=by
 have hr0:=hr.now
 have hs0:=hs.now hr.cls
 have ha0:=ha.now hr.cls
 --the call itself,from some state
 have main:∀(st1:St) (args1:List SV) (fa:List D) (Qr:D→Prop),Cls (cx X w0 bor) st1.H st1.nk w w→At st1 w→c5 (okS A st1) w (B1 st1) fa args1→i0 st1.H args1=i0 st.H args'→U0 fa=true→d7 X.P f fa Qr→
  (∀v r w',Below w.heap.size w w'→Qr r→Rep (fun b=>okS A st1 b∨(w.heap.size≤b∧b<w'.heap.size)) w' r v→LvK A (cx X w0 bor) st.H w KY (a.put o.dst v) w')→o.wp X.P a w (LvK A (cx X w0 bor) st.H w KY) Q:=by
  intro st1 args1 fa Qr hc hat hfa hden hcl hd hk
  have hrep:=J8 (H:=st1.H) _ _ hfa hcl
  rw [hden]at hrep
  have hcall:=hd (okS A st1) w _ hrep fun b hb=>by have:=hb.2.1;rw [hat.1]at this;exact this
  have hbody:=a0X hcall fun e w' ⟨v,r,he,_⟩=>⟨_,he⟩
  unfold Oper.wp
  rw [show(execOp a.eval o).run X.P w=_ from hout w hbody]
  simp only [Oper.upon]
  refine hcall.mono fun e w' ⟨v,r,he,hq,hrp,hb⟩=> ?_
  subst he
  exact hk v r w' hb hq hrp
 have done:∀(st1:St) (sy1:Sy) (v:Value) (r:D) (w':World),Rel (cx X w0 bor) st1 a w→Sim A st1 sy1→a8t st1.H st.H→Below w.heap.size w w'→c6 (okS A (now st1 w')) w' (B1 (now st1 w')) r (.v v)→W6 X sy1 o.dst r KY→LvK A (cx X w0 bor) st.H w KY (a.put o.dst v) w':=by
  intro st1 sy1 v r w' hr1 hs1 hsub hb hrd hp
  have hput:=I7 (w0:=w0) (bor:=bor) hp (hs1.past hr1.cls hb) hrd
  obtain⟨st2,⟨sy2,h1,h2⟩,h3,h4⟩:=a2F (hr1.past hb) hput (v:=v) (.inr rfl)
  exact⟨st2,sy2,h1,h2,⟨h3,(Fx.refl _ _).of_below hb,fun b hb2=> .inl (hsub.bs b (by rw [h4]at hb2;exact hb2))⟩,fun i hi=>hb.block i hi,fun k e hm b hb2=>by
   rw [h4]at hm
   obtain⟨e0,g1,g2⟩:=hsub k e hm
   exact .inr ⟨e0,g1,g2 b hb2⟩⟩
 have repOk:∀(st1:St) (w':World) (v:Value) (r:D),Cls (cx X w0 bor) st1.H st1.nk st1.w w→At st1 w→Below w.heap.size w w'→Rep (fun b=>okS A st1 b∨(w.heap.size≤b∧b<w'.heap.size)) w' r v→c6 (okS A (now st1 w')) w' (B1 (now st1 w')) r (.v v):=by
  intro st1 w' v r hc hat hb hrp
  refine Rep.rel _ _ (Rep.mono (fun b hbk=>⟨?_,rfl⟩) _ _ hrp)
  rcases hbk with hbk|⟨h1,h2⟩
  · exact((b5L hc hb) b hbk).1
  · exact⟨⟨.inl h2,hA b (.inl (Nat.le_trans hc.fx0.size h1))⟩,h2,fun c hcb e=>by have:=hc.lt_size hcb;omega⟩
 unfold b1G at h
 split at h
 · rename_i hm;rw [hln]at hm;cases hm
 · split at h
   · rcases h with h|h
     · exact b8Q hA hr hs ha (by assumption) h hout
     · exact b8j hA hr hs ha (by assumption) h hout
   · exact h.elim
 split at h
 · rename_i hcl
   obtain⟨Qr,hd,hk⟩:=h.ex
   refine main (now st w) args' args Qr hr0.cls ⟨rfl,rfl,rfl⟩ ha0 rfl hcl hd fun v r w' hb hq hrp=> ?_
   exact done (now st w) sy v r w' hr0 hs0 (a8t.refl _) hb (repOk (now st w) w' v r hr0.cls ⟨rfl,rfl,rfl⟩ hb hrp) (hk r hq)
 · split at h
   · rename_i sy' fa hfz
     split at h
     · rename_i hcl
       obtain⟨Qr,hd,hk⟩:=h.ex
       obtain⟨st1,args1,c1,a1,s1,b1,o1,g1,g2⟩:=a6a (Xx:=cx X w0 bor) hA _ hr0.cls ⟨rfl,rfl,rfl⟩ hs0 ha0 hfz
       have hr1:Rel (cx X w0 bor) st1 a w:=by
        refine⟨hr.size,fun d s hd=> ?_,hr.dfs, ?_, ?_, ?_⟩
        · rcases o1 d s hd with e|⟨s0,h1,h2,h3⟩
          · exact .inl e
          · rcases hr0.T d s0 h1 with e|e
            · exact absurd e h2
            · right;rw [e,h3]
        · rw [a1.1];exact c1
        · rw [a1.2.1];exact Nat.le_refl _
        · rw [a1.2.2];simp
       refine main st1 args1 fa Qr c1 a1 g1 g2 hcl hd fun v r w' hb hq hrp=> ?_
       have hkr:=hk r hq
       cases hsc:a5H r with
       |true=>
        rw [hsc]at hkr
        exact done (now st w) sy v r w' hr0 hs0 (a8t.refl _) hb (Rep.rel _ _ (b0o _ _ hrp hsc)) hkr
       |false=>
        rw [hsc]at hkr
        exact done st1 sy' v r w' hr1 s1 b1 hb (repOk st1 w' v r hr1.cls a1 hb hrp) hkr
     · exact h.elim
   · exact h.elim
theorem c0Z (hA:∀b,(w0.heap.size≤b∨b∈bor)→A b) {o:Oper} {Q:Exit→Act→World→Prop} {KY:Sy→Prop} {f:FuncId} {args:List D} {args':List SV} (hr:Rel (cx X w0 bor) st a w) (hs:Sim A st sy) (ha:c5 (okS A st) st.w (B1 st) args args')
 (h:b1G X true f args sy fun sy' x=>W6 X sy' o.dst x KY) (hout:a2i (cx X w0 bor) st a o (.call f args')):o.wp X.P a w (LvY A (cx X w0 bor) st.H w KY) Q:=by
 cases hln:P8 f X.ln with
 |true=>simp only [b1G,hln]at h;exact c1g hA hr hs ha h hout
 |false=>exact Oper.wp_mono (fun a' w' ⟨st2,sy2,g1,g2,g3,_⟩=>⟨st2,sy2,g1,g2,g3⟩) (b2R hA hr hs ha hln h hout)
theorem b9y (hA:∀b,(w0.heap.size≤b∨b∈bor)→A b) {KY:Sy→Prop} {f:FuncId} {args:List D} {args':List SV} {dst:Option Nat} (hs:Sim A st sy) (ha:c5 (okS A st) st.w (B1 st) args args')
 (h:b1G X false f args sy fun sy' x=>W6 X sy' dst x KY):c3s (cx X w0 bor) false f args' st fun st' s=>put (cx X w0 bor) st' dst s fun st'=>∃sy',KY sy'∧Sim A st' sy':=by
 have fxok:∀n w1,st.w.heap.size≤n→n≤w1.heap.size→Fx (bs st.H) st.w w1→∀b,okS A st b→okS A ⟨st.T,st.H,st.nk,w1,st.lo,(n,w1.heap.size)::st.iv⟩ b∧w1.heap[b]?=st.w.heap[b]?:=by
  intro n w1 h1 h2 hfx b hb
  refine⟨⟨⟨?_,hb.1.2⟩,Nat.lt_of_lt_of_le hb.2.1 hfx.size,hb.2.2⟩,hfx.block b hb.2.1 hb.2.2⟩
  rcases hb.1.1 with h|⟨p,hp,h3⟩
  · exact .inl h
  · exact .inr ⟨p,List.mem_cons_of_mem _ hp,h3⟩
 have simOk:∀n w1,st.w.heap.size≤n→n≤w1.heap.size→Fx (bs st.H) st.w w1→Sim A ⟨st.T,st.H,st.nk,w1,st.lo,(n,w1.heap.size)::st.iv⟩ sy:=by
  intro n w1 h1 h2 hfx
  obtain⟨T,H,nk⟩:=sy
  exact hs.mono (fxok n w1 h1 h2 hfx) (fun _ _ h=>h) (fun _ _ h=>h) (fun _ _ h=>h) rfl hs.fT hs.fH
 unfold b1G at h
 split at h
 · exact h.elim
 · exact h.elim
 split at h
 · rename_i hcl
   obtain⟨Qr,hd,hk⟩:=h.ex
   refine⟨Value, .v,fun v n w1=>w0.heap.size≤n∧∃r,Qr r∧Rep (fun b=>(b<n∧okS A st b)∨(n≤b∧b<w1.heap.size)) w1 r v,fun wc hc=> ?_,fun v n w1 h1 h2 h3 hfx ⟨hw0,r,hq,hrp⟩=> ?_⟩
   · have hrep:=J8 (H:=st.H) _ _ (ha.now hc) hcl
     have hrep2:d6 (fun b=>b<wc.heap.size∧okS A st b) wc args (i0 st.H args'):=by
      have:=J8 (H:=st.H) _ _ ha hcl
      refine d6.mono (fun b hb=>⟨⟨Nat.lt_of_lt_of_le hb.2.1 hc.fx.size,hb⟩,hc.fx.block b hb.2.1 hb.2.2⟩) _ _ this
     refine(hd _ wc _ hrep2 fun b hb=>hb.1).mono fun e w' ⟨v,r,he,hq,hrp,hb⟩=> ?_
     exact⟨v,he,hb,hc.fx0.size,r,hq,hrp⟩
   · obtain⟨T',H',nk',w,lo,iv⟩:=st
     refine I7 (hk r hq) (simOk n w1 h1 h2 hfx) (Rep.rel _ _ (Rep.mono (fun b hbk=>⟨?_,rfl⟩) _ _ hrp))
     rcases hbk with⟨_,hbk⟩|⟨h4,h5⟩
     · exact(fxok n w1 h1 h2 hfx b hbk).1
     · exact⟨⟨.inr ⟨_,List.mem_cons_self,h4,h5⟩,hA b (.inl (Nat.le_trans hw0 h4))⟩,h5,fun c hcb e=>by have:=h3 c hcb;omega⟩
 · split at h
   · rename_i sy' fa hfz
     split at h
     · rename_i hcl
       obtain⟨Qr,hd,hk⟩:=h.ex
       refine⟨Value, .v,fun v n w1=>∃r,Qr r∧a5H r=true∧Rep (fun _=>False) w1 r v,fun wc hc=> ?_,fun v n w1 h1 h2 h3 hfx ⟨r,hq,hsc,hrp⟩=> ?_⟩
       · have hcn:Cls (cx X w0 bor) (now st wc).H (now st wc).nk wc wc:=⟨Fx.refl _ _,hc.fx0,hc.own,hc.nd,hc.lb,hc.keys,hc.lt⟩
         obtain⟨st1,args1,c1,a1,s1,b1,o1,g1,g2⟩:=a6a (Xx:=cx X w0 bor) hA _ hcn ⟨rfl,rfl,rfl⟩ (hs.now hc) (ha.now hc) hfz
         have hrep:=J8 (H:=st1.H) _ _ g1 hcl
         rw [g2]at hrep
         refine(hd (okS A st1) wc _ hrep fun b hb=>by have:=hb.2.1;rw [a1.1]at this;exact this).mono fun e w' ⟨v,r,he,hq,hrp,hb⟩=> ?_
         have hkr:=hk r hq
         cases hsc:a5H r with
         |true=>exact⟨v,he,hb,r,hq,hsc,b0o _ _ hrp hsc⟩
         |false=>rw [hsc]at hkr;exact hkr.elim
       · have hkr:=hk r hq
         rw [hsc]at hkr
         obtain⟨T',H',nk',w,lo,iv⟩:=st
         exact I7 hkr (simOk n w1 h1 h2 hfx) (Rep.rel _ _ (b0o _ _ hrp hsc))
     · exact h.elim
   · exact h.elim
end
end Go.Sx
namespace Go.Sx
open Go Go.RowKit
section
variable {A : Nat → Prop} {X : Cy} {w0 : World} {bor : List Nat} {st : St} {sy : Sy} {a : Act} {w : World}
theorem a5Q (hA:∀b,(w0.heap.size≤b∨b∈bor)→A b) {seq:Bool} {dst:Option Nat} {KY:Sy→Prop} {oy:a7g} {out:Out} (h:a7n X seq sy dst KY oy) (hr:a8W st.H (okS A st) st.w (B1 st) oy out) (hs:Sim A st sy) (hc:seq=false∨∀f args,out≠ .call f args):
 fin (cx X w0 bor) seq st dst (fun st'=>∃sy',KY sy'∧Sim A st' sy') out:=by
 cases oy with
 |val x=>
  cases out<;>try exact hr.elim
  exact I7 h hs hr.1
 |new cs ty sl=>
  cases out<;>try exact hr.elim
  rename_i cs' ty' sl'
  obtain⟨rfl,h2,rfl⟩:=hr
  obtain⟨T',H',nk',w,lo,iv⟩:=st
  obtain⟨T,H,nk⟩:=sy
  have hnk:nk=nk':=hs.nk
  subst hnk
  simp only [fin,hs.fT nk (Nat.le_refl _),hs.fH nk (Nat.le_refl _),h2.ment (fun q=>b0k (st:=⟨T',H',nk,w,lo,iv⟩) (Nat.le_refl _) q)]
  refine .inl fun b hb hiv=> ?_
  refine I7 h (c4u hs h2 hb hiv) ?_
  cases sl with
  |none=>simp only [c6,Option.map_none];exact⟨trivial,by simp only;omega,by simp⟩
  |some p=>obtain⟨z,n⟩:=p;simp only [c6,Option.map_some];exact⟨trivial,by simp only;omega,by simp⟩
 |newR l ty z n=>
  cases out<;>try exact hr.elim
  rename_i cs' ty' sl'
  obtain⟨rfl,rfl,hlen,hnm,hfl,xs,rfl,hrep⟩:=hr
  obtain⟨T',H',nk',w,lo,iv⟩:=st
  obtain⟨T,H,nk⟩:=sy
  have hnk:nk=nk':=hs.nk
  subst hnk
  simp only [fin,hs.fT nk (Nat.le_refl _),hs.fH nk (Nat.le_refl _),b1U]
  refine .inr ⟨n,z,⟨rfl,by rw [b4Z,←hrep.length,hlen],hnm,(d6.rel (R:=B1 ⟨T',H',nk,w,lo,iv⟩) _ _ hrep).one (b5w _) hfl⟩,fun b hb hiv=> ?_⟩
  rw [L6]
  refine I7 h (c3x hs hrep hfl hlen hb hiv) ?_
  simp only [c6]
  exact⟨trivial,by simp only;omega,fun _=>⟨_,_,_,_,_,by simp [c9];exact⟨rfl,rfl,rfl,rfl,rfl⟩⟩⟩
 |call f args=>
  cases out<;>try exact hr.elim
  obtain⟨rfl,h2⟩:=hr
  rcases hc with rfl|hc
  · simp only [a7n]at h
    split at h
    · exact h.elim
    · exact b9y hA hs h2 h
  · exact absurd rfl (hc _ _)
 |upd k cs=>
  cases out<;>try exact hr.elim
  obtain⟨rfl,h2⟩:=hr
  obtain⟨T',H',nk',w,lo,iv⟩:=st
  obtain⟨T,H,nk⟩:=sy
  simp only [a7n]at h
  cases hf:j3 H k with
  |none=>rw [hf]at h;exact h.elim
  |some e=>
   rw [hf]at h
   cases e with
   |row=>exact h.elim
   |blk cs0 ty=>
    obtain⟨e',hf',he⟩:=hs.H _ _ hf
    cases e' with
    |row=>exact he.elim
    |blk b cs' ty'=>
     simp only at hf'
     obtain⟨rfl,_⟩:=he
     have h:=a4o h
     simp only [fin,hf']
     refine a6E hf' ?_
     refine I7 h (b5Q (e':= .blk b _ _) hs hf' (by exact⟨rfl,h2⟩) rfl (by rintro⟨_,_,_,_,_,h⟩;cases h) fun j hj=> ?_) (by simp only [c6])
     simp only [a6Q,Bool.not_eq_true']
     exact h2.ment (fun q=>b0k (st:=⟨T',H',nk',w,lo,iv⟩) hj q)
 |updR k l=>
  cases out<;>try exact hr.elim
  obtain⟨rfl,h2,h3,h6⟩:=hr
  obtain⟨T',H',nk',w,lo,iv⟩:=st
  obtain⟨T,H,nk⟩:=sy
  simp only [a7n]at h
  cases hf:j3 H k with
  |none=>rw [hf]at h;exact h.elim
  |some e=>
   rw [hf]at h
   cases e with
   |blk=>exact h.elim
   |row z n l0 ty=>
    obtain⟨e',hf',he⟩:=hs.H _ _ hf
    cases e' with
    |blk=>exact he.elim
    |row v n' xs z' ty'=>
     simp only at hf'
     obtain⟨rfl,rfl,rfl,h4,h5,h7⟩:=he
     have h:=a4o h
     simp only [fin,hf']
     refine a6E hf' ?_
     exact I7 h (b5Q (e':= .row v n _ z ty) hs hf' (by exact⟨rfl,rfl,rfl,h2,h3,h6 _ _ _ _ _ hf'⟩) rfl (fun _=>⟨_,_,_,_,_,rfl⟩) fun j hj=>rfl) (by simp only [c6])
 |app e esz bytes s x=>
  cases out<;>try exact hr.elim
  obtain⟨rfl,rfl,rfl,h4,h5⟩:=hr
  exact c4k h hs h4 h5
theorem b0T {ops:List Oper} {g:Option (Nat×Bool)} {yesY noY:Sy→Prop} {yes no:St→Prop} (h:a3b ops g sy yesY noY) (hs:Sim A st sy) (h1:∀st' sy',Sim A st' sy'→yesY sy'→yes st') (h2:∀st' sy',Sim A st' sy'→noY sy'→no st'):a6F ops g st yes no:=by
 unfold a3b at h
 split at h
 · exact h1 _ _ hs h
 · rename_i j want
   split at h
   · rename_i d hd
     obtain⟨T',H',nk',w,lo,iv⟩:=st
     obtain⟨T,H,nk⟩:=sy
     have ext:∀b:Bool,Sim A ⟨(d, .v (.bool b))::T',H',nk',w,lo,iv⟩ ⟨(d, .v (.bool b))::T,H,nk⟩:=by
      intro b
      refine⟨fun d' x hx=> ?_,hs.H,hs.nk,fun j hj=> ?_,hs.fH⟩
      · simp only [s7]at hx
        simp only [y0]
        cases hb:Nat.beq d d' with
        |true=>rw [hb]at hx;cases hx;exact .inr ⟨_,rfl,by simp only [c6];exact⟨trivial,rfl⟩⟩
        |false=>rw [hb]at hx;exact hs.T d' x hx
      · simp only [u4,ment];exact hs.fT j hj
     split at h
     · rename_i b hl
       obtain⟨hlt,hl⟩:=a3H hl
       rcases hs.T d _ hl with e|⟨s,h3,h4⟩
       · cases e
       · have:=h4.sc;subst this
         simp only at h3
         simp only [a6F,hd,a7v hlt,h3]
         cases b<;>cases want<;>simp only [VIf]at h⊢
         · exact h1 _ _ (ext false) h
         · exact h2 _ _ (ext false) h
         · exact h2 _ _ (ext true) h
         · exact h1 _ _ (ext true) h
     · rename_i hl
       obtain⟨hlt,hl⟩:=a3H hl
       rcases hs.T d _ hl with e|⟨s,h3,h4⟩
       · cases e
       · simp only [c6]at h4
         subst h4
         simp only at h3
         simp only [a6F,hd,a7v hlt,h3,undef]
         exact h2 _ _ hs h
     · exact h.elim
   · exact h.elim
theorem zOK (hP:POK X.P X.tt):∀t i,I8 X.tt t=some i→(∀x,x∈i.z→a5V x=true)∧i.z.length=i.n:=fun t i h=>⟨fun x hx=>by rw [a8k];exact(hP.tt t i h).zo x hx,(hP.tt t i h).zn⟩
theorem c5a {x:D} {s:SV} {ok:Nat→Prop} {R:Bool→Nat→Prop} (h:c6 ok w R x s) (hne:x≠ .bad):c7i x=b4D s:=by
 cases x<;>simp only [c6]at h
 · rw [h.1];rfl
 · obtain⟨cs,h,_⟩:=h;cases s<;>simp [a5d]at h<;>rfl
 · obtain⟨y,rfl,_⟩:=h;rfl
 · obtain⟨y,rfl,_⟩:=h;rfl
 · rw [h.1];rfl
 · rw [h.1];rfl
 · rw [h.1];rfl
 · rw [h.1];rfl
 · rw [h.1];rfl
 · rcases h with⟨cs,rfl,_⟩|⟨cs,rfl,_⟩<;>rfl
 · rcases h with⟨cs,_,rfl,_⟩|⟨cs,_,rfl,_⟩<;>rfl
 · obtain⟨y,rfl,_⟩:=h;rfl
 · rw [h];rfl
 · exact absurd rfl hne
theorem c5r {fl:Bool} {i:Nat} {op:Op} {pr:List (Nat×Option Nat)} {K K':List (Nat×Option Nat)→Prop} (h:rdY fl i op sy pr K) (hs:Sim A st sy) (hK:∀pr,K pr→K' pr):rdP (cx X w0 bor) fl i op st pr K':=by
 unfold rdY at h
 split at h
 · rename_i t p
   split at h
   · rename_i x hx
     obtain⟨s,h1,h2,h3⟩:=j5 hs hx
     have ht:=c5a h2 h3
     split at h
     · rename_i k hk
       rw [hk]at ht
       simp only [rdP,h1,←ht]
       exact hK _ h
     · rename_i hk
       rw [hk]at ht
       simp only [rdP,h1,←ht]
       split at h
       · simp only [c6,Rep]at h2
         obtain⟨y,rfl,b,p,xs,rfl,hok,_⟩:=h2
         cases fl with
         |false=>exact hK _ h
         |true=>exact⟨.inr (by rcases hok.1.1 with h|h;exact .inl h;exact .inr h),hK _ h⟩
       · exact h.elim
   · exact h.elim
 · exact h.elim
 · rename_i hno hnl
   unfold rdP
   split
   · rename_i t p;exact absurd rfl (hno t p)
   · exact absurd rfl (hnl _ _ _ _)
   · exact hK _ h
theorem b8K {ok:Nat→Prop} {R:Bool→Nat→Prop} {e z b:Nat} {s x:D} {s' x':SV} (h4:c6 ok w R s s'):b3e (.app e z b s x)=a6R (.app e z b s' x'):=by
 cases s<;>simp only [c6]at h4
 · rw [h4.1];rfl
 · obtain⟨cs,h,_⟩:=h4;cases s'<;>simp [a5d]at h<;>rfl
 · obtain⟨y,rfl,_⟩:=h4;rfl
 · obtain⟨y,rfl,_⟩:=h4;rfl
 · rw [h4.1];rfl
 · rw [h4.1];rfl
 · rw [h4.1];rfl
 · rw [h4.1];rfl
 · rw [h4.1];rfl
 · rcases h4 with⟨cs,rfl,_⟩|⟨cs,rfl,_⟩<;>rfl
 · rcases h4 with⟨cs,_,rfl,_⟩|⟨cs,_,rfl,_⟩<;>rfl
 · obtain⟨y,rfl,_⟩:=h4;rfl
 · rw [h4];rfl
 · rw [h4];rfl
theorem c4I {oy:a7g} {out:Out} {ok:Nat→Prop} {R:Bool→Nat→Prop} (h:a8W st.H ok w R oy out):b3e oy=a6R out∨(b3e oy=none∧∃e z b s x,out= .app e z b s x∧a6R out=none):=by
 cases oy<;>cases out<;>try exact h.elim
 · exact .inl rfl
 · exact .inl rfl
 · exact .inl rfl
 · exact .inl rfl
 · obtain⟨rfl,_⟩:=h;exact .inl rfl
 · obtain⟨rfl,_⟩:=h;exact .inl rfl
 · obtain⟨rfl,rfl,rfl,h4,_⟩:=h
   left
   exact b8K h4
theorem c2S {Xx:Cx} {seq:Bool} {dst:Option Nat} {out:Out} {K K':St→Prop} (h:fin Xx seq st dst K out) (hk:∀st',K st'→K' st'):fin Xx seq st dst K' out:=by
 obtain⟨T,H,nk,ws,lo,iv⟩:=st
 cases out with
 |val s=>exact R7 h hk
 |new cs ty sl=>
  simp only [fin]at h⊢
  cases h1:u4 nk T with
  |false=>rw [h1]at h;exact h.elim
  |true=>cases h2:G0 nk H with
   |false=>rw [h1,h2]at h;exact h.elim
   |true=>cases h3:M3 nk cs with
    |true=>rw [h1,h2,h3]at h;exact h.elim
    |false=>
     rw [h1,h2,h3]at h
     rcases h with h|⟨n,sz,h0,h⟩
     · exact .inl fun b hb hiv=>R7 (h b hb hiv) hk
     · exact .inr ⟨n,sz,h0,fun b hb hiv=>R7 (h b hb hiv) hk⟩
 |call f args=>
  obtain⟨ι,r,φ,h1,h2⟩:=h.ex
  refine⟨ι,r,φ,h1,fun i n w1 a1 a2 a3 a4 a5=> ?_⟩
  have:=h2 i n w1 a1 a2 a3 a4 a5
  cases seq
  · exact R7 this hk
  · exact R7 this hk
 |upd k cs=>
  unfold fin at h⊢
  simp only at h⊢
  cases hf:c9 H k with
  |none=>rw [hf]at h;exact h.elim
  |some e=>
   rw [hf]at h
   cases e with
   |row=>exact h.elim
   |blk=>exact a2d h fun H' hh=>R7 hh hk
 |updR k xs=>
  unfold fin at h⊢
  simp only at h⊢
  cases hf:c9 H k with
  |none=>rw [hf]at h;exact h.elim
  |some e=>
   rw [hf]at h
   cases e with
   |blk=>exact h.elim
   |row=>exact a2d h fun H' hh=>R7 hh hk
 |app e esz bytes s x=>
  obtain⟨k,n,m,v,xs,news,h0,h1⟩:=b5n.ex h
  have reM:∀ {w1:World} {A B:List (Nat×SV)→Hp→Nat→World→Nat→List (Nat×Nat)→Prop},(∀T H nk w lo iv,A T H nk w lo iv→B T H nk w lo iv)→reW seq ⟨T,H,nk,ws,lo,iv⟩ w1 A→reW seq ⟨T,H,nk,ws,lo,iv⟩ w1 B:=by
   intro w1 A B hAB hA
   cases seq
   · exact hAB _ _ _ _ _ _ hA
   · exact hAB _ _ _ _ _ _ hA
  refine b5n.mk ⟨k,n,m,v,xs,news,h0, ?_⟩
  rcases h1 with⟨g1,g2,h1⟩|⟨g1,g2,h1⟩|⟨g1,g2,h1⟩|⟨g1,g2,h1,h1'⟩
  · exact .inl ⟨g1,g2,fun v' w1 a1 a2 a3=>reM (fun _ _ _ _ _ _ ⟨b1,b2,b3⟩=>⟨b1,b2,R7 b3 hk⟩) (h1 v' w1 a1 a2 a3)⟩
  · exact .inr (.inl ⟨g1,g2,fun v' w1 a1 a2 a3=>reM (fun _ _ _ _ _ _ b=>a2d b fun H' hh=>by rw [a4G]at hh⊢;exact R7 hh hk) (h1 v' w1 a1 a2 a3)⟩)
  · exact .inr (.inr (.inl ⟨g1,g2,fun v' w1 a1 a2 a3=>reM (fun _ _ _ _ _ _ b=>a2d b fun H' hh=>by rw [a4G]at hh⊢;exact R7 hh hk) (h1 v' w1 a1 a2 a3)⟩))
  · exact .inr (.inr (.inr ⟨g1,g2,fun a=>R7 (h1 a) hk,fun a v' w1 a1 a2 a3=>reM (fun _ _ _ _ _ _ ⟨b1,b2,b3⟩=>⟨b1,b2,R7 b3 hk⟩) (h1' a v' w1 a1 a2 a3)⟩))
theorem c0t (hA:∀b,(w0.heap.size≤b∨b∈bor)→A b) {i:Nat} {S:List Nat} {fl:Bool} {pr:List (Nat×Option Nat)} {o:Oper} {K:Sy→List (Nat×Option Nat)→Prop} {K':St→List (Nat×Option Nat)→Prop} {oy:a7g} {out:Out} (h:b7f X i S fl pr o sy K oy)
 (hr:a8W st.H (okS A st) st.w (B1 st) oy out) (hs:Sim A st sy) (hK:∀st' sy' pr,Sim A st' sy'→K sy' pr→K' st' pr):b7u (cx X w0 bor) i S fl pr o st K' out:=by
 have mono:∀(seq:Bool) (dst:Option Nat) (out:Out),fin (cx X w0 bor) seq st dst (fun st'=>∃sy',K sy' pr∧Sim A st' sy') out→fin (cx X w0 bor) seq st dst (fun st'=>K' st' pr) out:=fun seq dst out h=>c2S h fun st' ⟨sy',h1,h2⟩=>hK st' sy' pr h2 h1
 unfold b7f at h
 unfold b7u
 split at h
 · rename_i hv
   simp only [hv]
   cases oy<;>try exact h.elim
   cases out<;>try exact hr.elim
   refine c5r h hs fun pr hp=> ?_
   exact R7 (I7 hp hs hr.1) fun st' ⟨sy',h1,h2⟩=>hK st' sy' pr h2 h1
 · rename_i hv
   simp only [hv]
   split at h
   · rename_i ha
     simp only [ha]
     cases oy<;>try exact h.elim
     · cases out<;>try exact hr.elim
       rename_i cs ty sl cs' ty' sl'
       cases sl with
       |none=>
        obtain⟨rfl,h2,rfl⟩:=hr
        exact mono _ _ _ (a5Q hA h (by exact⟨rfl,h2,rfl⟩) hs (.inl rfl))
       |some p=>exact h.elim
     · cases out<;>try exact hr.elim
       exact mono _ _ _ (a5Q hA h hr hs (.inl rfl))
   · rename_i ha
     simp only [ha]
     split at h
     · rename_i hc
       simp only [hc]
       cases oy<;>try exact h.elim
       cases out<;>try exact hr.elim
       exact mono _ _ _ (a5Q hA h hr hs (.inl rfl))
     · rename_i hc
       simp only [hc]
       have hk:b3e oy=a6R out:=by
        rcases c4I hr with h|⟨h1,_,_,_,_,_,_,h2⟩
        · exact h
        · rw [h1,h2]
       cases oy<;>try exact h.elim
       all_goals (cases out<;>try exact hr.elim)
       all_goals (
        have h':=h
        try simp only at h'
        try simp only
        rw [hk]at h'
        split
        · rename_i k hkk
          rw [hkk]at h'
          simp only at h'
          cases hse:b7q pr S k with
          |true=>rw [hse]at h';exact mono _ _ _ (a5Q hA h' hr hs (.inl rfl))
          |false=>rw [hse]at h';exact h'.elim
        · rename_i hkk
          rw [hkk]at h'
          exact mono _ _ _ (a5Q hA h' hr hs (.inl rfl)))
end
end Go.Sx
namespace Go.Sx
open Go Go.RowKit
mutual
theorem b8P {ok:Nat→Prop} {w:World} {R:Bool→Nat→Prop}:∀(x y:D) (s:SV),leD x y→c6 ok w R x s→c6 ok w R y s
 | .v x,y,v,h,hr=>by
  simp only [leD]at h
  rcases h with rfl|⟨rfl,z,rfl⟩
  · exact hr
  · simp only [c6,Rep]at hr⊢
    exact⟨_,hr.1,none,0,rfl,Nat.le_refl _,by simp,by simp,rfl, .inl rfl⟩
 | .agg l,y,v,h,hr=>by
  simp only [leD]at h
  obtain⟨r,rfl,h⟩:=h
  simp only [c6]at hr⊢
  obtain⟨a,h1,h2,h3⟩:=hr
  exact⟨a,h1,b2e l r _ h h2,b6u l r h h3⟩
 | .tup l,y,v,h,hr=>by
  simp only [leD]at h
  obtain⟨r,rfl,h⟩:=h
  simp only [c6]at hr⊢
  rcases hr with⟨a,h1,h2⟩|⟨a,h1,h2⟩
  · exact .inl ⟨a,h1,b2e l r _ h h2⟩
  · exact .inr ⟨a,h1,b2e l r _ h h2⟩
 | .lst _ _ _,y,v,h,hr=>by simp only [leD]at h;subst h;exact hr
 | .ptr _ _,y,v,h,hr=>by simp only [leD]at h;subst h;exact hr
 | .mp _,y,v,h,hr=>by simp only [leD]at h;subst h;exact hr
 | .fn _ _ _,y,v,h,hr=>by simp only [leD]at h;subst h;exact hr
 | .own _ _,y,v,h,hr=>by simp only [leD]at h;subst h;exact hr
 | .ownx _ _,y,v,h,hr=>by simp only [leD]at h;subst h;exact hr
 | .row _ _,y,v,h,hr=>by simp only [leD]at h;subst h;exact hr
 | .elr _ _ _ _,y,v,h,hr=>by simp only [leD]at h;subst h;exact hr
 | .osl _ _ _ _ _,y,v,h,hr=>by simp only [leD]at h;subst h;exact hr
 | .und,y,v,h,hr=>by simp only [leD]at h;subst h;exact hr
 | .bad,y,v,h,hr=>by simp only [leD]at h;subst h;exact hr
theorem b2e {ok:Nat→Prop} {w:World} {R:Bool→Nat→Prop}:∀(l r:List D) (v:List SV),a4d l r→c5 ok w R l v→c5 ok w R r v
 | [], [],v,_,hr=>hr
 |x::l,y::r,v::vs,h,hr=>by
  simp only [a4d]at h
  simp only [c5]at hr⊢
  exact⟨b8P x y v h.1 hr.1,b2e l r vs h.2 hr.2⟩
 |_::_,_::_, [],_,hr=>by simp [c5]at hr
 | [],_::_,_,h,_=>by simp [a4d]at h
 |_::_, [],_,h,_=>by simp [a4d]at h
theorem b6u:∀(l r:List D),a4d l r→A9 l=true→A9 r=true
 | [], [],_,_=>rfl
 |x::l,y::r,h,hf=>by
  simp only [a4d]at h
  have h1:=w8 hf List.mem_cons_self
  have h2:a5B y=true:=by
   have h:=h.1
   cases x<;>simp [a5B]at h1<;>simp only [leD]at h
   · rcases h with rfl|⟨_,z,rfl⟩<;>rfl
   all_goals (subst h;rfl)
  simp only [A9,h2]
  exact b6u l r h.2 (R9 fun d hd=>w8 hf (List.mem_cons_of_mem _ hd))
 | [],_::_,h,_=>by simp [a4d]at h
 |_::_, [],h,_=>by simp [a4d]at h
end
section
variable {A : Nat → Prop} {X : Cy} {w0 : World} {bor : List Nat} {st : St} {sy : Sy} {a : Act} {w : World} {Q : Exit → Act → World → Prop}
theorem b8V {ops:List Oper} {T:List (Nat×D)} {d:Nat} {x:D} (h:s7 (a7f ops T) d=some x) (hx:x≠ .bad):s7 T d=some x∧∀(T':List (Nat×SV)),y0 (a5v ops T') d=y0 T' d:=by
 induction ops with
 |nil=>exact⟨h,fun _=>rfl⟩
 |cons o l ih=>
  simp only [a7f]at h
  split at h
  · rename_i d' ha hd
    simp only [s7]at h
    cases hb:Nat.beq d' d with
    |true=>rw [hb]at h;cases h;exact absurd rfl hx
    |false=>
     rw [hb]at h
     obtain⟨h1,h2⟩:=ih h
     refine⟨h1,fun T'=> ?_⟩
     simp only [a5v,ha,hd,y0,hb];exact h2 T'
  · rename_i hno
    obtain⟨h1,h2⟩:=ih h
    refine⟨h1,fun T'=> ?_⟩
    simp only [a5v]
    exact h2 T'
theorem b3l {T:List (Nat×D)} {H:Hy} {nk:Nat} {T':List (Nat×SV)} {H':Hp} {nk' lo:Nat} {ws:World} {iv:List (Nat×Nat)} {ops:List Oper} (hs:Sim A ⟨T',H',nk',ws,lo,iv⟩ ⟨T,H,nk⟩):
 Sim A ⟨a5v ops T',H',nk',ws,ws.heap.size, []⟩ ⟨a7f ops T,H,nk⟩:=by
 have hok:∀b,okS A ⟨T',H',nk',ws,lo,iv⟩ b→okS A ⟨a5v ops T',H',nk',ws,ws.heap.size, []⟩ b∧ws.heap[b]?=ws.heap[b]?:=fun b hb=>⟨⟨⟨.inl hb.2.1,hb.1.2⟩,hb.2.1,hb.2.2⟩,rfl⟩
 refine⟨fun d x hx=> ?_,fun k e he=> ?_,hs.nk,fun j hj=> ?_,hs.fH⟩
 · by_cases hb:x= .bad
   · exact .inl hb
   · obtain⟨h1,h2⟩:=b8V hx hb
     rcases hs.T d x h1 with h|⟨s,h3,h4⟩
     · exact .inl h
     · exact .inr ⟨s,by simp only [h2];exact h3,c6.mono hok (fun _ _ h=>h) _ _ h4⟩
 · obtain⟨e',h1,h2⟩:=hs.H k e he
   exact⟨e',h1,a3R.mono hok (fun _ _ h=>h) h2⟩
 · have:=hs.fT j hj
   simp only at this⊢
   clear hs hok hj
   induction ops with
   |nil=>exact this
   |cons o l ih=>
    simp only [a5v]
    split
    · simp only [u4,ment];exact ih
    · exact ih
mutual
def fwS:D→SV→SV
 | .row k _,_=> .row k
 | .agg l,s=>match a5d s with|some cs=> .agg (fwL l cs)|none=>s
 | .tup l, .tup cs=> .tup (fwL l cs)
 | .tup l, .v (.tuple a)=> .tup (fwL l (vs a.toList))
 | .fn f x y, .fn _ a b=> .fn f (fwL x a) (fwL y b)
 | .fn f x y, .v (.func _ p q)=> .fn f (fwL x (vs p.toList)) (fwL y (vs q.toList))
 |_,s=>s
def fwL:List D→List SV→List SV
 |x::l,s::r=>fwS x s::fwL l r
 |_,_=> []
end
def fwB:List D→List SV→List SV
 | .bad::l,_::r=> .bad::fwB l r
 |x::l,s::r=>fwS x s::fwB l r
 |_,_=> []
def fwH (n:Nat) (H:Hp):Hy→Hp
 | []=> []
 |(k, .blk ds ty)::r=>(match c9 H k with|some (.blk b cs ty')=>(k, .blk b (fwB ds cs) ty')|_=>(k, .row (.slice none 0 0) 0 [] 0 ty))::fwH n H r
 |(k, .row z m l ty)::r=>(match Nat.blt k n,c9 H k with|true,some (.row v m' xs z' ty')=>(k, .row v m' xs z' ty')|_,_=>(k, .row (.slice none 0 0) 0 [] z ty))::fwH n H r
def fwT (T:List (Nat×SV)):List (Nat×D)→List (Nat×SV)
 | []=> []
 |(d,x)::r=>(match y0 T d with|some s=>(d,fwS x s)|none=>(d, .bad))::fwT T r
def a7c (n:Nat):Hy→List (Option Nat)
 | []=> []
 |(k, .blk _ _)::r=>some k::a7c n r
 |(k, .row _ _ _ _)::r=>(match Nat.blt k n with|true=>some k|false=>none)::a7c n r
structure c0s (ok:Nat→Prop) (w:World) (n:Nat) (ks:List Nat) (R R':Bool→Nat→Prop) (H H':Hp):Prop where
 R:∀q j,P8 j ks=true→j<n→R q j→R' q j
 old:∀j,P8 j ks=true→j<n→bOf H' j=bOf H j∧m8 H' j=m8 H j
 new:∀j,P8 j ks=true→¬j<n→R' true j∧m8 H' j= .slice none 0 0
theorem a2I {a b:Nat}:Nat.blt a b=true↔a<b:=by simp [Nat.blt_eq]
mutual
theorem b9t {ok:Nat→Prop} {w:World} {n:Nat} {ks:List Nat} {R R':Bool→Nat→Prop} {H H':Hp} (hz:c0s ok w n ks R R' H H'):∀(x:D) (s:SV),c6 ok w R (back n x) s→inK n ks x=true→c6 ok w R' x (fwS x s)∧den H' (fwS x s)=den H s
 | .v x,s,h,_=>by simp only [back]at h;simp only [fwS];refine⟨h, ?_⟩;simp only [c6]at h;rw [h.1];rfl
 | .lst z m l,s,h,_=>by simp only [back]at h;simp only [fwS];refine⟨h, ?_⟩;simp only [c6]at h;obtain⟨y,rfl,_⟩:=h;rfl
 | .ptr l o,s,h,_=>by simp only [back]at h;simp only [fwS];refine⟨h, ?_⟩;simp only [c6]at h;obtain⟨y,rfl,_⟩:=h;rfl
 | .mp l,s,h,_=>by simp only [back]at h;simp only [fwS];refine⟨h, ?_⟩;simp only [c6]at h;obtain⟨y,rfl,_⟩:=h;rfl
 | .und,s,h,_=>by simp only [back]at h;simp only [fwS];refine⟨h, ?_⟩;simp only [c6]at h;rw [h];rfl
 | .bad,s,h,hk=>by simp [inK]at hk
 | .own j o,s,h,hk=>by
  simp only [back,c6]at h
  simp only [inK]at hk
  obtain⟨rfl,h⟩:=h
  split at hk
  · rename_i hb
    have hj:=a2I.1 hb
    simp only [fwS,c6]
    exact⟨⟨trivial,hz.R _ _ hk hj h⟩,by simp only [den,(hz.old j hk hj).1]⟩
  · cases hk
 | .ownx j o,s,h,hk=>by
  simp only [back,c6]at h
  simp only [inK]at hk
  obtain⟨rfl,h⟩:=h
  split at hk
  · rename_i hb
    have hj:=a2I.1 hb
    simp only [fwS,c6]
    exact⟨⟨trivial,hz.R _ _ hk hj h⟩,by simp only [den,(hz.old j hk hj).1]⟩
  · cases hk
 | .elr j z i o,s,h,hk=>by
  simp only [back,c6]at h
  simp only [inK]at hk
  obtain⟨rfl,h⟩:=h
  split at hk
  · rename_i hb
    have hj:=a2I.1 hb
    simp only [fwS,c6]
    exact⟨⟨trivial,hz.R _ _ hk hj h⟩,by simp only [den,(hz.old j hk hj).1]⟩
  · cases hk
 | .osl j o z m c,s,h,hk=>by
  simp only [back,c6]at h
  simp only [inK]at hk
  obtain⟨rfl,h⟩:=h
  split at hk
  · rename_i hb
    have hj:=a2I.1 hb
    simp only [fwS,c6]
    exact⟨⟨trivial,hz.R _ _ hk hj h⟩,by simp only [den,(hz.old j hk hj).1,(hz.old j hk hj).2]⟩
  · cases hk
 | .row j z,s,h,hk=>by
  simp only [inK]at hk
  simp only [back]at h
  simp only [fwS,c6]
  cases hb:Nat.blt j n with
  |true=>
   rw [hb]at h
   simp only [c6]at h
   obtain⟨rfl,h⟩:=h
   have hj:=a2I.1 hb
   exact⟨⟨trivial,hz.R _ _ hk hj h⟩,by simp only [den,(hz.old j hk hj).2]⟩
  |false=>
   rw [hb]at h
   have hj:¬j<n:=fun h=>by rw [a2I.2 h]at hb;cases hb
   have:=h.sc;subst this
   exact⟨⟨trivial,(hz.new j hk hj).1⟩,by simp only [den,(hz.new j hk hj).2]⟩
 | .agg l,s,h,hk=>by
  simp only [back,c6]at h
  simp only [inK]at hk
  obtain⟨cs,h1,h2,h3⟩:=h
  obtain⟨g1,g2⟩:=a5l hz l cs h2 hk
  simp only [fwS,h1,c6]
  refine⟨⟨_,rfl,g1, ?_⟩, ?_⟩
  · refine R9 fun d hd=> ?_
    have:∀l:List D,A9 (a2N n l)=true→∀d∈l,a5B d=true:=by
     intro l
     induction l with
     |nil=>simp
     |cons x l ih=>
      intro hf d hd
      have h0:a5B (back n x)=true:=w8 hf List.mem_cons_self
      rcases List.mem_cons.1 hd with rfl|hd
      · cases d<;>simp [back,a5B]at h0⊢
      · exact ih (R9 fun d hd=>w8 hf (List.mem_cons_of_mem _ hd)) d hd
    exact this l h3 d hd
  · cases s<;>simp [a5d]at h1
    · rename_i y;cases y<;>simp at h1
      subst h1
      rw [L6]at g2
      simp [den,g2]
    · subst h1;simp [den,g2]
 | .tup l,s,h,hk=>by
  simp only [back,c6]at h
  simp only [inK]at hk
  rcases h with⟨cs,rfl,h2⟩|⟨a,rfl,h2⟩
  · obtain⟨g1,g2⟩:=a5l hz l cs h2 hk
    simp only [fwS,c6]
    exact⟨.inl ⟨_,rfl,g1⟩,by simp [den,g2]⟩
  · obtain⟨g1,g2⟩:=a5l hz l _ h2 hk
    rw [L6]at g2
    simp only [fwS,c6]
    exact⟨.inl ⟨_,rfl,g1⟩,by simp [den,g2]⟩
 | .fn f x y,s,h,hk=>by
  simp only [back,c6]at h
  simp only [inK]at hk
  split at hk
  · rename_i hx
    rcases h with⟨p,q,rfl,h2,h3⟩|⟨p,q,rfl,h2,h3⟩
    · obtain⟨g1,g2⟩:=a5l hz x p h2 hx
      obtain⟨g3,g4⟩:=a5l hz y q h3 hk
      simp only [fwS,c6]
      exact⟨.inl ⟨_,_,rfl,g1,g3⟩,by simp [den,g2,g4]⟩
    · obtain⟨g1,g2⟩:=a5l hz x _ h2 hx
      obtain⟨g3,g4⟩:=a5l hz y _ h3 hk
      rw [L6]at g2 g4
      simp only [fwS,c6]
      exact⟨.inl ⟨_,_,rfl,g1,g3⟩,by simp [den,g2,g4]⟩
  · cases hk
theorem a5l {ok:Nat→Prop} {w:World} {n:Nat} {ks:List Nat} {R R':Bool→Nat→Prop} {H H':Hp} (hz:c0s ok w n ks R R' H H'):∀(l:List D) (r:List SV),c5 ok w R (a2N n l) r→b9a n ks l=true→c5 ok w R' l (fwL l r)∧i0 H' (fwL l r)=i0 H r
 | [], [],_,_=>⟨trivial,rfl⟩
 |x::l,s::r,h,hk=>by
  simp only [a2N,c5]at h
  simp only [b9a]at hk
  split at hk
  · rename_i hx
    obtain⟨g1,g2⟩:=b9t hz x s h.1 hx
    obtain⟨g3,g4⟩:=a5l hz l r h.2 hk
    simp only [fwL]
    exact⟨⟨g1,g3⟩,by simp [i0,g2,g4]⟩
  · cases hk
 | [],_::_,h,_=>by simp [a2N,c5]at h
 |_::_, [],h,_=>by simp [a2N,c5]at h
end
def b0V (ok:Nat→Prop) (w:World) (R:Bool→Nat→Prop):List D→List SV→Prop
 | [], []=>True
 | .bad::l,_::r=>b0V ok w R l r
 |x::l,s::r=>c6 ok w R x s∧b0V ok w R l r
 |_,_=>False
theorem b6d {ok:Nat→Prop} {w:World} {R:Bool→Nat→Prop}:∀(l r:List D) (v:List SV),b0A l r→c5 ok w R l v→b0V ok w R r v
 | [], [], [],_,_=>trivial
 |x::l,y::r,v::vs,h,hr=>by
  simp only [c5]at hr
  cases y<;>simp only [b0A]at h<;>simp only [b0V]
  case bad=>exact b6d l r vs h hr.2
  all_goals exact⟨b8P x _ v h.1 hr.1,b6d l r vs h.2 hr.2⟩
 |_::_, [],_,h,_=>by simp [b0A]at h
 | [],y::_,_,h,_=>by cases y<;>simp [b0A]at h
 |_::_,_::_, [],_,hr=>by simp [c5]at hr
 | [], [],_::_,_,hr=>by simp [c5]at hr
theorem a9z {ok:Nat→Prop} {w:World} {n:Nat} {ks:List Nat} {R R':Bool→Nat→Prop} {H H':Hp} (hz:c0s ok w n ks R R' H H'):∀(l:List D) (r:List SV),b0V ok w R (a2N n l) r→b5W n ks l=true→c5 ok w R' l (fwB l r)∧b6W H H' r (fwB l r)
 | [], [],_,_=>⟨trivial,trivial⟩
 | [],_::_,h,_=>by simp [a2N,b0V]at h
 |x::l, [],h,_=>by
  simp only [a2N]at h
  cases hx:back n x<;>rw [hx]at h<;>simp [b0V]at h
 |x::l,s::r,h,hk=>by
  have gen:x≠ .bad→(b0V ok w R (back n x::a2N n l) (s::r)→c6 ok w R (back n x) s∧b0V ok w R (a2N n l) r)→(inK n ks x=true∧a5B x=true∧b5W n ks l=true)→fwB (x::l) (s::r)=fwS x s::fwB l r→c5 ok w R' (x::l) (fwB (x::l) (s::r))∧b6W H H' (s::r) (fwB (x::l) (s::r)):=by
   intro hb h1 h2 h3
   obtain⟨g1,g2⟩:=h1 h
   obtain⟨k1,k2,k3⟩:=h2
   obtain⟨q1,q2⟩:=b9t hz x s g1 k1
   obtain⟨q3,q4⟩:=a9z hz l r g2 k3
   rw [h3]
   refine⟨⟨q1,q3⟩, .inr ⟨c6.ne g1 ?_,q2.symm⟩,q4⟩
   cases x<;>simp only [back]<;>first|exact absurd rfl hb|(split<;>simp)|simp
  cases x
  case bad=>
   simp only [a2N,back,b0V]at h
   simp only [b5W]at hk
   obtain⟨q3,q4⟩:=a9z hz l r h hk
   simp only [fwB]
   exact⟨⟨by simp only [c6],q3⟩, .inl rfl,q4⟩
  case row k z=>
   refine gen (by simp) (fun h=> ?_) ?_ rfl
   · simp only [back]at h⊢
     split at h<;>simpa only [b0V]using h
   · simp only [b5W]at hk
     split at hk
     · rename_i h1 h2;exact⟨h1,h2,hk⟩
     · cases hk
  all_goals
   refine gen (by simp) (fun h=>by simpa only [back,b0V]using h) ?_ rfl
   simp only [b5W]at hk
   split at hk
   · rename_i h1 h2;exact⟨h1,h2,hk⟩
   · cases hk
end
end Go.Sx
