/- Part 2. No condition. -/
import Derived.Test.YtnfgfnpbmbalmaaGreatDoorA1
import Derived.Test.YtnfgfnpbmbalmaaGreatDoorProg
import Derived.MapKept
import Derived.Maps.RangeRun
import Derived.Laws.MakeOwn
import Derived.Lib.SliceRun
import Derived.Sort.AssemblyPlain
set_option linter.all false
set_option maxHeartbeats 8000000
open Go renaming Value → ak
open Option renaming some → aa
open Go renaming Program → aq
open Go renaming TypeId → ar
open Bool renaming true → ab
open Go renaming Goroutine → au
open Go renaming Frame → aR
open Go renaming Oper → aw
open Go renaming FuncId → aW
open Go.Region renaming wanted → bj
open Go renaming execOp → ay
open Go renaming Operand → an
open Option renaming none → af
open Bool renaming false → ae
open Go renaming undef → aj
open Go.World renaming cell? → a9
open List renaming getD_eq_getElem?_getD → ai
open Go.Sem renaming events_bind → aO
open Go.Result renaming evThen_ok → aU
open Go renaming World → az
open List renaming range → bh
open Nat renaming beq → aG
open Nat renaming ble → bo
open Go.Op renaming bytesLess → bl
open Go.Proofs.Tryz renaming prog → ah
open List renaming all_eq_true → bu
open Go.TypeDesc renaming struct → bm
namespace Go.AM
section force
variable {p:Type}
def vP:C->(C->Option p)->Option p
 |.int k n,q=>q (.int k n)
 |.bool b,q=>q (.bool b)
 |.str s,q=>q (.str s)
 |.sl ab k n es,q=>q (.sl ab k n es)
 |.sl ae k n es,q=>q (.sl ae k n es)
 |.rp cs,q=>de cs λcs=>q (.rp cs)
 |.Jw t cs,q=>de cs λcs=>q (.Jw t cs)
 |.fn f a b,q=>de a λa=>de b λb=>q (.fn f a b)
 |c,q=>q c
def GY(c:C)(q:C->Option p):vP c q=q c:=by
 cases c with
 |sl t=>cases t <;> rfl
 |rp cs=>simp[vP,cV]
 |Jw t cs=>simp[vP,cV]
 |fn f a b=>simp[vP,cV]
 |_=>rfl
def vQ:A->(A->Option p)->Option p
 |.c x,q=>vP x λx=>q (.c x)
 |.ptr l o,q=>q (.ptr l o)
 |.vec l k n es,q=>q (.vec l k n es)
 |.ref l,q=>q (.ref l)
 |.bp l (.sl g k o n),q=>q (.bp l (.sl g k o n))
 |.bp l (.el g k i f),q=>q (.bp l (.el g k i f))
 |.any,q=>q .any
def yl(a:A)(q:A->Option p):vQ a q=q a:=by
 cases a with
 |bp l w=>cases w <;> simp[vQ]
 |_=>simp[vQ,GY]
def vb:List A->(List A->Option p)->Option p
 |[],q=>q []
 |a::r,q=>vQ a λa=>vb r λr=>q (a::r)
def DZ(l:List A)(q:List A->Option p):vb l q=q l:=by
 induction l generalizing q with
 |nil=>rfl
 |cons a r b=>simp[vb,yl,b]
def zO:E1->(E1->Option p)->Option p
 |.one a,q=>vQ a λa=>q (.one a)
 |.agg cs,q=>vb cs λcs=>q (.agg cs)
def ym(a:E1)(q:E1->Option p):zO a q=q a:=by cases a <;> simp[zO,yl,DZ]
def vc:List E1->(List E1->Option p)->Option p
 |[],q=>q []
 |a::r,q=>zO a λa=>vc r λr=>q (a::r)
def D1(l:List E1)(q:List E1->Option p):vc l q=q l:=by
 induction l generalizing q with
 |nil=>rfl
 |cons a r b=>simp[vc,ym,b]
def n3:D->(D->Option p)->Option p
 |.e x,q=>zO x λx=>q (.e x)
 |.eK xs,q=>vc xs λxs=>q (.eK xs)
 |.any,q=>q .any
theorem nb(a:D)(q:D->Option p):n3 a q=q a:=by cases a <;> simp[n3,ym,D1]
end force
def xL:D->Option (Bool×Nat×Nat×(Nat->List C))
 |.e (.one (.c (.sl t k n es)))=>aa (t,k,n,es)
 |.e (.one (.vec _ k n es))=>aa (ae,k,n,es)
 |_=>af
theorem mz{d:D}{t:Bool}{k n:Nat}{es:Nat->List C}(h:xL d=aa (t,k,n,es))(σ:List aV)(s:St)(v:ak)(r:dc σ s v d):Rd s.M v (.sl t k n es):=by
 unfold xL at h;split at h
 .cases h;exact r
 .cases h;exact r.1
 grind
def iS(l:List UInt8) (j:Int):UInt8:=l.getD j.toNat 0
def Q0(T:List (Nat×TI))(t:ar)(d:D):Option D :=
 match bF T t with
 |none=>af
 |some i=>match i.desc with
  |.slice _=>match xL d with
   |some (_,_,n,_)=>aa (.e (.one (.c (.int .i64 n))))
   |none=>af
  |.string=>match d with
   |.e (.one (.c (.str s)))=>aa (.e (.one (.c (.int .i64 s.length))))
   |_=>af
  |_=>af
def JH(T:List (Nat×TI))(a b:ar)(d:D):Option (D×List Prop) :=
 match bF T a with
 |none=>af
 |some i1=>match bF T b with
  |none=>af
  |some i2=>match i2.desc with
   |.int k'=>match d with
    |.e (.one (.c (.int _ j)))=>aa (.e (.one (.c (.int k' j))),[bx k' j])
    |_=>af
   |.string=>match d with
    |.e (.one (.c (.str s)))=>aa (.e (.one (.c (.str s))),[])
    |d=>match i1.desc with
     |.slice E=>match bF T E with
      |some ie=>match ie.desc with
       |.int .u8=>match xL d with
        |some (_,k,n,es)=>match aG k 1 with
         |true=>match vR es 0 n with
          |some r=>aa (.e (.one (.c (.str r))),[])
          |none=>af
         |false=>af
        |none=>af
       |_=>af
      |none=>af
     |_=>af
   |_=>af
def D2(T:List (Nat×TI))(a:an->D)(t:ar)(x:an)(lo hi:Option an):Option (D×List Prop) :=
 match bF T t with
 |none=>af
 |some i=>match uE a lo with
  |none=>af
  |some l=>match uE a hi with
   |none=>af
   |some u=>match i.desc with
    |.string=>match a x with
     |.e (.one (.c (.str s)))=>aa (.e (.one (.c (.str (rT s l u)))),iQ s.length l u)
     |_=>af
    |.slice E=>match bF T E with
     |none=>af
     |some ie=>match xL (a x) with
      |some (tt,k,n,es)=>match aG k ie.size with
       |true=>aa (.e (.one (.c (.sl (NG tt u) ie.size (cv n u-cv 0 l) (jL (cv 0 l) es)))),iQ n l u)
       |false=>af
      |none=>af
    |_=>af
def yn(op:BinOp)(k:IntKind) (a:Int)(k':IntKind) (b:Int):Option (D×List Prop) :=
 match Br op k a k' b with
 |some (c,obs)=>aa (.e (.one (.c (.int k c))),obs)
 |none=>af
theorem rU{op:BinOp}{k k':IntKind}{a b:Int}{d:D}{obs:List Prop}(h:yn op k a k' b=aa (d,obs)):∃ c,d=.e (.one (.c (.int k c)))/\Br op k a k' b=aa (c,obs):=by
 unfold yn at h
 grind
def PS(T:List (Nat×TI))(op:BinOp)(t:ar)(x y:D):Option (D×List Prop) :=
 match x,y with
 |.e (.one (.c (.bool a))),.e (.one (.c (.bool b)))=>match bF T t with
  |some i=>match i.desc with
   |.bool=>match lr op (a==b) with
    |some c=>aa (.e (.one (.c (.bool c))),[])
    |none=>af
   |_=>af
  |none=>af
 |.e (.one (.c a)),.e (.one (.c b))=>match op with
  |.xor=>match a,b with
   |.int .i64 a,.int .i64 b=>aa (.e (.one (.c (.int .i64 ((a.toNat ^^^ b.toNat:Nat):Int)))),[0<=a,0<=b])
   |.int .u64 a,.int k' b=>yn .xor .u64 a k' b
   |_,_=>af
  |.shl=>match a,b with
   |.int k a,.int k' b=>yn .shl k a k' b
   |_,_=>af
  |.shr=>match a,b with
   |.int k a,.int k' b=>yn .shr k a k' b
   |_,_=>af
  |.and=>match a,b with
   |.int k a,.int k' b=>yn .and k a k' b
   |_,_=>af
  |_=>match NH op a b with
   |some (c,obs)=>aa (.e (.one (.c c)),obs)
   |none=>af
 |.e (.agg cs),.e (.agg es)=>match bF T t with
  |some i=>match i.eq with
   |[]=>af
   |d::ds=>match PT (d::ds) cs es with
    |some b=>match lr op b with
     |some c=>aa (.e (.one (.c (.bool c))),[])
     |none=>af
    |none=>af
  |none=>af
 |_,_=>af
def V4(T:List (Nat×TI))(CT:List (Nat×dk))(φ:Fr)(o:aw):Option (D×List Prop) :=
 match o.op with
 |.move x|.assign x=>aa (b5 φ x,[])
 |.index t x y=>match bF T t with
  |some i=>match i.desc with
   |.string=>match b5 φ x,b5 φ y with
    |.e (.one (.c (.str l))),.e (.one (.c (.int _ j)))=>aa (.e (.one (.c (.int .u8 (iS l j).toNat))),[0<=j,j<l.length])
    |_,_=>af
   |_=>af
  |none=>af
 |.indexAddr t x y=>match bF T t with
  |some i=>match i.desc with
   |.slice E=>match bF T E with
    |some ie=>match xL (b5 φ x),b5 φ y with
     |some (_,k,n,es),.e (.one (.c (.int _ j)))=>match aG k ie.size with
      |true=>aa (.e (.one (.c (.rp (es j.toNat)))),[0<=j,j<n])
      |false=>af
     |_,_=>af
    |none=>af
   |_=>af
  |none=>af
 |.slice t x lo hi af=>D2 T (b5 φ) t x lo hi
 |.convert src dst x=>JH T src dst (b5 φ x)
 |.call c=>match c.callee with
  |.builtin .len=>match c.args.toList,c.argTypes[0]? with
   |[x],aa t=>match Q0 T t (b5 φ x) with
    |some d=>aa (d,[])
    |none=>af
   |_,_=>af
  |.value fo=>BH CT φ fo c.args.toList
  |_=>af
 |.pick c a b=>match b5 φ c with
  |.e (.one (.c (.bool ab)))=>aa (b5 φ a,[])
  |.e (.one (.c (.bool ae)))=>aa (b5 φ b,[])
  |_=>af
 |.binOp op t x y _=>PS T op t (b5 φ x) (b5 φ y)
 |.unOp op _ x=>match b5 φ x with
  |.e (.one (.c a))=>match V6 op a with
   |some c=>aa (.e (.one (.c c)),[])
   |none=>af
  |_=>af
 |.extract x j=>match b5 φ x with
  |.eK xs=>match fw j xs with
   |some e=>aa (.e e,[])
   |none=>af
  |_=>af
 |.fieldAddr t x f=>match jM T t f with
  |some (k,_)=>match b5 φ x with
   |.e (.one (.ptr l off))=>aa (.e (.one (.ptr l (off+k))),[])
   |.e (.one (.c (.rp cs)))=>aa (.e (.one (.c (.rp (hJ k cs)))),[])
   |_=>af
  |none=>af
 |.field t x f=>match jM T t f with
  |some (k,j)=>match b5 φ x with
   |.e (.agg cs)=>match m8 j (hJ k cs) with
    |some e=>aa (.e e,[])
    |none=>af
   |_=>af
  |none=>af
 |.nilCheck x=>match b5 φ x with
  |.e (.one (.ptr l off))=>aa (.e (.one (.ptr l off)),[])
  |.e (.one (.c (.rp cs)))=>aa (.e (.one (.c (.rp cs))),[])
  |_=>af
 |.build t parts=>match zP T (b5 φ) t parts.toList with
  |some cs=>aa (.e (.agg cs),[])
  |none=>af
 |.buildSlice t n parts=>match DM T (b5 φ) t n parts.toList with
  |some (k,es)=>aa (.e (.one (.c (.sl ab k n λi=>es.getD i []))),[])
  |none=>af
 |.makeFunc fn a b=>match vS (b5 φ) a.toList with
  |some ca=>match vS (b5 φ) b.toList with
   |some cb=>aa (.e (.one (.c (.fn fn ca cb))),[])
   |none=>af
  |none=>af
 |.makeInterface t x=>match bF T t with
  |some i=>match rV i.desc with
   |false=>match vd t (b5 φ x) with
    |some c=>aa (.e (.one (.c c)),[])
    |none=>af
   |true=>af
  |none=>af
 |.typeAssert x _ t ab=>match bF T t with
  |some i=>match rV i.desc with
   |false=>match b5 φ x with
    |.e (.one (.c c))=>match pV t i c with
     |some (e,b)=>aa (.eK [e,.one (.c (.bool b))],[])
     |none=>af
    |_=>af
   |true=>af
  |none=>af
 |_=>af
def JB(T:List (Nat×TI))(φ:Fr)(σ:List aV)(t:ar)(x:an):Option D :=
 match bF T t with
 |some i=>match b5 φ x with
  |.e (.one (.ptr l off))=>match fw l σ with
   |some (.cells _ cs)=>match m8 i (hJ off cs) with
    |some e=>aa (.e e)
    |none=>af
   |_=>af
  |.e (.one (.c (.rp cs)))=>match m8 i (cs.map A.c) with
   |some e=>aa (.e e)
   |none=>af
  |_=>af
 |none=>af
def Xf(T:List (Nat×TI))(φ:Fr)(o:aw):Option (D×List Prop) :=
 match o.op with
 |.indexAddr t x y=>match bF T t with
  |some i=>match i.desc with
   |.slice E=>match bF T E with
    |some ie=>match b5 φ x,b5 φ y with
     |.e (.one (.bp l (.sl g k q m))),.e (.one (.c (.int _ j)))=>match aG k ie.size with
      |true=>aa (.e (.one (.bp l (.el g ie.size (q+j.toNat) 0))),[0<=j,j<m])
      |false=>af
     |.e (.one (.c (.val (.slice (aa ⟨b,off,af⟩) n _)))),.e (.one (.c (.int _ j)))=>aa (.e (.one (.c (.val (.pointer (aa ⟨b,off+j.toNat*ie.size,af⟩))))),[0<=j,j<n])
     |_,_=>af
    |none=>af
   |_=>af
  |none=>af
 |.fieldAddr t x f=>match jM T t f with
  |some (k,_)=>match b5 φ x with
   |.e (.one (.bp l (.el g a i q)))=>aa (.e (.one (.bp l (.el g a i (q+k)))),[])
   |.e (.one (.c (.val (.pointer (aa ⟨b,off,af⟩)))))=>aa (.e (.one (.c (.val (.pointer (aa ⟨b,off+k,af⟩))))),[])
   |_=>af
  |none=>af
 |.nilCheck x=>match b5 φ x with
  |.e (.one (.bp l (.el g a i q)))=>aa (.e (.one (.bp l (.el g a i q))),[])
  |_=>af
 |.slice t x lo hi af=>match bF T t with
  |none=>af
  |some i=>match uE (b5 φ) lo with
   |none=>af
   |some lw=>match uE (b5 φ) hi with
    |none=>af
    |some u=>match i.desc with
     |.slice E=>match bF T E with
      |none=>af
      |some ie=>match b5 φ x with
       |.e (.one (.bp l (.sl g k q m)))=>match aG k ie.size with
        |true=>aa (.e (.one (.bp l (.sl g ie.size (q+cv 0 lw) (cv m u-cv 0 lw)))),iQ m lw u)
        |false=>af
       |_=>af
     |_=>af
 |.slice t x af (aa y) (aa z)=>match bF T t with
  |none=>af
  |some i=>match i.desc with
   |.slice E=>match bF T E with
    |none=>af
    |some _=>match xL (b5 φ x),b5 φ y,b5 φ z with
     |some (_,k,n,es),.e (.one (.c (.int _ j))),.e (.one (.c (.int _ m)))=>aa (.e (.one (.c (.sl ae k j.toNat es))),[0<=j,j<=m,m<=n])
     |_,_,_=>af
   |_=>af
 |.slice t x (aa w) (aa y) (aa z)=>match bF T t with
  |none=>af
  |some i=>match i.desc with
   |.slice E=>match bF T E with
    |none=>af
    |some _=>match b5 φ x,b5 φ w,b5 φ y,b5 φ z with
     |.e (.one (.bp _ (.sl _ _ _ n))),.e (.one (.c (.int _ i))),.e (.one (.c (.int _ j))),.e (.one (.c (.int _ m)))=>aa (.e (.one .any),[0<=i,i<=j,j<=m,m<=n])
     |_,_,_,_=>af
   |_=>af
 |.call c=>match c.callee with
  |.builtin .len=>match c.args.toList,c.argTypes[0]? with
   |[x],aa t=>match bF T t with
    |some i=>match i.desc with
     |.slice _=>match b5 φ x with
      |.e (.one (.bp _ (.sl _ _ _ m)))=>aa (.e (.one (.c (.int .i64 m))),[])
      |.e (.one (.c (.val (.slice _ n _))))=>aa (.e (.one (.c (.int .i64 n))),[n<=9223372036854775807])
      |_=>af
     |_=>af
    |none=>af
   |_,_=>af
  |_=>af
 |_=>af
def zL(T:List (Nat×TI))(φ:Fr)(σ:List aV)(t:ar)(x:an):Option (D×List Prop) :=
 match bF T t with
 |some it=>match b5 φ x with
  |.e (.one (.bp l (.el g k i f)))=>match fw l σ with
   |some (.buf _ k' n es)=>match aG k' k with
    |true=>match m8 it ((hJ f (es i)).map A.c) with
     |some e=>aa (.e e,[g=n,i<n])
     |none=>af
    |false=>af
   |_=>af
  |_=>af
 |none=>af
def JI:Nat->List C->Nat->Bool
 |0,cc,k=>aG cc.length k
 |_+1,_,_=>ae
def zQ(T:List (Nat×TI))(φ:Fr)(σ:List aV)(t:ar)(x y:an):Option (D×List aV×List Prop) :=
 match bF T t with
 |some it=>match b5 φ x with
  |.e (.one (.bp l (.el g k i f)))=>match fw l σ with
   |some (.buf E k' n es)=>match aG k' k with
    |true=>match mT (b5 φ y) with
     |some new=>match aG new.length it.size with
      |true=>match gn new with
       |some cc=>match JI f cc k with
        |true=>de (ef.rJ l (.buf E k' n (ni i cc es)) σ) λσ'=>aa (.any,σ',[g=n,i<n])
        |false=>match eX f cc (es i) with
         |some ci=>de (ef.rJ l (.buf E k' n (ni i ci es)) σ) λσ'=>aa (.any,σ',[g=n,i<n])
         |none=>af
       |none=>af
      |false=>af
     |none=>af
    |false=>af
   |_=>af
  |_=>af
 |none=>af
def NC(T:List (Nat×TI))(CT:List (Nat×dk))(φ:Fr)(σ:List aV)(o:aw):Option (D×List Prop) :=
 match o.op with
 |.load t x=>match JB T φ σ t x with
  |some d=>aa (d,[])
  |none=>zL T φ σ t x
 |_=>match V4 T CT φ o with
  |some r=>aa r
  |none=>Xf T φ o
def Q1(T:List (Nat×TI))(a:an->D)(σ:List aV)(x y:an)(t b:ar):Option (D×List aV×List Prop) :=
 match bF T t with
 |none=>af
 |some i=>match bF T b with
  |none=>af
  |some i2=>match i.desc with
   |.slice E=>match i2.desc with
    |.slice E2=>match aG E2 E with
     |false=>af
     |true=>match bF T E with
      |none=>af
      |some ie=>match bo 1 ie.bytes,bo 1 ie.size with
       |true,ab=>match xL (a y) with
        |none=>af
        |some (_,k',m,es')=>match aG k' ie.size with
         |false=>af
         |true=>match a x with
          |.e (.one (.c (.sl ab k n es)))=>match aG k ie.size with
           |true=>de (σ++[.vec E ie.size (n+m) (cR n es es')]) λσ'=>aa (.e (.one (.vec σ.length ie.size (n+m) (cR n es es'))),σ',[(n+m)*ie.bytes<=140737488355328,n=0∨0<m])
           |false=>match aG n 0 with
            |true=>de (σ++[.vec E ie.size (n+m) (cR n es es')]) λσ'=>aa (.e (.one (.vec σ.length ie.size (n+m) (cR n es es'))),σ',[(n+m)*ie.bytes<=140737488355328,n=0∨0<m])
            |false=>af
          |.e (.one (.vec l k n es))=>match fw l σ with
           |some (.vec E' k2 n2 Nl)=>match aG E' E,aG k ie.size,aG k2 ie.size with
            |true,ab,ab=>de (ef.rJ l (.vec E ie.size (n+m) (cR n es es')) σ) λσ'=>aa (.e (.one (.vec l ie.size (n+m) (cR n es es'))),σ',[n2=n,Nl=es,(n+m)*ie.bytes<=140737488355328])
            |_,_,_=>af
           |_=>af
          |.e (.one (.bp l (.sl g k 0 n)))=>match fw l σ with
           |some (.buf E' k2 n2 Nl)=>match aG E' E,aG k ie.size,aG k2 ie.size with
            |true,ab,ab=>de (ef.rJ l (.buf E ie.size (n2+m) (cR n2 Nl es')) σ) λσ'=>aa (.e (.one (.bp l (.sl (n2+m) ie.size 0 (n2+m)))),σ',[g=n2,n=n2,(n2+m)*ie.bytes<=140737488355328])
            |_,_,_=>af
           |_=>af
          |_=>af
       |_,_=>af
    |_=>af
   |_=>af
def Xg(T:List (Nat×TI))(CT:List (Nat×dk))(φ:Fr)(σ:List aV)(o:aw):Option (D×List aV×List Prop) :=
 match o.op with
 |.alloc _|.box _ _=>V7 T φ σ o
 |.store t x y=>match V7 T φ σ o with
  |some r=>aa r
  |none=>zQ T φ σ t x y
 |.call c=>match c.callee with
  |.builtin .append=>match c.args.toList,c.argTypes.toList with
   |[x,y],[t,a]=>Q1 T (b5 φ) σ x y t a
   |_,_=>af
  |.value fo=>JJ CT φ σ fo c.args.toList
  |_=>af
 |_=>af
def Q2(T:List (Nat×TI))(a:an->D)(x y:an)(t b:ar):Option (D×List Prop) :=
 match bF T t with
 |none=>af
 |some i=>match bF T b with
  |none=>af
  |some i2=>match i.desc with
   |.slice E=>match i2.desc with
    |.slice E2=>match aG E2 E with
     |false=>af
     |true=>match bF T E with
      |none=>af
      |some ie=>match bo 1 ie.bytes,bo 1 ie.size with
       |true,ab=>match xL (a y) with
        |none=>af
        |some (_,k',m,es')=>match aG k' ie.size with
         |false=>af
         |true=>match a x with
          |.e (.one (.c (.sl ab k n es)))=>match aG n 0 with
           |true=>aa (.e (.one (.c (.sl ae ie.size (n+m) (cR n es es')))),[(n+m)*ie.bytes<=140737488355328,n=0∨0<m])
           |false=>af
          |_=>af
       |_,_=>af
    |_=>af
   |_=>af
def Xh(T:List (Nat×TI))(φ:Fr)(o:aw):Option (D×List Prop) :=
 match o.op with
 |.call c=>match c.callee with
  |.builtin .append=>match c.args.toList,c.argTypes.toList with
   |[x,y],[t,a]=>Q2 T (b5 φ) x y t a
   |_,_=>af
  |_=>af
 |_=>af
def BI:List (Nat×Bool)->Nat->Option Bool
 |[],_=>af
 |(i,b)::r,t=>match aG i t with|true=>aa b|false=>BI r t
def W4(ds:List (Nat×Bool)):Option Nat->Bool
 |none=>ae
 |some t=>match BI ds (2000000+t) with
  |some ab=>ab
  |_=>ae
def isW(ds:List (Nat×Bool)):Option Nat->Bool
 |none=>ae
 |some t=>match BI ds (3000000+t) with
  |some ab=>ab
  |_=>ae
def appW(w:Bool)(T:List (Nat×TI))(a:an->D)(σ:List aV)(x y:an)(t b:ar):Option (D×List aV×List Prop) :=
 match bF T t with
 |none=>af
 |some i=>match bF T b with
  |none=>af
  |some i2=>match i.desc with
   |.slice E=>match i2.desc with
    |.slice E2=>match aG E2 E with
     |false=>af
     |true=>match bF T E with
      |none=>af
      |some ie=>match bo 1 ie.bytes,bo 1 ie.size with
       |true,ab=>match w with
        |true=>match xL (a y) with
         |none=>af
         |some (_,k',m,es')=>match aG k' ie.size with
          |false=>af
          |true=>match a x with
           |.e (.one (.c (.sl ab k n es)))=>match aG n 0 with
            |true=>de (σ++[.buf E ie.size (0+m) (cR 0 es es')]) λσ'=>aa (.e (.one (.bp σ.length (.sl (0+m) ie.size 0 (0+m)))),σ',[(0+m)*ie.bytes<=140737488355328])
            |false=>af
           |_=>af
        |false=>match a x,a y with
         |.e (.one (.bp l (.sl g k 0 i))),.e (.one (.bp l' (.sl g' k' j m)))=>match aG l' l with
          |false=>af
          |true=>match fw l σ with
           |some (.buf E' k2 n es)=>match aG E' E,aG k ie.size,aG k' ie.size,aG k2 ie.size with
            |true,ab,ab,ab=>de (ef.rJ l (.buf E ie.size n (GP i j m es)) σ) λσ'=>aa (.e (.one (.bp l (.sl n ie.size 0 (i+m)))),σ',[g=n,g'=n,i+m<=n,j+m<=n])
            |_,_,_,_=>af
           |_=>af
         |_,_=>af
       |_,_=>af
    |_=>af
   |_=>af
def V8(w:Bool)(T:List (Nat×TI))(φ:Fr)(σ:List aV)(o:aw):Option (D×List aV×List Prop) :=
 match o.op with
 |.call c=>match c.callee with
  |.builtin .append=>match c.args.toList,c.argTypes.toList with
   |[x,y],[t,a]=>appW w T (b5 φ) σ x y t a
   |_,_=>af
  |_=>af
 |_=>af
def T3(ds:List (Nat×Bool))(T:List (Nat×TI))(CT:List (Nat×dk))(φ:Fr)(σ:List aV)(o:aw):Option (D×List aV×List Prop) :=
 match isW ds o.dst with
 |true=>V8 ab T φ σ o
 |false=>match Xg T CT φ σ o with
  |some r=>aa r
  |none=>V8 ae T φ σ o
def JF(ds:List (Nat×Bool))(d:Option Nat)(x:D)(obs:List Prop):Option (D×List Prop) :=
 match d with
 |none=>aa (x,obs)
 |some t=>match BI ds t with
  |none=>aa (x,obs)
  |some b=>match x with
   |.e (.one (.c (.bool e)))=>aa (.e (.one (.c (.bool b))),ko obs [e=b])
   |_=>af
def NI{ds:List (Nat×Bool)}{d:Option Nat}{x y:D}{obs D3:List Prop}(h:JF ds d x obs=aa (y,D3))(a:ag D3):y=x/\ag obs:=by
 unfold JF at h;split at h
 .grind
 .split at h
  .grind
  .split at h
   .cases h;rw[ag.cat] at a;have:_=_:=a.2
    grind
   grind
def FK(T:List (Nat×TI))(CT:List (Nat×dk))(ds:List (Nat×Bool))(all:List aw)(φ:Fr)(σ:List aV)(o:aw):Option (D×Option (List aV)×List Prop) :=
 let go:Option (D×Option (List aV)×List Prop):=match NC T CT φ σ o with
  |some (x,obs)=>match JF ds o.dst x obs with
   |some (y,a)=>n3 y λy=>aa (y,af,a)
   |none=>af
  |none=>match W4 ds o.dst with
   |true=>match Xh T φ o with
    |some (x,obs)=>n3 x λx=>aa (x,af,obs)
    |none=>af
   |false=>match T3 ds T CT φ σ o with
    |some (x,σ',obs)=>n3 x λx=>aa (x,aa σ',obs)
    |none=>af
 match o.guard with
 |none=>go
 |some (j,b)=>match zR φ all j with
  |some (aa b')=>match b,b' with
   |true,ab=>go
   |false,ae=>go
   |_,_=>aa (.eK [],af,[])
  |some af=>aa (.eK [],af,[])
  |none=>af
section
variable {P:aq}{X:Cx P}{T:List (Nat×TI)}{CT:List (Nat×dk)}{N:Nat}{all:List aw}{φ:Fr}{σ:List aV}{o:aw}
theorem NJ(r:dg P T)(F:∀ σ s a,cx N σ s φ a->bj o (yielded all.toArray a.tmps)=ab){x y:an}{t e:ar}{d:D}{obs:List Prop}(C:o.op=.call { callee:=.builtin .append,args:=#[x,y],argTypes:=#[t,e] })
  (h:Q2 T (b5 φ) x y t e=aa (d,obs)) (b:ag obs):OA X N all o φ σ d σ:=by
 unfold Q2 at h;split at h
 .cases h
 rename_i i hi
 split at h
 .cases h
 rename_i i2 M7
 split at h
 case h_2=>cases h
 rename_i E z
 split at h
 case h_2=>cases h
 rename_i E2 T8
 split at h
 .cases h
 rename_i j
 have A:=bX j;subst A;split at h
 .cases h
 rename_i B l
 split at h
 case h_2=>cases h
 rename_i f u
 have c:mj P o x y E2 B:=⟨⟨t,e,i,i2,C,r t i hi,z,r e i2 M7,T8⟩,r _ _ l,by have:=db f;omega,by have:=db u;omega⟩
 split at h
 .cases h
 rename_i tx k' m es' hy
 split at h
 .cases h
 rename_i g
 have w:=bX g;subst w;have q:=λs v=>mz hy σ s v
 split at h
 .rename_i k n es hx
  split at h
  .rename_i G
   cases h;exact(OA.md F (bH.oU c hx (.inr (bX G)) q b.1 b.2)).BE
  grind
 grind
theorem NK(u:dg P T){O:an->D}{x y:an}{t f:ar}{d:D}{σ':List aV}{obs:List Prop}(V:o.op=.call { callee:=.builtin .append,args:=#[x,y],argTypes:=#[t,f] })
  (h:Q1 T O σ x y t f=aa (d,σ',obs)) (a:ag obs):bH P o O σ d σ':=by
 unfold Q1 at h;split at h
 .cases h
 rename_i i hi
 split at h
 .cases h
 rename_i i2 M7
 split at h
 case h_2=>cases h
 rename_i E Q
 split at h
 case h_2=>cases h
 rename_i E2 T8
 split at h
 .cases h
 rename_i z
 have Y:=bX z;subst Y;split at h
 .cases h
 rename_i R q
 split at h
 case h_2=>cases h
 rename_i C M
 have b:mj P o x y E2 R:=⟨⟨t,f,i,i2,V,u t i hi,Q,u f i2 M7,T8⟩,u _ _ q,by have:=db C;omega,by have:=db M;omega⟩
 split at h
 .cases h
 rename_i tx k' m es' hy
 split at h
 .cases h
 rename_i H
 have Z:=bX H;subst Z;have c:=λs v=>mz hy σ s v
 split at h
 .rename_i k n es hx
  split at h
  .rename_i S
   rw[cV] at h;cases h;exact bH.oU b hx (.inl (bX S)) c a.1 a.2
  .split at h
   .rename_i U
    rw[cV] at h;cases h;exact bH.oU b hx (.inr (bX U)) c a.1 a.2
   grind
 .rename_i l k n es hx
  split at h
  .rename_i E' W j e A
   split at h
   .rename_i J G B
    rw[cV,kC] at h;cases h;obtain⟨L,I,r⟩:j=n/\e=es/\_:=a;subst L;subst I;have K:=bX J;subst K;have F:=bX G;have w:=bX B;subst w;subst F;exact bH.GR b hx (dz A) c r
   grind
  grind
 .rename_i l g k n hx
  split at h
  .rename_i E' W j e A
   split at h
   .rename_i J G B
    rw[cV,kC] at h;cases h;obtain⟨L,I,r⟩:g=j/\n=j/\_:=a;subst L;subst I;have K:=bX J;subst K;have F:=bX G;have w:=bX B;subst w;subst F;exact bH.NL b hx (dz A) c r
   grind
  grind
 grind
theorem NM(f:dg P T){b:an->D}{x:an}{a:Array ar}{t:ar}{d:D}(e:o.op=.call { callee:=.builtin .len,args:=#[x],argTypes:=a })(g:a[0]?=aa t)(h:Q0 T t (b x)=aa d):bH P o b σ d σ:=by
 unfold Q0 at h;split at h
 .cases h
 rename_i i hi
 split at h
 .rename_i E c
  split at h
  .rename_i tt k n es hs
   cases h;exact bH.T9 f e g hi c (λs v=>mz hs σ s v)
  grind
 .grind [bH.Q3]
 grind
theorem JK(m:dg P T){q:an->D}{a b:ar}{x:an}{d:D}{obs:List Prop}(l:o.op=.convert a b x)(h:JH T a b (q x)=aa (d,obs))(c:ag obs):bH P o q σ d σ:=by
 unfold JH at h;split at h
 .cases h
 rename_i i hi
 split at h
 .cases h
 rename_i i2 M7
 split at h
 .rename_i k' hd
  split at h
  .rename_i k j y
   cases h;exact bH.NN m l hi M7 hd y c
  grind
 .rename_i hd
  split at h
  .grind [bH.NO]
  .split at h
   .rename_i E g
    split at h
    .rename_i z t
     split at h
     .rename_i f
      split at h
      .rename_i tt k n es hs
       split at h
       .rename_i w
        have e:=bX w;subst e;split at h
        .rename_i r u
         cases h;exact bH.GZ m l hi M7 g hd t f (λs v=>mz hs σ s v) u
        grind
       grind
      grind
     grind
    grind
   grind
 grind
theorem G0(g:dg P T){b:an->D}{t:ar}{x:an}{lo hi:Option an}{d:D}{obs:List Prop}(f:o.op=.slice t x lo hi af)(h:D2 T b t x lo hi=aa (d,obs))(a:ag obs):bH P o b σ d σ:=by
 unfold D2 at h;split at h
 .cases h
 rename_i i c
 split at h
 .cases h
 rename_i l j
 split at h
 .cases h
 rename_i u e
 split at h
 .grind [bH.JL]
 .grind [Nat.eq_of_beq_eq_true,bH.NP,mz]
 grind
theorem vT{α:Type}{xs:Array α}{x:α}(h:xs.toList=[x]):xs=#[x]:=Array.ext' h
theorem vU{α:Type}{xs:Array α}{x y:α}(h:xs.toList=[x,y]):xs=#[x,y]:=Array.ext' h
theorem Q4(B:dg P T)(S:bD X CT){d:D}{obs:List Prop}(h:V4 T CT φ o=aa (d,obs))(g:ag obs)(r:∀ σ s a,cx N σ s φ a->bj o (yielded all.toArray a.tmps)=ab):OA X N all o φ σ d σ:=by
 unfold V4 at h;split at h
 .grind [OA.md,bH.move]
 .grind [OA.md,bH.assign]
 .rename_i t x y w
  split at h
  .rename_i i hi
   split at h
   .rename_i A
    split at h
    .rename_i l k j u F
     cases h;obtain⟨O,L⟩:0<=j/\j<(l.length:Int):=g;have:=bH.JM (σ:=σ) (m:=j.toNat) B w hi A u F (by omega) (by omega)
     have e:iS l j=l[j.toNat]'(by omega):=by simp[iS,ai,br (by omega:j.toNat<l.length)]
     grind [OA.md]
    grind
   grind
  grind
 .rename_i t x y w
  split at h
  .rename_i i hi
   split at h
   .rename_i E A
    split at h
    .rename_i R I
     split at h
     .rename_i tt k n es k2 j u F
      split at h
      .rename_i J
       cases h;obtain⟨O,L⟩:0<=j/\j<(n:Int):=g;have e:=bX J;subst e;exact OA.md r (bH.indexAddr (m:=j.toNat) B w hi A I (λs v=>mz u σ s v) F (by omega) (by omega))
      grind
     grind
    grind
   grind
  grind
 .grind [OA.md,G0]
 .grind [OA.md,JK]
 .rename_i c w
  obtain⟨Q,args,K⟩:=c
  grind [vT,OA.md,NM,OA.BH]
 .rename_i c a b q
  split at h
  .rename_i C;cases h;exact OA.md r (bH.pick q C)
  .rename_i C;cases h;exact OA.md r (bH.pick q C)
  grind
 .rename_i op t y z ty q
  unfold PS at h;split at h
  .grind [OA.md,bH.Q5]
  .rename_i a b _ H G
   split at h
   .split at h
    .rename_i _ _ a' b' _ _
     cases h;exact OA.md r (bH.Ua q H G g.1 g.2)
    .grind [rU,OA.md,bH.bits]
    grind
   .grind [rU,OA.md,bH.bits]
   .grind [rU,OA.md,bH.bits]
   .grind [rU,OA.md,bH.bits]
   grind [OA.md,bH.binOp]
  .rename_i cs es H G
   split at h
   .grind [OA.md,bH.structEq]
   grind
  grind
 .grind [OA.md,bH.unOp]
 .grind [OA.md,bH.extract,dz]
 .rename_i t y f q
  split at h
  .rename_i k j M
   split at h
   .rename_i l off u;cases h;exact OA.md r (bH.rW B q u M)
   .grind [OA.md,bH.tR]
   grind
  grind
 .grind [OA.md,bH.field]
 .grind [OA.md,bH.tS,bH.vV]
 .grind [OA.md,bH.build]
 .grind [OA.md,bH.buildSlice]
 .grind [OA.md,bH.makeFunc]
 .grind [OA.md,bH.makeInterface]
 .grind [OA.md,bH.typeAssert]
 grind
theorem Q6(C:dg P T){d:D}{obs:List Prop}(h:Xf T φ o=aa (d,obs))(e:ag obs):bH P o (b5 φ) σ d σ:=by
 unfold Xf at h;split at h
 .rename_i t x y u
  split at h
  .rename_i i hi
   split at h
   .rename_i E B
    split at h
    .rename_i J I
     split at h
     .rename_i l g k q m kk j r G
      split at h
      .rename_i V
       cases h;obtain⟨H,F⟩:0<=j/\j<(m:Int):=e
       grind [Nat.eq_of_beq_eq_true,bH.Xi]
      grind
     .rename_i b off n cap kk j r G
      cases h;obtain⟨H,F⟩:0<=j/\j<(n:Int):=e
      grind [bH.BJ]
     grind
    grind
   grind
  grind
 .rename_i t x f u
  split at h
  .rename_i k j M
   split at h
   .rename_i l g Z i q r
    cases h;exact bH.Q7 C u r M
   .rename_i b off r
    cases h;exact bH.Q8 C u r M
   grind
  grind
 .grind [bH.Xj]
 .rename_i t x lo hi u
  split at h
  .cases h
  rename_i i A
  split at h
  .cases h
  rename_i lw W
  split at h
  .cases h
  grind [Nat.eq_of_beq_eq_true,bH.sliceB]
 .rename_i t x y z u
  split at h
  .cases h
  rename_i i A
  split at h
  .rename_i E B
   split at h
   .cases h
   rename_i J I
   split at h
   .rename_i tt k n es kj j O m r G K
    cases h;obtain⟨H,F,L⟩:0<=j/\j<=m/\m<=(n:Int):=e;exact bH.slice3 C u A B I (λs v=>mz r σ s v) G K H F L
   grind
  grind
 .rename_i t x w y z u
  split at h
  .cases h
  rename_i i A
  split at h
  .rename_i E B
   split at h
   .cases h
   rename_i J I
   split at h
   .rename_i l g k q n kw i kj j O m r Y G K
    cases h;obtain⟨H,F,L,U⟩:0<=i/\i<=j/\j<=m/\m<=(n:Int):=e
    grind [bH.slice3B]
   grind
  grind
 .rename_i c u
  obtain⟨S,args,Q⟩:=c;simp only at h;split at h
  .split at h
   .rename_i x t r R
    split at h
    .rename_i i hi
     split at h
     .rename_i E B
      split at h
      .grind [vT,bH.Xk]
      .rename_i a n cap hxx
       cases h;have:=vT r;subst this;exact bH.Xl C u R hi B hxx e
      grind
     grind
    grind
   grind
  grind
 grind
theorem G1(j:dg P T){t:ar}{x:an}(c:o.op=.load t x){d:D}{obs:List Prop}(h:zL T φ σ t x=aa (d,obs))(a:ag obs):bH P o (b5 φ) σ d σ:=by
 unfold zL at h;split at h
 .rename_i r hi
  split at h
  .rename_i l g k i f m
   split at h
   .rename_i E k' n es hB
    split at h
    .rename_i b
     have e:=bX b;subst e;split at h
     .rename_i e q
      cases h;exact bH.BK j c m a.1 (dz hB) hi q a.2
     grind
    grind
   grind
  grind
 grind
theorem D4(j:dg P T){t:ar}{x y:an}(c:o.op=.store t x y){d:D}{σ':List aV}{obs:List Prop}(h:zQ T φ σ t x y=aa (d,σ',obs))(a:ag obs):bH P o (b5 φ) σ d σ':=by
 unfold zQ at h;split at h
 .rename_i u hi
  split at h
  .rename_i l g k i f m
   split at h
   .rename_i E k' n es hB
    split at h
    .rename_i s
     have e:=bX s;subst e;split at h
     .rename_i new hy
      split at h
      .rename_i q
       split at h
       .rename_i cc PE
        split at h
        .rename_i r
         rw[cV,kC] at h;cases h;have b:f=0/\cc.length=k':=by
          cases f with
          |zero=>exact⟨rfl,bX r⟩
          |succ f=>simp[JI] at r
         obtain⟨rfl,b⟩:=b;exact bH.JN j c m a.1 (dz hB) hi hy (bX q) PE (λv=>rX (by grind)) a.2
        .split at h
         .rename_i ci Xm
          rw[cV,kC] at h;cases h;exact bH.JN j c m a.1 (dz hB) hi hy (bX q) PE (λ_=>Xm) a.2
         grind
       grind
      grind
     grind
    grind
   grind
  grind
 grind
theorem Q9(f:dg P T)(e:bD X CT){d:D}{obs:List Prop}(h:NC T CT φ σ o=aa (d,obs))(c:ag obs)(g:∀ σ s a,cx N σ s φ a->bj o (yielded all.toArray a.tmps)=ab):OA X N all o φ σ d σ:=by
 unfold NC at h;split at h
 .rename_i t y i
  split at h
  .rename_i j b
   cases h;unfold JB at b;split at b
   .grind [OA.md,bH.FP,dz,bH.JO]
   grind
  grind [OA.md,G1]
 grind [Q4,OA.md,Q6]
theorem Ra(j:dg P T)(g:bD X CT){d:D}{σ':List aV}{obs:List Prop}(h:Xg T CT φ σ o=aa (d,σ',obs))(b:ag obs)(k:∀ σ s a,cx N σ s φ a->bj o (yielded all.toArray a.tmps)=ab):OA X N all o φ σ d σ':=by
 unfold Xg at h;split at h
 .grind [OA.md,D5]
 .grind [OA.md,D5]
 .grind [OA.md,D5,D4]
 .rename_i c i
  obtain⟨f,args,e⟩:=c
  grind [vU,OA.md,NK,OA.call]
 grind
theorem NR(q:dg P T){w:Bool}{B:an->D}{x y:an}{t c:ar}{d:D}{σ':List aV}{obs:List Prop}(I:o.op=.call { callee:=.builtin .append,args:=#[x,y],argTypes:=#[t,c] })
  (h:appW w T B σ x y t c=aa (d,σ',obs)) (a:ag obs):bH P o B σ d σ':=by
 unfold appW at h;split at h
 .cases h
 rename_i i hi
 split at h
 .cases h
 rename_i i2 M7
 split at h
 case h_2=>cases h
 rename_i E C
 split at h
 case h_2=>cases h
 rename_i E2 T8
 split at h
 .cases h
 rename_i r
 have M:=bX r;subst M;split at h
 .cases h
 rename_i G f
 split at h
 case h_2=>cases h
 rename_i u A
 have b:mj P o x y E2 G:=⟨⟨t,c,i,i2,I,q t i hi,C,q c i2 M7,T8⟩,q _ _ f,by have:=db u;omega,by have:=db A;omega⟩
 split at h
 .split at h
  .cases h
  rename_i tx k' m es' hy
  split at h
  .cases h
  rename_i z
  have S:=bX z;subst S;split at h
  .rename_i k n es hx
   split at h
   .rename_i H
    have W:=bX H;subst W;rw[cV] at h;cases h;exact bH.GO b hx (λs v=>mz hy _ s v) a
   grind
  grind
 .split at h
  .rename_i l g k i l' g' k' j m hx hy
   split at h
   .cases h
   rename_i e
   have el:=bX e;subst el;split at h
   .rename_i E' k2 n es hl
    split at h
    .rename_i O V K q4
     have Y:=bX O;have Z:=bX V;have U:=bX K;have Q:=bX q4;rw[cV] at h;cases h;obtain⟨R,L,J,F⟩:=a;subst R L Y Z U Q;have:=bH.Jd (σ:=σ) b hx hy (dz hl) J F
     grind [kC]
    grind
   grind
  grind
theorem Rb(j:dg P T)(g:bD X CT){ds:List (Nat×Bool)}{d:D}{σ':List aV}{obs:List Prop}(h:T3 ds T CT φ σ o=aa (d,σ',obs))(b:ag obs)(k:∀ σ s a,cx N σ s φ a->bj o (yielded all.toArray a.tmps)=ab):OA X N all o φ σ d σ':=by
 have key:∀ w,V8 w T φ σ o=aa (d,σ',obs)->OA X N all o φ σ d σ':=by
  intro w h;unfold V8 at h;split at h
  .rename_i c i
   obtain⟨f,args,e⟩:=c
   grind [vU,OA.md,NR]
  grind
 unfold T3 at h
 grind [Ra]
def en(A:dg P T)(w:bD X CT){ds:List (Nat×Bool)}{d:D}{σ':Option (List aV)}{obs:List Prop}(h:FK T CT ds all φ σ o=aa (d,σ',obs))(l:ag obs):OA X N all o φ σ d (σ'.getD σ):=by
 have go:(∀ σ s a,cx N σ s φ a->bj o (yielded all.toArray a.tmps)=ab)->(match NC T CT φ σ o with
  |some (x,obs)=>match JF ds o.dst x obs with
   |some (y,g)=>n3 y λy=>aa (y,af,g)
   |none=>af
  |none=>match W4 ds o.dst with
   |true=>match Xh T φ o with
    |some (x,obs)=>n3 x λx=>aa (x,af,obs)
    |none=>af
   |false=>match T3 ds T CT φ σ o with
    |some (x,σ',obs)=>n3 x λx=>aa (x,aa σ',obs)
    |none=>af)=aa (d,σ',obs)->OA X N all o φ σ d (σ'.getD σ):=by
  intro B h;split at h
  .rename_i x i E
   split at h
   .rename_i y n r
    rw[nb] at h;cases h;obtain⟨rfl,C⟩:=NI r l
    grind [Q9]
   grind
  .split at h
   .split at h
    .rename_i x i m
     rw[nb] at h;cases h;unfold Xh at m;split at m
     .rename_i c z
      obtain⟨u,args,t⟩:=c
      grind [vU,NJ]
     grind
    grind
   grind [nb,Rb]
 unfold FK at h;simp only at h;split at h
 .grind [dv]
 .rename_i j b k
  split at h
  .rename_i q e
   have v:∀ σ s a,cx N σ s φ a->bj o (yielded all.toArray a.tmps)=(aa q==aa b):=λσ s a f=>by simp only[bj,k,pW e f]
   split at h
   .grind
   .grind
   .cases h;refine OA.pass (λσ s a f=>(v σ s a f).trans ?_)
    cases b <;> cases q <;> simp_all
  .rename_i e
   cases h;exact OA.pass (λσ s a f=>by simp only[bj,k,pW e f];rfl)
  grind
end
def I1(φ:Fr)(o:aw):Bool:=match o.op with
 |.load _ x=>match b5 φ x with
  |.e (.one (.c (.rp _)))=>ae
  |_=>ab
 |_=>ae
def JA{T:List (Nat×TI)}{CT:List (Nat×dk)}{φ:Fr}{σ σ2:List aV}{o:aw}(h:I1 φ o=ae):NC T CT φ σ o=NC T CT φ σ2 o:=by
 unfold NC;split
 .rename_i t x a
  simp only[I1,a] at h;split at h
  .rename_i cs hx
   simp only[JB,zL,hx]
  grind
 .rfl
def JC{T:List (Nat×TI)}{CT:List (Nat×dk)}{ds:List (Nat×Bool)}{all:List aw}{φ:Fr}{σ:List aV}{o:aw}{d:D}{obs:List Prop}(h:I1 φ o=ae)(a:FK T CT ds all φ σ o=aa (d,af,obs))(σ2:List aV) :
  FK T CT ds all φ σ2 o=aa (d,af,obs):=by
 unfold FK at a ⊢;simp only at a ⊢;rw[JA (σ2:=σ) h];cases b:NC T CT φ σ o with
 |some r=>grind
 |none =>
  simp only[b] at a ⊢;cases c:W4 ds o.dst with
  |true=>grind
  |false =>
   simp only[c] at a ⊢;have key:∀ {y:Option (D×Option (List aV)×List Prop)},(match T3 ds T CT φ σ o with|some (x,σ',obs)=>n3 x λx=>aa (x,aa σ',obs)|none=>af)=y->y≠aa (d,af,obs):=by
    grind [nb]
   split at a
   .grind
   grind
def o0(t:Nat):List aw->Bool
 |[]=>ae
 |o::r=>match o.dst with
  |some d=>match aG d t with|true=>ab|false=>o0 t r
  |none=>o0 t r
theorem rP{t:Nat}:∀ {l:List aw}{i:Nat}{o:aw},l[i]?=aa o->o.dst=aa t->o0 t l=ab
 |[],_,_,h,_=>by grind
 |p::r,0,o,h,a=>by
  simp at h;subst h;simp[o0,a,iN]
 |p::r,i+1,o,h,a=>by
  have:=rP (l:=r) (by simpa using h) a
  simp only[o0]
  grind
theorem pT{t:Nat}:∀ {l:List aw},o0 t l=ab->∃ (i:Nat)(o:aw),l[i]?=aa o/\o.dst=aa t
 |[],h=>by cases h
 |p::r,h=>by
  simp only[o0] at h;split at h
  .rename_i d c
   split at h
   .rename_i e
    exact⟨0,p,rfl,by grind [Nat.eq_of_beq_eq_true]⟩
   .obtain⟨i,o,b,a⟩:=pT h;exact⟨i+1,o,by grind,a⟩
  .obtain⟨i,o,b,a⟩:=pT h;exact⟨i+1,o,by grind,a⟩
def mx:List aw->Bool
 |[]=>ab
 |o::r=>match o.dst with
  |some d=>match o0 d r with|true=>ae|false=>mx r
  |none=>mx r
theorem sZ{t:Nat}:∀ {l:List aw}{i j:Nat}{o p:aw},mx l=ab->l[i]?=aa o->l[j]?=aa p->o.dst=aa t->p.dst=aa t->i=j
 |[],_,_,_,_,_,h,_,_,_=>by grind
 |q::r,0,0,_,_,_,_,_,_,_=>rfl
 |q::r,0,j+1,o,p,a,c,b,d1,d2=>by
  simp at c;subst c;simp only[mx,d1] at a
  grind [rP]
 |q::r,i+1,0,o,p,a,c,b,d1,d2=>by
  simp at b;subst b;simp only[mx,d2] at a
  grind [rP]
 |q::r,i+1,j+1,o,p,a,c,b,d1,d2=>by
  have:mx r=ab:=by
   simp only[mx] at a
   grind
  have d:r[i]?=aa o:=by grind
  have f:r[j]?=aa p:=by grind
  have e:=sZ this d f d1 d2;omega
def uC(all:List aw):Fr->Fr
 |[]=>[]
 |(t,d)::r=>match o0 t all with|true=>uC all r|false=>(t,d)::uC all r
def lM{all:List aw}{t:Nat}:∀ {φ:Fr},look (uC all φ) t=if o0 t all=ab then .any else look φ t
 |[]=>by simp[uC,look]
 |(u,d)::r=>by
  simp only[uC]
  by_cases b:aG u t=ab
  .have e:=bX b;subst e;cases c:o0 u all with
   |true=>simp only;rw[lM];grind
   |false=>simp[look]
  .have a:aG u t=ae:=by grind
   cases c:o0 u all with
   |true=>simp only;rw[lM];simp[look,a]
   |false=>simp only[look,a,cond];rw[lM]
def bS:List Edge->List Nat
 |[]=>[]
 |e::r=>match e.ground with
  |.textOnly _=>bS r
  |.gcOnly _=>bS r
  |_=>e.on::bS r
theorem eD{j:Nat}:∀ {l:List Edge},j∈bS l↔∃ e∈l,c7 e=ab/\e.on=j
 |[]=>by simp[bS]
 |e::r=>by
  have c:=eD (j:=j) (l:=r);have yes:bS (e::r)=e.on::bS r->c7 e=ab->(j∈bS (e::r)↔∃ a∈e::r,c7 a=ab/\a.on=j):=by
   grind
  have no:bS (e::r)=bS r->c7 e=ae->(j∈bS (e::r)↔∃ a∈e::r,c7 a=ab/\a.on=j):=by
   grind
  cases b:e.ground with
  |textOnly w=>exact no (by simp only[bS,b]) (by unfold c7 Region.binds;grind)
  |gcOnly w=>exact no (by simp only[bS,b]) (by unfold c7 Region.binds;grind)
  |_=>exact yes (by simp only[bS,b]) (by unfold c7 Region.binds;rw[b])
def vN(i t:Nat):List aw->Bool
 |[]=>ae
 |o::r=>match o.dst with
  |some d=>match aG d t with
   |true=>match fK i (bS o.after.toList) with
    |true=>vN i t r
    |false=>ab
   |false=>vN i t r
  |none=>vN i t r
def vO{i t:Nat}:∀ {l:List aw},vN i t l=ae->∀ (j:Nat)(o:aw),l[j]?=aa o->o.dst=aa t->fK i (bS o.after.toList)=ab
 |[],_,j,o,h,_=>by grind
 |p::r,h,0,o,b,a=>by
  simp at b;subst b;simp only[vN,a,iN] at h
  grind
 |p::r,h,j+1,o,b,a=>by
  have:vN i t r=ae:=by
   simp only[vN] at h
   grind
  exact vO this j o (by grind) a
def o4(all:List aw):Fr->List (Nat×D×Bool)
 |[]=>[]
 |(t,d)::r=>match o0 t all with
  |true=>(t,d,ab)::o4 all r
  |false=>(t,d,ae)::o4 all r
def kN(i:Nat)(all:List aw):List (Nat×D×Bool)->Fr
 |[]=>[]
 |(t,d,b)::r=>match b with
  |false=>(t,d)::kN i all r
  |true=>match vN i t all with
   |true=>kN i all r
   |false=>(t,d)::kN i all r
def yk{i:Nat}{all:List aw}{t:Nat}:∀ {φ:Fr},look (kN i all (o4 all φ)) t=if o0 t all=ab/\vN i t all=ab then .any else look φ t
 |[]=>by simp[o4,kN,look]
 |(u,d)::r=>by
  have f:=yk (i:=i) (all:=all) (t:=t) (φ:=r);have c:look ((u,d)::kN i all (o4 all r)) t=if aG u t=ab then d else look (kN i all (o4 all r)) t:=by
   simp only[look];cases aG u t <;> rfl
  have a:look ((u,d)::r) t=if aG u t=ab then d else look r t:=by simp only[look];cases aG u t <;> rfl
  cases b:o0 u all with
  |false =>
   simp only[o4,b,kN]
   grind [Nat.eq_of_beq_eq_true]
  |true =>
   cases e:vN i u all with
   |true =>
    simp only[o4,b,kN,e]
    grind [Nat.eq_of_beq_eq_true]
   |false =>
    simp only[o4,b,kN,e]
    grind [Nat.eq_of_beq_eq_true]
def jl(m:Nat->Bool):Nat->List (Option Nat×D)->Fr->Fr
 |_,[],φ=>φ
 |i,(d,x)::r,φ=>match m i with
  |true=>match d with
   |some t=>(t,x)::jl m (i+1) r φ
   |none=>jl m (i+1) r φ
  |false=>jl m (i+1) r φ
def nc{m:Nat->Bool}{φ:Fr}{t:Nat}:∀ {l:List (Option Nat×D)}{i:Nat},(∃ j x,l[j]?=aa (aa t,x)/\m (i+j)=ab/\look (jl m i l φ) t=x)∨look (jl m i l φ) t=look φ t
 |[],i=>.inr rfl
 |(d,x)::r,i=>by
  have k:=nc (m:=m) (φ:=φ) (t:=t) (l:=r) (i:=i+1);have step:look (jl m i ((d,x)::r) φ) t=look (jl m (i+1) r φ) t->((∃ j b,((d,x)::r)[j]?=aa (aa t,b)/\m (i+j)=ab/\look (jl m i ((d,x)::r) φ) t=b)∨look (jl m i ((d,x)::r) φ) t=look φ t):=by
   intro e;rw[e];rcases k with⟨j,b,n,o,f⟩|h
   .exact .inl ⟨j+1,b,by grind,by grind,f⟩
   grind
  cases a:m i with
  |false=>exact step (by simp[jl,a])
  |true =>
   cases d with
   |none=>exact step (by simp[jl,a])
   |some u =>
    by_cases g:aG u t=ab
    .have e:=bX g;subst e;exact .inl ⟨0,x,rfl,by grind,by simp[jl,a,look]⟩
    .have c:aG u t=ae:=by grind
     exact step (by simp[jl,a,look,c])
structure Du where
 i:Nat
 pre:List (Option Nat×D)
 σ:List aV
 cls:List (List Bool)
 zM:List Bool
 ND:List Bool
 obs:List Prop
def Tj(i:Nat):List Nat->Bool
 |[]=>ab
 |k::r=>match Nat.blt k i with|true=>Tj i r|false=>ae
def DY{i:Nat}:∀ {l:List Nat},Tj i l=ab->∀ k∈l,k<i
 |[],_,k,h=>by grind
 |x::r,h,k,a=>by
  simp only[Tj] at h;cases b:Nat.blt x i with
  |false=>grind
  |true =>
   simp only[b] at h;rcases fb.1 a with rfl|a
   .exact db b
   .exact DY h k a
def bit:List Bool->Nat->Bool
 |[],_=>ae
 |b::_,0=>b
 |_::r,n+1=>bit r n
def xJ:List Bool->List Bool->List Bool
 |[],b=>b
 |true::a,[]=>ab::a
 |false::a,[]=>ae::a
 |true::a,_::b=>ab::xJ a b
 |false::a,ab::b=>ab::xJ a b
 |false::a,ae::b=>ae::xJ a b
def my:∀ {a b:List Bool}{j:Nat},bit (xJ a b) j=(bit a j||bit b j)
 |[],b,j=>by simp[xJ,bit]
 |true::a,[],j=>by simp[xJ,bit]
 |false::a,[],j=>by simp[xJ,bit]
 |true::a,c::b,0=>by simp[xJ,bit]
 |true::a,c::b,j+1=>by simp only[xJ,bit];exact my
 |false::a,ab::b,0=>by simp[xJ,bit]
 |false::a,ab::b,j+1=>by simp only[xJ,bit];exact my
 |false::a,ae::b,0=>by simp[xJ,bit]
 |false::a,ae::b,j+1=>by simp only[xJ,bit];exact my
def s8:Nat->List Bool
 |0=>[ab]
 |n+1=>ae::s8 n
theorem rQ:∀ {n j:Nat},bit (s8 n) j=decide (n=j)
 |0,0=>rfl
 |0,j+1=>by simp[s8,bit]
 |n+1,0=>by simp[s8,bit]
 |n+1,j+1=>by simp only[s8,bit,rQ];simp
def FL(a:List (List Bool)):List Nat->List Bool
 |[]=>[]
 |e::r=>match fw e a with
  |some c=>xJ (xJ c (s8 e)) (FL a r)
  |none=>xJ (s8 e) (FL a r)
theorem zN{b:List (List Bool)}{j:Nat}:∀ {l:List Nat},bit (FL b l) j=ab->∃ e∈l,e=j∨∃ c,b[e]?=aa c/\bit c j=ab
 |[],h=>by simp[FL,bit] at h
 |e::r,h=>by
  simp only[FL,e9] at h;have two:∀ {a:Nat},bit (s8 e) a=ab->e=a:=by
   grind [rQ]
  have rest:bit (FL b r) j=ab->∃ d∈e::r,d=j∨∃ c,b[d]?=aa c/\bit c j=ab:=by
   intro h;obtain⟨d,f,g⟩:=zN h
   grind
  split at h
  .rename_i c i
   rw[my,my,mP,mP] at h
   grind
  .rw[my,mP] at h
   grind
def s9:List Bool->List Bool->Bool
 |[],_=>ab
 |true::a,ab::b=>s9 a b
 |true::_,_=>ae
 |false::a,_::b=>s9 a b
 |false::a,[]=>s9 a []
theorem pU:∀ {a b:List Bool}{j:Nat},s9 a b=ab->bit a j=ab->bit b j=ab
 |[],b,j,_,d=>by simp[bit] at d
 |true::a,ab::b,0,_,_=>rfl
 |true::a,ab::b,j+1,h,d=>by simp only[bit] at d ⊢;exact pU (by simpa[s9] using h) d
 |true::a,ae::b,j,h,_=>by simp[s9] at h
 |true::a,[],j,h,_=>by simp[s9] at h
 |false::a,c::b,0,_,d=>by simp[bit] at d
 |false::a,c::b,j+1,h,d=>by simp only[bit] at d ⊢;exact pU (by simpa[s9] using h) d
 |false::a,[],0,_,d=>by simp[bit] at d
 |false::a,[],j+1,h,d=>by
  simp only[bit] at d;have:=pU (j:=j) (by simpa[s9] using h) d
  simp[bit] at this
def rR(T:List (Nat×TI))(CT:List (Nat×dk))(N:Nat)(ds:List (Nat×Bool))(all:List aw)(φm:List (Nat×D×Bool))(st:Du)(o:aw):Option Du :=
 match gy N o.dst with
 |false=>af
 |true =>
  de (bS o.after.toList) λes =>
  match Tj st.i es with
  |false=>af
  |true=>match FK T CT ds all (jl (λj=>fK j es) 0 st.pre (kN st.i all φm)) st.σ o with
   |none=>af
   |some (x,σ',obs) =>
    de (FL st.cls es) λa =>
    match σ',I1 (jl (λj=>fK j es) 0 st.pre (kN st.i all φm)) o with
    |none,ae=>de (st.pre++[(o.dst,x)]) λpre=>de (st.cls++[a]) λcls=>de (ko obs st.obs) λobs=>aa ⟨st.i+1,pre,st.σ,cls,st.zM,st.ND,obs⟩
    |none,ab=>match s9 st.zM a with
     |true=>de (st.pre++[(o.dst,x)]) λpre=>de (st.cls++[a]) λcls=>de (ko obs st.obs) λobs=>de (xJ st.ND (s8 st.i)) λb=>aa ⟨st.i+1,pre,st.σ,cls,st.zM,b,obs⟩
     |false=>af
    |some σ',_=>match s9 st.ND a with
     |true=>de (st.pre++[(o.dst,x)]) λpre=>de (st.cls++[a]) λcls=>de (ko obs st.obs) λobs=>de (xJ st.ND (s8 st.i)) λb=>de (xJ st.zM (s8 st.i)) λc=>aa ⟨st.i+1,pre,σ',cls,c,b,obs⟩
     |false=>af
def NF(T:List (Nat×TI))(CT:List (Nat×dk))(N:Nat)(ds:List (Nat×Bool))(all:List aw)(φm:List (Nat×D×Bool)):List aw->Du->Option Du
 |[],st=>aa st
 |o::r,st=>match rR T CT N ds all φm st o with
  |some qj=>NF T CT N ds all φm r qj
  |none=>af
def FM(T:List (Nat×TI))(CT:List (Nat×dk))(N:Nat)(ds:List (Nat×Bool))(all:List aw)(φ:Fr)(σ:List aV):Option (Fr×List aV×List Prop) :=
 match mx all with
 |false=>af
 |true=>de (o4 all φ) λφm=>match NF T CT N ds all φm all ⟨0,[],σ,[],[],[],[]⟩ with
  |some st=>de (jl (λ_=>ab) 0 st.pre (uC all φ)) λa=>aa (a,st.σ,st.obs)
  |none=>af
section
open Go.Conc (G)
def fV:aw:=⟨af,.move (.tmp 0),0,"",#[],af⟩
section
variable (T:List (Nat×TI))(CT:List (Nat×dk))(N:Nat)(ds:List (Nat×Bool))(all:List aw)(φm:List (Nat×D×Bool))
def xK(st:Du):Nat->Du
 |0=>st
 |i+1=>(rR T CT N ds all φm (xK st i) (all.getD i fV)).getD (xK st i)
def PM(st:Du)(i:Nat):Fr:=jl (λj=>fK j (bS (all.getD i fV).after.toList)) 0 (xK T CT N ds all φm st i).pre (kN (xK T CT N ds all φm st i).i all φm)
def FN(st:Du)(i:Nat):Option (D×Option (List aV)×List Prop):=FK T CT ds all (PM T CT N ds all φm st i) (xK T CT N ds all φm st i).σ (all.getD i fV)
def xD(st:Du)(i:Nat):D:=match FN T CT N ds all φm st i with|some (x,_,_)=>x|none=>.any
def oJ(st:Du)(i:Nat):Bool:=match FN T CT N ds all φm st i with|some (_,aa _,_)=>ab|_=>ae
def tQ(st:Du)(i:Nat):Bool:=!I1 (PM T CT N ds all φm st i) (all.getD i fV)&&!oJ T CT N ds all φm st i
def PN(st:Du)(i:Nat):List Bool:=FL (xK T CT N ds all φm st i).cls (bS (all.getD i fV).after.toList)
end
section
variable {T:List (Nat×TI)}{CT:List (Nat×dk)}{N:Nat}{ds:List (Nat×Bool)}{all:List aw}{φm:List (Nat×D×Bool)}
structure JD (T:List (Nat×TI))(CT:List (Nat×dk))(N:Nat)(ds:List (Nat×Bool))(all:List aw)(φm:List (Nat×D×Bool))(st qj:Du)(o:aw)(x:D)(σ':Option (List aV))(obs:List Prop):Prop where
 dst:gy N o.dst=ab
 lt:Tj st.i (bS o.after.toList)=ab
 op:FK T CT ds all (jl (λj=>fK j (bS o.after.toList)) 0 st.pre (kN st.i all φm)) st.σ o=aa (x,σ',obs)
 i:qj.i=st.i+1
 pre:qj.pre=st.pre++[(o.dst,x)]
 cls:qj.cls=st.cls++[FL st.cls (bS o.after.toList)]
 σ:qj.σ=σ'.getD st.σ
 obs:qj.obs=ko obs st.obs
 eff:qj.zM=if σ'.isSome=ab then xJ st.zM (s8 st.i) else st.zM
 nf:qj.ND=if (I1 (jl (λj=>fK j (bS o.after.toList)) 0 st.pre (kN st.i all φm)) o||σ'.isSome)=ab then xJ st.ND (s8 st.i) else st.ND
 load:I1 (jl (λj=>fK j (bS o.after.toList)) 0 st.pre (kN st.i all φm)) o=ab->σ'.isSome=ae->s9 st.zM (FL st.cls (bS o.after.toList))=ab
 ld:σ'.isSome=ab->s9 st.ND (FL st.cls (bS o.after.toList))=ab
def BF{st qj:Du}{o:aw}(h:rR T CT N ds all φm st o=aa qj):∃ x σ' obs,JD T CT N ds all φm st qj o x σ' obs:=by
 unfold rR at h;split at h
 .cases h
 rename_i b
 simp only[cV] at h;split at h
 .cases h
 rename_i a
 split at h
 .cases h
 rename_i x σ' obs mo
 refine⟨x,σ',obs,?_⟩;cases σ' with
 |none =>
  cases d:I1 (jl (λj=>fK j (bS o.after.toList)) 0 st.pre (kN st.i all φm)) o with
  |false =>
   simp only[d,cV] at h;cases h;exact⟨b,a,mo,rfl,rfl,rfl,rfl,rfl,by simp,by grind,by grind,by simp⟩
  |true =>
   simp only[d,cV] at h;split at h
   .rename_i c
    cases h;exact⟨b,a,mo,rfl,rfl,rfl,rfl,rfl,by simp,by grind,λ_ _=>c,by simp⟩
   grind
 |some σ' =>
  simp only[cV] at h;split at h
  .rename_i c
   cases h;exact⟨b,a,mo,rfl,rfl,rfl,rfl,rfl,by simp,by simp,by simp,λ_=>c⟩
  grind
def FO{st sf:Du}:∀ {rest:List aw}{k:Nat},(∀ i,rest[i]?=all[k+i]?)->NF T CT N ds all φm rest (xK T CT N ds all φm st k)=aa sf ->
  (∀ i o,rest[i]?=aa o->rR T CT N ds all φm (xK T CT N ds all φm st (k+i)) o=aa (xK T CT N ds all φm st (k+i+1)))/\xK T CT N ds all φm st (k+rest.length)=sf
 |[],k,_,h=>by
  cases h
  grind
 |p::r,k,c,h=>by
  simp only[NF] at h;have d:all[k]?=aa p:=by have:=c 0;grind
  split at h
  .rename_i b a
   have e:xK T CT N ds all φm st (k+1)=b:=by
    simp only[xK,ai,d,fJ,a]
   rw[<-e] at h;obtain⟨f,g⟩:=FO (rest:=r) (k:=k+1) (λi=>by have:=c (i+1);grind) h
   grind
  grind
theorem BG{j:Nat}:∀ {l:List Nat},fK j l=ab->j∈l:=by
 intro l
 induction l with
 |nil=>intro h;cases h
 |cons a r b =>
  intro h;simp only[fK] at h
  grind [Nat.eq_of_beq_eq_true]
def JE{P:aq}{X:Cx P}(hf:P.follows Departure.mixedOrders=ab)(hT:dg P T)(hC:bD X CT){ops:Array aw}{φ φ':Fr}{σ σ':List aV}{obs:List Prop}(h:FM T CT N ds ops.toList φ σ=aa (φ',σ',obs))(ace:ag obs){Q:Post}(hQ:Q .normal φ' σ')(id:Nat) :
  AW X N (.region id ops ab) Q φ σ:=by
 unfold FM at h;split at h
 .cases h
 rename_i ZR
 rw[cV] at h;split at h
 case h_2=>cases h
 rename_i sf vA
 rw[cV] at h;cases h;generalize QY:ops.toList=all at *;generalize W5:o4 all φ=φm at *;have R:∀ i:Nat,ops[i]?=all[i]?:=λi=>by grind
 have Ds:ops.size=all.length:=by grind
 let g:Du:=⟨0,[],σ,[],[],[],[]⟩
 obtain⟨H,J⟩:=FO (T:=T) (CT:=CT) (N:=N) (ds:=ds) (φm:=φm) (st:=g) (rest:=all) (k:=0) (λi=>by simp) vA
 simp only[bt] at H J
 let F:=xK T CT N ds all φm g
 have r:∀ i o,all[i]?=aa o->all.getD i fV=o:=λi o h=>by grind
 have ZS:∀ i o,all[i]?=aa o->PM T CT N ds all φm g i=(jl (λj=>fK j (bS (o).after.toList)) 0 (F i).pre (kN (F i).i all φm)):=λi o h=>by
  unfold PM
  grind
 have facts:∀ i o,all[i]?=aa o->∃ K,JD T CT N ds all φm (F i) (F (i+1)) o (xD T CT N ds all φm g i) (if oJ T CT N ds all φm g i=ab then aa (F (i+1)).σ else af) K:=by
  intro i o q;obtain⟨x,σ1,K,n⟩:=BF (H i o q);have A:=n.op;have hR:FN T CT N ds all φm g i=aa (x,σ1,K):=by
   unfold FN PM;grind
  have hx:xD T CT N ds all φm g i=x:=by unfold xD;rw[hR]
  cases σ1 with
  |none =>
   have z:oJ T CT N ds all φm g i=ae:=by unfold oJ;rw[hR]
   grind
  |some σ2 =>
   have z:oJ T CT N ds all φm g i=ab:=by unfold oJ;rw[hR]
   have W6:(F (i+1)).σ=σ2:=n.σ
   grind
 have I:∀ i,i<=all.length->(F i).i=i:=by
  intro i
  induction i with
  |zero=>intro _;rfl
  |succ i C =>
   intro hi;obtain⟨_,n⟩:=facts i _ (br (by omega))
   rw[n.i,C (by omega)]
 have Z:∀ i,i<=all.length->∀ j,(F i).pre[j]?=if j<i then (all[j]?).map (λo=>(o.dst,xD T CT N ds all φm g j)) else af:=by
  intro i
  induction i with
  |zero=>intro _ j;simp[F,xK,g]
  |succ i C =>
   intro hi j;obtain⟨_,n⟩:=facts i _ (br (by omega))
   have hlen:(F i).pre.length=i:=by
    apply Nat.le_antisymm
    .grind
    grind
   rw[n.pre]
   grind
 have W7:∀ i,i<=all.length->∀ j,(F i).cls[j]?=if j<i then aa (PN T CT N ds all φm g j) else af:=by
  intro i
  induction i with
  |zero=>intro _ j;simp[F,xK,g]
  |succ i C =>
   intro hi j;obtain⟨_,n⟩:=facts i _ (br (by omega))
   have hlen:(F i).cls.length=i:=by
    apply Nat.le_antisymm
    .apply Nat.le_of_not_lt
     intro u;have:=C (by omega) i
     grind
    grind
   rw[n.cls]
   by_cases W8:j<i
   .grind
   .rw[gk (by omega)]
    by_cases e:j=i
    .subst e;rw[bd (by omega),hlen,rv]
     simp only[kX,PN,r j _ (br (by omega:j<all.length))]
     rfl
    grind
 have acf:∀ i,i<=all.length->∀ j,bit (F i).zM j=(decide (j<i)&&oJ T CT N ds all φm g j):=by
  intro i
  induction i with
  |zero=>intro _ j;simp[F,xK,g,bit]
  |succ i C =>
   intro hi j;obtain⟨_,n⟩:=facts i _ (br (by omega))
   rw[n.eff];cases z:oJ T CT N ds all φm g i with
   |false =>
    grind
   |true =>
    simp only[cu,Option.isSome_some];rw[my,C (by omega) j,rQ,I i (by omega)]
    by_cases e:j=i
    .grind
    grind
 have nfI:∀ i,i<=all.length->∀ j,bit (F i).ND j=(decide (j<i)&&!tQ T CT N ds all φm g j):=by
  intro i
  induction i with
  |zero=>intro _ j;simp[F,xK,g,bit]
  |succ i C =>
   intro hi j;obtain⟨_,n⟩:=facts i _ (br (by omega))
   have T4:(if oJ T CT N ds all φm g i=ab then aa (F (i+1)).σ else af).isSome=oJ T CT N ds all φm g i:=by cases oJ T CT N ds all φm g i <;> rfl
   have V3:tQ T CT N ds all φm g i=!(I1 (jl (λj=>fK j (bS (all[i]'(by omega)).after.toList)) 0 (F i).pre (kN (F i).i all φm)) (all[i]'(by omega))||oJ T CT N ds all φm g i):=by
    unfold tQ;rw[ZS i _ (br (by omega)),r i _ (br (by omega))]
    simp
   rw[n.nf,T4];cases z:(I1 (jl (λj=>fK j (bS (all[i]'(by omega)).after.toList)) 0 (F i).pre (kN (F i).i all φm)) (all[i]'(by omega))||oJ T CT N ds all φm g i) with
   |false =>
    grind
   |true =>
    simp only[cu];rw[my,C (by omega) j,rQ,I i (by omega)]
    by_cases e:j=i
    .grind
    grind
 have T5:∀ i,i<=all.length->ag (F i).obs:=by
  have back:∀ k i,i+k=all.length->ag (F i).obs:=by
   intro k
   induction k with
   |zero =>
    grind
   |succ k C =>
    intro i hi;obtain⟨_,n⟩:=facts i _ (br (by omega))
    have:=C (i+1) (by omega)
    rw[n.obs,ag.cat] at this;exact this.2
  intro i hi;exact back (all.length-i) i (by omega)
 have oaI:∀ i o,all[i]?=aa o->OA X N all o (PM T CT N ds all φm g i) (F i).σ (xD T CT N ds all φm g i) (F (i+1)).σ:=by
  intro i o q;have hi:i<all.length:=(cr.1 q).1;obtain⟨_,n⟩:=facts i o q;have PO:=T5 (i+1) (by omega)
  rw[n.obs,ag.cat] at PO;have:=en (P:=P) (N:=N) hT hC n.op PO.1;rw[n.σ]
  grind
 let idx:Nat->Option Nat:=λt=>(bh all.length).find? (λi=>decide ((all.getD i fV).dst=aa t))
 have O:∀ t j,idx t=aa j->∃ o,all[j]?=aa o/\o.dst=aa t:=by
  grind
 have M:∀ i o d,all[i]?=aa o->o.dst=aa d->idx d=aa i:=by
  intro i o d q hd;have hi:i<all.length:=(cr.1 q).1;cases hx:idx d with
  |none =>
   grind
  |some j =>
   grind [sZ]
 have V:∀ t,o0 t all=ab↔∃ j,idx t=aa j:=by
  grind [pT,rP]
 have W:∀ i o,all[i]?=aa o->∀ e∈o.after,c7 e=ab->e.on<i:=by
  intro i o q e z S;have hi:i<all.length:=(cr.1 q).1;obtain⟨_,n⟩:=facts i o q;have:=DY n.lt e.on (eD.2 ⟨e,by grind,S,rfl⟩)
  grind
 have ZT:=W;have hd:vL X N ops φ (λi=>(F i).σ) (xD T CT N ds all φm g) (PM T CT N ds all φm g) (tQ T CT N ds all φm g) (λi=>decide (i<all.length)&&oJ T CT N ds all φm g i) (λi j=>i<all.length/\bit (PN T CT N ds all φm g i) j=ab) idx (jl (λ_=>ab) 0 sf.pre (uC all φ)):=by
  refine⟨hf,?_,?_,?_,?_,?_,?_,?_,?_,?_,?_⟩
  .grind
  .intro i o d q hd;rw[R] at q;obtain⟨_,n⟩:=facts i o q;exact⟨M i o d q hd,il n.dst d hd⟩
  .grind
  .intro i z;rcases cJ i all.length with hi|hi
   .obtain⟨_,n⟩:=facts i _ (br hi);have:oJ T CT N ds all φm g i=ae:=by grind
    have hσ:=n.σ
    grind
   .have h0:all.getD i fV=fV:=by grind
    show (F (i+1)).σ=(F i).σ;have:rR T CT N ds all φm (F i) fV=af∨∃ s',rR T CT N ds all φm (F i) fV=aa s':=by
     cases rR T CT N ds all φm (F i) fV with
     |none=>grind
     |some s'=>grind
    show ((rR T CT N ds all φm (F i) (all.getD i fV)).getD (F i)).σ=(F i).σ;rw[h0];rcases this with h|⟨s',h⟩
    .grind
    .rw[h];obtain⟨x,σ1,ob,n⟩:=BF h;have A:=n.op;have:σ1=af:=by
      unfold FK at A;simp only[fV,NC,V4,JF,nb] at A
      grind
     rw[fJ,n.σ,this];rfl
  .grind
  .intro i o q yi;rw[R] at q;have hi:i<all.length:=(cr.1 q).1;have p:I1 (jl (λj=>fK j (bS (o).after.toList)) 0 (F i).pre (kN (F i).i all φm)) o=ae/\oJ T CT N ds all φm g i=ae:=by
    unfold tQ at yi
    grind
   refine⟨by grind,λk=>?_⟩
   obtain⟨ob,n⟩:=facts i o q;have A:=n.op;rw[p.2] at A;have W9:=JC p.1 (by simpa using A) (F k).σ
   have PO:=T5 (i+1) (by omega)
   rw[n.obs,ag.cat] at PO;have:=en (P:=P) (N:=N) hT hC W9 PO.1
   grind
  .intro L hL i j ⟨hi,S⟩;have gw:∀ i,i<all.length->L i->∀ e,e∈bS (all.getD i fV).after.toList->L e:=by
    intro i hi ZU e z;rw[r i _ (br hi)] at z;obtain⟨e',Y,h2,rfl⟩:=eD.1 z
    grind
   have key:∀ i,i<all.length->∀ j,bit (PN T CT N ds all φm g i) j=ab->(∀ e∈bS (all.getD i fV).after.toList,L e)->L j:=by
    intro i
    induction i using Nat.strongRecOn with
    |_ i C =>
     intro hi j S Xa;obtain⟨e,z,h⟩:=zN S;have u:e<i:=by
      have QN:=z;rw[r i _ (br hi)] at QN;obtain⟨e',Y,h2,rfl⟩:=eD.1 QN
      grind
     rcases h with rfl|⟨c,hc,No⟩
     .grind
     .have:=W7 i (by omega) e
      rw[bd u] at this;have WG:(F i).cls[e]?=aa c:=hc;rw[WG] at this;cases this;exact C e u (by omega) j No (gw e (by omega) (Xa e z))
   refine⟨λZU=>key i hi j S (gw i hi ZU),all[i],by grind,λQW=>key i hi j S ?_⟩
   grind [List.getElem?_eq_getElem,eD]
  .intro i f hi Ti z Bq ZV;rw[Ds] at hi Ti;have QN:oJ T CT N ds all φm g f=ab:=by grind
   rcases cJ f i with u|Te
   .refine .inl ⟨u,hi,?_⟩;obtain⟨_,n⟩:=facts i _ (br hi);have M6:PN T CT N ds all φm g i=FL (F i).cls (bS (all[i]).after.toList):=by unfold PN;grind
    rw[M6];cases hei:oJ T CT N ds all φm g i with
    |true =>
     have Y:=n.ld (by grind)
     refine pU Y ?_;rw[nfI i (by omega) f]
     have:tQ T CT N ds all φm g f=ae:=by unfold tQ;grind
     grind
    |false =>
     have V5:I1 (jl (λj=>fK j (bS (all[i]).after.toList)) 0 (F i).pre (kN (F i).i all φm)) all[i]=ab:=by
      unfold tQ at ZV;rw[ZS i _ (br hi),r i _ (br hi),hei] at ZV
      grind
     have Y:=n.load V5 (by grind)
     grind [pU]
   .have u:i<f:=by omega
    refine .inr ⟨u,Ti,?_⟩;obtain⟨_,n⟩:=facts f _ (br Ti);have M6:PN T CT N ds all φm g f=FL (F f).cls (bS (all[f]).after.toList):=by unfold PN;grind
    rw[M6];have Y:=n.ld (by grind)
    grind [pU]
  .intro i o q t σ s v U;rw[R] at q;have hi:i<all.length:=(cr.1 q).1;unfold PM;rw[r i o q];rcases nc (m:=λj=>fK j (bS o.after.toList)) (φ:=kN (F i).i all φm) (t:=t) (l:=(F i).pre) (i:=0) with⟨j,x,Y,h2,h3⟩|h3
   .have Xb:look (jl (λj=>fK j (bS o.after.toList)) 0 (xK T CT N ds all φm g i).pre (kN (xK T CT N ds all φm g i).i all φm)) t=x:=h3
    rw[Xb];have hp:=Z i (by omega) j
    rw[Y] at hp;have W8:j<i:=by
     grind
    rw[bd W8,br (by omega:j<all.length)] at hp
    simp only[j9,di,k8] at hp;obtain⟨hp1,hp2⟩:=hp;have B:=M j _ t (br (by omega:j<all.length)) hp1.symm
    rw[B] at U;simp only at U;rw[bd] at U
    .grind
    .have Xc:j∈bS o.after.toList:=by
      simp only[bt] at h2;exact BG h2
     obtain⟨e,a,b,c⟩:=eD.1 Xc
     grind
   .have Xb:look (jl (λj=>fK j (bS o.after.toList)) 0 (xK T CT N ds all φm g i).pre (kN (xK T CT N ds all φm g i).i all φm)) t=look (kN (F i).i all φm) t:=h3
    rw[Xb,I i (by omega),<-W5,yk]
    split
    .trivial
    .rename_i ZW
     cases B:idx t with
     |some j =>
      have hD:=(V t).2 ⟨j,B⟩;have hN:vN i t all=ae:=by
       grind
      obtain⟨oj,W0,W1⟩:=O t j B;have hm:=BG (vO hN j oj W0 W1);obtain⟨e,z,S,heq⟩:=eD.1 hm;rw[B] at U;simp only at U;split at U
      ·
       rename_i hex
       obtain⟨e2,VV,ZX,acj⟩:=hex
       grind
      .rw[bd ⟨oj,by grind,e,by grind,S,heq⟩] at U
       exact U
     |none=>grind
  .intro t σ s v U;have hF:F all.length=sf:=J;rcases nc (m:=λ_=>ab) (φ:=uC all φ) (t:=t) (l:=sf.pre) (i:=0) with⟨j,x,Y,_,h3⟩|h3
   .rw[h3];have hp:=Z all.length (bg _) j;rw[hF,Y] at hp;have W8:j<all.length:=by
     grind
    grind
   .rw[h3,lM];split
    .trivial
    grind
 intro s a V3 hh b kk cs SS S Xd;have M5:F ops.size=sf:=by grind
 refine .next rfl λy G=>?_
 have G:=X.ik G;have E:=hh.rely G;have Xe:=V3.rely G hh;have QZ:Step σ y σ { y with w:={ y.w with drawn:=y.w.drawn+1 } }:=Step.same rfl rfl rfl rfl;have Dr:aJ σ { y with w:={ y.w with drawn:=y.w.drawn+1 } }:=E.same rfl;have ZY:=G.stepW.trans (QZ.oG E);refine⟨_,{ y with w:={ y.w with drawn:=y.w.drawn+1 } },#[],lR,⟨⟨σ,σ,E,Dr,QZ⟩,.nil⟩,?_⟩;simp only[Region.schedule,hf,Bool.true_or,cu];refine hd.arr S (s0:={ y with w:={ y.w with drawn:=y.w.drawn+1 } }) (λs2 a2 f2 h2 oB=>?_) ops.size _ (by simp) ?_ ?_ 0 _ a (by omega) ?_ ?_ Dr (.refl _ _) _
 .simp only[M5] at f2 h2 oB;exact Xd .normal _ _ s2 a2 hQ f2 h2 (ZY.trans oB)
 .simp
 .intro i o q hi;simp[dG,mM] at hi;split at hi <;> simp at hi
 .intro f Ti V2;simp[dG,mM];split <;> simp
 .have p:=Xe.mono (QZ.oG E) E.len;refine⟨p.size,p.defers,λt=>?_⟩
  unfold gb;cases B:idx t with
  |none=>exact p.slot t
  |some j =>
   simp only;rw[aY]
   .exact p.slot t
   .simp[dG,mM];split <;> simp
end
end
section
variable {P:aq}{X:Cx P}{N:Nat}{Qf:Post}{K:List It}{φ:Fr}{σ:List aV}
theorem AK.draw{T:List (Nat×TI)}{CT:List (Nat×dk)}(d:P.follows Departure.mixedOrders=ab)(c:dg P T)(hC:bD X CT){ds:List (Nat×Bool)}{ops:Array aw}{b:Fr}{σ':List aV}{obs:List Prop}{id:Nat}
  (h:FM T CT N ds ops.toList φ σ=aa (b,σ',obs)) (a:ag obs) (k:AK X N Qf K .normal b σ'):AK X N Qf (.code (.region id ops ab)::K) .normal φ σ :=
 JE d c hC h a k id
end
def vJ(T:List (Nat×TI))(CT:List (Nat×dk))(ds:List (Nat×Bool))(N:Nat)(K:List It)(φ:Fr)(σ:List aV):Option (List It×Fr×List aV×List Prop) :=
 match K with
 |[]=>af
 |.blk _::K=>aa (K,φ,σ,[])
 |.ops _ []::K=>aa (K,φ,σ,[])
 |.ops all (o::rest)::K=>match gy N o.dst with
  |true=>match FK T CT ds all φ σ o with
   |some (x,af,obs)=>de (lC o.dst x φ) λφ=>aa (.ops all rest::K,φ,σ,obs)
   |some (x,aa σ',obs)=>de (lC o.dst x φ) λφ=>aa (.ops all rest::K,φ,σ',obs)
   |none=>af
  |false=>af
 |.code c::K=>match c with
  |.skip=>aa (K,φ,σ,[])
  |.seq x y=>aa (.code x::.code y::K,φ,σ,[])
  |.block id c=>aa (.code c::.blk id::K,φ,σ,[])
  |.region id ops d=>match BI ds (id+1000000) with
   |some _=>af
   |none=>match d with
    |false=>aa (.ops ops.toList ops.toList::K,φ,σ,[])
    |true=>match FM T CT N ds ops.toList φ σ with
     |some (a,σ',obs)=>aa (K,a,σ',obs)
     |none=>af
  |.exit id=>match kP id K with
   |some K'=>aa (K',φ,σ,[])
   |none=>af
  |.cond (.tmp t) x y=>match look φ t with
   |.e (.one (.c (.bool ab)))=>aa (.code x::K,φ,σ,[])
   |.e (.one (.c (.bool ae)))=>aa (.code y::K,φ,σ,[])
   |_=>af
  |_=>af
def Kr{P:aq}{X:Cx P}(m:P.follows Departure.mixedOrders=ab){T:List (Nat×TI)}(l:dg P T){CT:List (Nat×dk)}(i:bD X CT){ds:List (Nat×Bool)}{N:Nat}{Qf:Post}{K f:List It}{φ a:Fr}{σ σ':List aV}{obs:List Prop}
  (h:vJ T CT ds N K φ σ=aa (f,a,σ',obs)) (j:ag obs) (k:AK X N Qf f .normal a σ'):AK X N Qf K .normal φ σ:=by
 unfold vJ at h;split at h
 .cases h
 .cases h;exact AK.Ry k
 .cases h;exact AK.Rz k
 .rename_i all o rest K0
  cases d:gy N o.dst with
  |false=>simp[d] at h
  |true =>
   simp only[d] at h;have g:=il d;split at h
   .rename_i x b e
    rw[cV] at h;cases h;exact jB.tg (en l i e j) g k
   .rename_i x σ1 b e
    rw[cV] at h;cases h;exact jB.tg (en l i e j) g k
   .cases h
 .rename_i c K0
  split at h
  .cases h;exact AK.skip k
  .cases h;exact AK.seq k
  .cases h;exact AK.block k
  .grind [AK.region,AK.draw]
  .grind [AK.exit]
  .grind [AK.cond]
  .cases h
def eY(T:List (Nat×TI))(CT:List (Nat×dk))(ds:List (Nat×Bool))(N:Nat):Nat->List It->Fr->List aV->List Prop->Option (List It×Fr×List aV×List Prop)
 |0,K,φ,σ,obs=>de obs λobs=>aa (K,φ,σ,obs)
 |n+1,K,φ,σ,obs=>match vJ T CT ds N K φ σ with
  |some (b,a,σ',o)=>eY T CT ds N n b a σ' (ko o obs)
  |none=>de obs λobs=>aa (K,φ,σ,obs)
def F8{P:aq}{X:Cx P}(g:P.follows Departure.mixedOrders=ab){T:List (Nat×TI)}(i:dg P T){CT:List (Nat×dk)}(f:bD X CT){ds:List (Nat×Bool)}{N:Nat}{Qf:Post}:∀ {n:Nat}{K b:List It}{φ a:Fr}{σ σ':List aV}{obs D3:List Prop},
  eY T CT ds N n K φ σ obs=aa (b,a,σ',D3)->ag D3->AK X N Qf b .normal a σ'->AK X N Qf K .normal φ σ/\ag obs
 |0,K,b,φ,a,σ,σ',obs,D3,h,c,k=>by
  simp only[eY,cV] at h;cases h;exact⟨k,c⟩
 |n+1,K,b,φ,a,σ,σ',obs,D3,h,c,k=>by
  simp only[eY] at h;cases e:vJ T CT ds N K φ σ with
  |none =>
   simp only[e,cV] at h;cases h;exact⟨k,c⟩
  |some r =>
   obtain⟨o,l,σ1,m⟩:=r;simp only[e] at h;obtain⟨j,d⟩:=F8 g i f h c k;rw[ag.cat] at d;exact⟨Kr g i f e d.1 j,d.2⟩
def AK.eY{P:aq}{X:Cx P}(d:P.follows Departure.mixedOrders=ab){T:List (Nat×TI)}(f:dg P T){CT:List (Nat×dk)}(hC:bD X CT)(ds:List (Nat×Bool)){N:Nat}{Qf:Post}(n:Nat){K c:List It}{φ b:Fr}{σ σ':List aV}{a:List Prop}
  (h:AM.eY T CT ds N n K φ σ []=aa (c,b,σ',a)) (e:ag a) (k:AK X N Qf c .normal b σ'):AK X N Qf K .normal φ σ:=(F8 d f hC h e k).1
section
variable {P:aq}{X:Cx P}{N:Nat}{Qf:Post}{K:List It}{φ:Fr}{σ:List aV}
def zJ(rs:List ResultVar)(ks:List Nat)(φ:Fr)(res:D):Option (List Prop) :=
 match xH φ rs with
 |some ds=>match rL ds with
  |some d=>match u7 ks.length res with
   |true=>Dt d (jA ks res)
   |false=>af
  |none=>af
 |none=>af
def AK.dJ{fn:Func}{a:Nat}{res:D}{σ':List aV}(ks:List Nat){ps:List Prop}(h:zJ fn.results.toList ks φ res=aa ps)(d:ag ps)(e:kL ks σ=aa σ')(b:lg σ'=ab)(hn:eg ks=ab)(c:∀ j,j<a->ks[j]?=aa j) :
  AK X N (b6 fn a res σ') (.code .ret::K) .normal φ σ:=by
 refine AK.ret ⟨.inl rfl,ks,?_⟩;unfold zJ at h
 grind
def AK.bn{fn:Func}{res:D}{ps:List Prop}(h:zJ fn.results.toList [] φ res=aa ps)(a:ag ps):AK X N (b6 fn 0 res []) (.code .ret::K) .normal φ σ :=
 AK.dJ [] h a rfl rfl rfl (λj h=>by omega)
def b6.zero{fn:Func}{res:D}{ps:List Prop}(h:zJ fn.results.toList [] φ res=aa ps)(c:ag ps):b6 fn 0 res [] .ret φ σ:=by
 refine⟨.inl rfl,[],?_⟩;unfold zJ at h;split at h
 .rename_i ds XL
  split at h
  .rename_i d b
   split at h
   .rename_i a
    exact⟨ds,d,ps,XL,b,h,c,a,rfl,rfl,rfl,λj h=>by omega⟩
   .cases h
  .cases h
 .cases h
def AK.leave{id:Nat}{φ:Fr}{σ:List aV}{A:Fr->List aV->Prop}{Qr:Post}{K n m:List It}(h1:kP id K=af)(h2:kP id n=aa m)(k:AK X N Qr m .normal φ σ) :
  AK X N (λe f σ'=>match e with
   |.normal=>A f σ'
   |e=>AK X N Qr n e f σ') (.code (.exit id)::K) .normal φ σ:=by
 have key:∀ {K:List It},kP id K=af->∀ {Q:Post},Q (.exit id) φ σ->AK X N Q K (.exit id) φ σ:=by
  intro K
  induction K with
  |nil=>intro _ Q h;exact h
  |cons i r l =>
   intro d Q h;cases i with
   |code c=>exact l (by simpa[kP] using d) h
   |ops a b=>exact l (by simpa[kP] using d) h
   |blk j =>
    simp only[kP] at d;cases hb:aG id j with
    |true=>simp[hb] at d
    |false =>
     simp[hb] at d;have g:id≠j:=λe=>by rw[e,iN] at hb;cases hb
     simp only[AK,g,cd];exact l d h
 exact AW.exit (key h1 (AK.wh h2 k))
def AK.gK{φ:Fr}{σ:List aV}{A:Fr->List aV->Prop}{Qr:Post}{K b:List It}(k:Qr .ret φ σ) :
  AK X N (λe a σ'=>match e with
   |.normal=>A a σ'
   |e=>AK X N Qr b e a σ') (.code .ret::K) .normal φ σ:=AK.ret (AK.r8 (Qf:=Qr) k)
def AK.again{S:Type}{I:S->Prop}{fr:S->Fr}{st:S->List aV}{b:S->Nat}{x:S}{Qr:Post}(y:S){ps:List Prop}(c:qF φ (fr y)=aa ps)(h:ag ps)(g:I y)(d:b y<b x)(f:σ=st y) :
  AK X N (λe a σ'=>match e with
   |.normal=>∃ y,I y/\b y<b x/\o8 a (fr y)/\σ'=st y
   |e=>Qr e a σ') [] .normal φ σ:=⟨y,g,d,dh c h,f⟩
def AK.wi{S:Type}{c:Code}(I:S->Prop)(fr:S->Fr)(st:S->List aV)(d:S->Nat)(x:S){ps:List Prop}(b:qF φ (fr x)=aa ps)(g:ag ps)(h:I x)(f:st x=σ)
  (round:∀ x,I x->AK X N (λe a σ'=>match e with
   |.normal=>∃ y,I y/\d y<d x/\o8 a (fr y)/\σ'=st y
   |e=>AK X N Qf K e a σ') [.code c] .normal (fr x) (st x)):AK X N Qf (.code (.loop c)::K) .normal φ σ :=
 AK.loop I fr st d x h (dh b g) f round
def Fits(args:List D)(σ:List aV):Prop:=∃ s vs,cz σ s vs args/\aJ σ s
def Fits.at{args:List D}{σ:List aV}(h:Fits args σ){j:Nat}{d:D}(hj:args[j]?=aa d):∃ s v,dc σ s v d:=by
 obtain⟨s,vs,a,_⟩:=h;obtain⟨_,b⟩:=cz.get a
 grind
def Fits.str{args:List D}{σ:List aV}(h:Fits args σ)(j:Nat){l:List UInt8}(hj:args[j]?=aa (.e (.one (.c (.str l))))):l.length<=9223372036854775807:=by
 obtain⟨s,v,a⟩:=h.at hj;cases fy a with
 |str h hl=>exact hl
def Fits.sl{args:List D}{σ:List aV}(h:Fits args σ)(j:Nat){t:Bool}{k n:Nat}{es:Nat->List C}(hj:args[j]?=aa (.e (.one (.c (.sl t k n es))))):n<=9223372036854775807:=by
 obtain⟨s,v,d⟩:=h.at hj;cases fy d with
 |sl b off f a hb=>omega
def Ev.body{f:aW}{fn:Func}{c:Code}{args:List D}{σ σ':List aV}{res:D}(d:P.funcs[f]?=aa fn)(a:(fn.name== "runtime.NumGoroutine")=ae)(hb:fn.body=aa c)(b:bo args.length fn.ntmps=ab)
  (h:Fits args σ->AK X fn.ntmps (b6 fn σ.length res σ') [.code c] .normal (js 0 args) σ):Ev X f args σ res σ':=by
 refine⟨⟨fn,d,a,by rw[hb];rfl⟩,λs vs hr hh=>?_⟩
 exact(Ev.intro d a hb (db b) (AK.of_code (h ⟨s,vs,hr,hh⟩))).2 s vs hr hh
def Ev.bQ{f:aW}{fn:Func}{c:Code}{args:List D}{σ σ':List aV}{res:D}(b:P.funcs[f]?=aa fn)(a:(fn.name== "runtime.NumGoroutine",fn.body,bo args.length fn.ntmps)=(ae,aa c,ab))
  (h:Fits args σ->AK X fn.ntmps (b6 fn σ.length res σ') [.code c] .normal (js 0 args) σ):Ev X f args σ res σ':=by
 simp only[k8] at a;exact Ev.body b a.1 a.2.1 a.2.2 h
def AK.join{c:Code}{d:List It}(b:Fr)(σ':List aV)(h:(∀ (a:Fr)(ps:List Prop),qF a b=aa ps->ag ps->AK X N Qf (.code c::d) .normal a σ')->AK X N Qf K .normal φ σ)
  (k:AK X N Qf (.code c::d) .normal b σ'):AK X N Qf K .normal φ σ :=
 h λ_ _ h1 h2=>AW.le k (dh h1 h2)
end
section
open Go.Proofs
def bz{P:aq}{t:ar}{i:TypeInfo}(h:P.types[t]?=aa i):P.info? t=aa i:=by
 unfold Tables.info?;rw[bd (ia.1 h).1];exact h
def dg.nil{P:aq}:dg P []:=λ_ _ h=>by cases h
def dg.cons{P:aq}{t:ar}{i:TI}{T:List (Nat×TI)}(h:bJ P t i)(r:dg P T):dg P ((t,i)::T):=by
 intro a i2 h2;simp only[bF] at h2;cases hb:aG t a with
 |true=>rw[hb] at h2;cases h2;rw[<-bX hb];exact h
 |false=>rw[hb] at h2;exact r a i2 h2
namespace R1
abbrev f0(a:String)(b c:Nat)(d:String)(e:Nat):Field:={ name:=a,type:=b,offset:=c,embedded:=ae,tag:= "",pkgPath:=d,byteOffset:=e }
def i2:TI:=⟨1,8,ae,TypeDesc.int IntKind.i64,[.int .i64 0],[]⟩
def g2:bJ ah 2 i2:=⟨Tryz.underlying2,rfl,⟨_,_,bz Tryz.type2,rfl,rfl,rfl,rfl,⟨#[],rfl⟩,rfl⟩,λh=>absurd rfl h⟩
def i3:TI:=⟨1,8,ae,TypeDesc.int IntKind.i64,[.int .i64 0],[]⟩
def g3:bJ ah 3 i3:=⟨Tryz.underlying3,rfl,⟨_,_,bz Tryz.type3,rfl,rfl,rfl,rfl,⟨#[],rfl⟩,rfl⟩,λh=>absurd rfl h⟩
def i4:TI:=⟨1,1,ae,TypeDesc.bool,[.bool ae],[]⟩
def g4:bJ ah 4 i4:=⟨Tryz.underlying4,rfl,⟨_,_,bz Tryz.type4,rfl,rfl,rfl,rfl,⟨#[],rfl⟩,rfl⟩,λh=>absurd rfl h⟩
def i5:TI:=⟨1,1,ae,TypeDesc.int IntKind.u8,[.int .u8 0],[]⟩
def g5:bJ ah 5 i5:=⟨Tryz.underlying5,rfl,⟨_,_,bz Tryz.type5,rfl,rfl,rfl,rfl,⟨#[],rfl⟩,rfl⟩,λh=>absurd rfl h⟩
def i6:TI:=⟨1,1,ae,TypeDesc.int IntKind.u8,[.int .u8 0],[]⟩
def g6:bJ ah 6 i6:=⟨Tryz.underlying6,rfl,⟨_,_,bz Tryz.type6,rfl,rfl,rfl,rfl,⟨#[],rfl⟩,rfl⟩,λh=>absurd rfl h⟩
def i8:TI:=⟨4,24,ab,bm #[(f0 "x" 2 0 "runtime" 0),(f0 "y" 3 1 "runtime" 8),(f0 "signed" 4 2 "runtime" 16),(f0 "code" 6 3 "runtime" 17)],[.int .i64 0,.int .i64 0,.bool ae,.int .u8 0],[]⟩
def g8:bJ ah 8 i8:=⟨Tryz.underlying8,rfl,⟨_,_,bz Tryz.type8,rfl,rfl,rfl,rfl,⟨_,rfl⟩,rfl⟩,λh=>absurd rfl h⟩
def i9:TI:=⟨1,16,ae,TypeDesc.string,[.str []],[]⟩
def g9:bJ ah 9 i9:=⟨Tryz.underlying9,rfl,⟨_,_,bz Tryz.type9,rfl,rfl,rfl,rfl,⟨#[],rfl⟩,rfl⟩,λh=>absurd rfl h⟩
def i16:TI:=⟨1,8,ae,TypeDesc.pointer 305,[.km],[]⟩
def g16:bJ ah 16 i16:=⟨Tryz.underlying16,rfl,⟨_,_,bz Tryz.type16,rfl,rfl,rfl,rfl,⟨#[],rfl⟩,rfl⟩,λh=>absurd rfl h⟩
def i20:TI:=⟨1,16,ae,TypeDesc.interface #[],[.nV],[]⟩
def g20:bJ ah 20 i20:=⟨Tryz.underlying20,rfl,⟨_,_,bz Tryz.type20,rfl,rfl,rfl,rfl,⟨#[],rfl⟩,rfl⟩,λh=>absurd rfl h⟩
def i21:TI:=⟨1,4,ae,TypeDesc.int IntKind.i32,[.int .i32 0],[]⟩
def g21:bJ ah 21 i21:=⟨Tryz.underlying21,rfl,⟨_,_,bz Tryz.type21,rfl,rfl,rfl,rfl,⟨#[],rfl⟩,rfl⟩,λh=>absurd rfl h⟩
def i22:TI:=⟨1,24,ae,TypeDesc.slice 5,[.sl ab 0 0 (λ_=>[])],[]⟩
def g22:bJ ah 22 i22:=⟨Tryz.underlying22,rfl,⟨_,_,bz Tryz.type22,rfl,rfl,rfl,rfl,⟨#[],rfl⟩,rfl⟩,λh=>absurd rfl h⟩
def i23:TI:=⟨1,24,ae,TypeDesc.slice 85,[.sl ab 0 0 (λ_=>[])],[]⟩
def g23:bJ ah 23 i23:=⟨Tryz.underlying23,rfl,⟨_,_,bz Tryz.type23,rfl,rfl,rfl,rfl,⟨#[],rfl⟩,rfl⟩,λh=>absurd rfl h⟩
def i24:TI:=⟨1,24,ae,TypeDesc.slice 64,[.sl ab 0 0 (λ_=>[])],[]⟩
def g24:bJ ah 24 i24:=⟨Tryz.underlying24,rfl,⟨_,_,bz Tryz.type24,rfl,rfl,rfl,rfl,⟨#[],rfl⟩,rfl⟩,λh=>absurd rfl h⟩
def i25:TI:=⟨1,24,ae,TypeDesc.slice 90,[.sl ab 0 0 (λ_=>[])],[]⟩
def g25:bJ ah 25 i25:=⟨Tryz.underlying25,rfl,⟨_,_,bz Tryz.type25,rfl,rfl,rfl,rfl,⟨#[],rfl⟩,rfl⟩,λh=>absurd rfl h⟩
def i27:TI:=⟨3,72,ab,bm #[(f0 "Packs" 23 0 "" 0),(f0 "Snaps" 24 1 "" 24),(f0 "Log" 25 2 "" 48)],[.sl ab 0 0 (λ_=>[]),.sl ab 0 0 (λ_=>[]),.sl ab 0 0 (λ_=>[])],[]⟩
def g27:bJ ah 27 i27:=⟨Tryz.underlying27,rfl,⟨_,_,bz Tryz.type27,rfl,rfl,rfl,rfl,⟨_,rfl⟩,rfl⟩,λh=>absurd rfl h⟩
def i28:TI:=⟨1,24,ae,TypeDesc.slice 3,[.sl ab 0 0 (λ_=>[])],[]⟩
def g28:bJ ah 28 i28:=⟨Tryz.underlying28,rfl,⟨_,_,bz Tryz.type28,rfl,rfl,rfl,rfl,⟨#[],rfl⟩,rfl⟩,λh=>absurd rfl h⟩
def i30:TI:=⟨5,120,ab,bm #[(f0 "Store" 27 0 "" 0),(f0 "Marks" 28 3 "" 72),(f0 "Left" 28 4 "" 96)],[.sl ab 0 0 (λ_=>[]),.sl ab 0 0 (λ_=>[]),.sl ab 0 0 (λ_=>[]),.sl ab 0 0 (λ_=>[]),.sl ab 0 0 (λ_=>[])],[]⟩
def g30:bJ ah 30 i30:=⟨Tryz.underlying30,rfl,⟨_,_,bz Tryz.type30,rfl,rfl,rfl,rfl,⟨_,rfl⟩,rfl⟩,λh=>absurd rfl h⟩
def i32:TI:=⟨4,40,ab,bm #[(f0 "Kind" 3 0 "" 0),(f0 "N" 3 1 "" 8),(f0 "M" 3 2 "" 16),(f0 "Body" 9 3 "" 24)],[.int .i64 0,.int .i64 0,.int .i64 0,.str []],[TypeDesc.int IntKind.i64,TypeDesc.int IntKind.i64,TypeDesc.int IntKind.i64,TypeDesc.string]⟩
def g32:bJ ah 32 i32:=⟨Tryz.underlying32,rfl,⟨_,_,bz Tryz.type32,rfl,rfl,rfl,rfl,⟨_,rfl⟩,rfl⟩,λ_=>jR (fs:=[(f0 "Kind" 3 0 "" 0),(f0 "N" 3 1 "" 8),(f0 "M" 3 2 "" 16),(f0 "Body" 9 3 "" 24)]) Tryz.underlying32 (by decide +kernel) Tryz.eqGuardType32 ⟨by decide,rfl,Tryz.underlying3,av,by decide,rfl,Tryz.underlying3,av,by decide,rfl,Tryz.underlying3,av,by decide,rfl,Tryz.underlying9,av,av⟩⟩
def i33:TI:=⟨1,24,ae,TypeDesc.slice 46,[.sl ab 0 0 (λ_=>[])],[]⟩
def g33:bJ ah 33 i33:=⟨Tryz.underlying33,rfl,⟨_,_,bz Tryz.type33,rfl,rfl,rfl,rfl,⟨#[],rfl⟩,rfl⟩,λh=>absurd rfl h⟩
def i35:TI:=⟨12,216,ab,bm #[(f0 "Key" 3 0 "" 0),(f0 "Sweep" 30 1 "" 8),(f0 "Lie" 32 6 "" 128),(f0 "Keeps" 33 10 "" 168),(f0 "Found" 28 11 "" 192)],[.int .i64 0,.sl ab 0 0 (λ_=>[]),.sl ab 0 0 (λ_=>[]),.sl ab 0 0 (λ_=>[]),.sl ab 0 0 (λ_=>[]),.sl ab 0 0 (λ_=>[]),.int .i64 0,.int .i64 0,.int .i64 0,.str [],.sl ab 0 0 (λ_=>[]),.sl ab 0 0 (λ_=>[])],[]⟩
def g35:bJ ah 35 i35:=⟨Tryz.underlying35,rfl,⟨_,_,bz Tryz.type35,rfl,rfl,rfl,rfl,⟨_,rfl⟩,rfl⟩,λh=>absurd rfl h⟩
def i38:TI:=⟨1,24,ae,TypeDesc.slice 60,[.sl ab 0 0 (λ_=>[])],[]⟩
def YA:bJ ah 38 i38:=⟨Tryz.underlying38,rfl,⟨_,_,bz Tryz.type38,rfl,rfl,rfl,rfl,⟨#[],rfl⟩,rfl⟩,λh=>absurd rfl h⟩
def i46:TI:=⟨2,16,ab,bm #[(f0 "Long" 3 0 "" 0),(f0 "Sum" 3 1 "" 8)],[.int .i64 0,.int .i64 0],[TypeDesc.int IntKind.i64,TypeDesc.int IntKind.i64]⟩
def g46:bJ ah 46 i46:=⟨Tryz.underlying46,rfl,⟨_,_,bz Tryz.type46,rfl,rfl,rfl,rfl,⟨_,rfl⟩,rfl⟩,λ_=>jR (fs:=[(f0 "Long" 3 0 "" 0),(f0 "Sum" 3 1 "" 8)]) Tryz.underlying46 (by decide +kernel) Tryz.eqGuardType46 ⟨by decide,rfl,Tryz.underlying3,av,by decide,rfl,Tryz.underlying3,av,av⟩⟩
def i49:TI:=⟨1,8,ae,TypeDesc.pointer 74,[.km],[]⟩
def g49:bJ ah 49 i49:=⟨Tryz.underlying49,rfl,⟨_,_,bz Tryz.type49,rfl,rfl,rfl,rfl,⟨#[],rfl⟩,rfl⟩,λh=>absurd rfl h⟩
def i60:TI:=⟨2,32,ab,bm #[(f0 "Path" 9 0 "" 0),(f0 "Text" 9 1 "" 16)],[.str [],.str []],[TypeDesc.string,TypeDesc.string]⟩
def g60:bJ ah 60 i60:=⟨Tryz.underlying60,rfl,⟨_,_,bz Tryz.type60,rfl,rfl,rfl,rfl,⟨_,rfl⟩,rfl⟩,λ_=>jR (fs:=[(f0 "Path" 9 0 "" 0),(f0 "Text" 9 1 "" 16)]) Tryz.underlying60 (by decide +kernel) Tryz.eqGuardType60 ⟨by decide,rfl,Tryz.underlying9,av,by decide,rfl,Tryz.underlying9,av,av⟩⟩
def i62:TI:=⟨1,24,ae,TypeDesc.slice 92,[.sl ab 0 0 (λ_=>[])],[]⟩
def g62:bJ ah 62 i62:=⟨Tryz.underlying62,rfl,⟨_,_,bz Tryz.type62,rfl,rfl,rfl,rfl,⟨#[],rfl⟩,rfl⟩,λh=>absurd rfl h⟩
def i64:TI:=⟨2,32,ab,bm #[(f0 "No" 3 0 "" 0),(f0 "All" 62 1 "" 8)],[.int .i64 0,.sl ab 0 0 (λ_=>[])],[]⟩
def g64:bJ ah 64 i64:=⟨Tryz.underlying64,rfl,⟨_,_,bz Tryz.type64,rfl,rfl,rfl,rfl,⟨_,rfl⟩,rfl⟩,λh=>absurd rfl h⟩
def i70:TI:=⟨1,8,ae,TypeDesc.pointer 108,[.km],[]⟩
def g70:bJ ah 70 i70:=⟨Tryz.underlying70,rfl,⟨_,_,bz Tryz.type70,rfl,rfl,rfl,rfl,⟨#[],rfl⟩,rfl⟩,λh=>absurd rfl h⟩
def i74:TI:=⟨2,32,ab,bm #[(f0 "b" 22 0 "loop.example/depositary/spec" 0),(f0 "p" 3 1 "loop.example/depositary/spec" 24)],[.sl ab 0 0 (λ_=>[]),.int .i64 0],[]⟩
def g74:bJ ah 74 i74:=⟨Tryz.underlying74,rfl,⟨_,_,bz Tryz.type74,rfl,rfl,rfl,rfl,⟨_,rfl⟩,rfl⟩,λh=>absurd rfl h⟩
def i79:TI:=⟨8,104,ab,bm #[(f0 "Kind" 3 0 "" 0),(f0 "By" 3 1 "" 8),(f0 "Tree" 38 2 "" 16),(f0 "Lie" 32 3 "" 40),(f0 "Keep" 28 7 "" 80)],[.int .i64 0,.int .i64 0,.sl ab 0 0 (λ_=>[]),.int .i64 0,.int .i64 0,.int .i64 0,.str [],.sl ab 0 0 (λ_=>[])],[]⟩
def g79:bJ ah 79 i79:=⟨Tryz.underlying79,rfl,⟨_,_,bz Tryz.type79,rfl,rfl,rfl,rfl,⟨_,rfl⟩,rfl⟩,λh=>absurd rfl h⟩
def i83:TI:=⟨1,24,ae,TypeDesc.slice 88,[.sl ab 0 0 (λ_=>[])],[]⟩
def Ys:bJ ah 83 i83:=⟨Tryz.underlying83,rfl,⟨_,_,bz Tryz.type83,rfl,rfl,rfl,rfl,⟨#[],rfl⟩,rfl⟩,λh=>absurd rfl h⟩
def i85:TI:=⟨2,32,ab,bm #[(f0 "No" 3 0 "" 0),(f0 "Item" 83 1 "" 8)],[.int .i64 0,.sl ab 0 0 (λ_=>[])],[]⟩
def g85:bJ ah 85 i85:=⟨Tryz.underlying85,rfl,⟨_,_,bz Tryz.type85,rfl,rfl,rfl,rfl,⟨_,rfl⟩,rfl⟩,λh=>absurd rfl h⟩
def i88:TI:=⟨2,24,ab,bm #[(f0 "Name" 3 0 "" 0),(f0 "Body" 9 1 "" 8)],[.int .i64 0,.str []],[TypeDesc.int IntKind.i64,TypeDesc.string]⟩
def g88:bJ ah 88 i88:=⟨Tryz.underlying88,rfl,⟨_,_,bz Tryz.type88,rfl,rfl,rfl,rfl,⟨_,rfl⟩,rfl⟩,λ_=>jR (fs:=[(f0 "Name" 3 0 "" 0),(f0 "Body" 9 1 "" 8)]) Tryz.underlying88 (by decide +kernel) Tryz.eqGuardType88 ⟨by decide,rfl,Tryz.underlying3,av,by decide,rfl,Tryz.underlying9,av,av⟩⟩
def i90:TI:=⟨2,16,ab,bm #[(f0 "By" 3 0 "" 0),(f0 "Snap" 3 1 "" 8)],[.int .i64 0,.int .i64 0],[TypeDesc.int IntKind.i64,TypeDesc.int IntKind.i64]⟩
def g90:bJ ah 90 i90:=⟨Tryz.underlying90,rfl,⟨_,_,bz Tryz.type90,rfl,rfl,rfl,rfl,⟨_,rfl⟩,rfl⟩,λ_=>jR (fs:=[(f0 "By" 3 0 "" 0),(f0 "Snap" 3 1 "" 8)]) Tryz.underlying90 (by decide +kernel) Tryz.eqGuardType90 ⟨by decide,rfl,Tryz.underlying3,av,by decide,rfl,Tryz.underlying3,av,av⟩⟩
def i92:TI:=⟨2,40,ab,bm #[(f0 "Path" 9 0 "" 0),(f0 "Names" 28 1 "" 16)],[.str [],.sl ab 0 0 (λ_=>[])],[]⟩
def g92:bJ ah 92 i92:=⟨Tryz.underlying92,rfl,⟨_,_,bz Tryz.type92,rfl,rfl,rfl,rfl,⟨_,rfl⟩,rfl⟩,λh=>absurd rfl h⟩
def i93:TI:=⟨1,24,ae,TypeDesc.slice 9,[.sl ab 0 0 (λ_=>[])],[]⟩
def g93:bJ ah 93 i93:=⟨Tryz.underlying93,rfl,⟨_,_,bz Tryz.type93,rfl,rfl,rfl,rfl,⟨#[],rfl⟩,rfl⟩,λh=>absurd rfl h⟩
def i108:TI:=⟨3,24,ab,bm #[(f0 "head" 90 0 "loop.example/depositary/impl" 0),(f0 "next" 70 2 "loop.example/depositary/impl" 16)],[.int .i64 0,.int .i64 0,.km],[]⟩
def YB:bJ ah 108 i108:=⟨Tryz.underlying108,rfl,⟨_,_,bz Tryz.type108,rfl,rfl,rfl,rfl,⟨_,rfl⟩,rfl⟩,λh=>absurd rfl h⟩
def i128:TI:=⟨1,8,ae,TypeDesc.pointer 27,[.km],[]⟩
def YC:bJ ah 128 i128:=⟨Tryz.underlying128,rfl,⟨_,_,bz Tryz.type128,rfl,rfl,rfl,rfl,⟨#[],rfl⟩,rfl⟩,λh=>absurd rfl h⟩
def i129:TI:=⟨1,24,ae,TypeDesc.slice 142,[.sl ab 0 0 (λ_=>[])],[]⟩
def YD:bJ ah 129 i129:=⟨Tryz.underlying129,rfl,⟨_,_,bz Tryz.type129,rfl,rfl,rfl,rfl,⟨#[],rfl⟩,rfl⟩,λh=>absurd rfl h⟩
def i131:TI:=⟨0,0,ab,bm #[],[],[]⟩
def YE:bJ ah 131 i131:=⟨Tryz.underlying131,rfl,⟨_,_,bz Tryz.type131,rfl,rfl,rfl,rfl,⟨_,rfl⟩,rfl⟩,λh=>absurd rfl h⟩
def i132:TI:=⟨0,0,ab,bm #[],[],[]⟩
def YF:bJ ah 132 i132:=⟨Tryz.underlying132,rfl,⟨_,_,bz Tryz.type132,rfl,rfl,rfl,rfl,⟨_,rfl⟩,rfl⟩,λh=>absurd rfl h⟩
def i133:TI:=⟨0,0,ab,bm #[],[],[]⟩
def YG:bJ ah 133 i133:=⟨Tryz.underlying133,rfl,⟨_,_,bz Tryz.type133,rfl,rfl,rfl,rfl,⟨_,rfl⟩,rfl⟩,λh=>absurd rfl h⟩
def i134:TI:=⟨1,8,ae,TypeDesc.int IntKind.u64,[.int .u64 0],[]⟩
def YH:bJ ah 134 i134:=⟨Tryz.underlying134,rfl,⟨_,_,bz Tryz.type134,rfl,rfl,rfl,rfl,⟨#[],rfl⟩,rfl⟩,λh=>absurd rfl h⟩
def i136:TI:=⟨1,8,ab,bm #[(f0 "_" 132 0 "sync/atomic" 0),(f0 "_" 133 0 "sync/atomic" 0),(f0 "v" 134 0 "sync/atomic" 0)],[.int .u64 0],[]⟩
def YI:bJ ah 136 i136:=⟨Tryz.underlying136,rfl,⟨_,_,bz Tryz.type136,rfl,rfl,rfl,rfl,⟨_,rfl⟩,rfl⟩,λh=>absurd rfl h⟩
def i137:TI:=⟨1,4,ae,TypeDesc.int IntKind.u32,[.int .u32 0],[]⟩
def YJ:bJ ah 137 i137:=⟨Tryz.underlying137,rfl,⟨_,_,bz Tryz.type137,rfl,rfl,rfl,rfl,⟨#[],rfl⟩,rfl⟩,λh=>absurd rfl h⟩
def i139:TI:=⟨2,16,ab,bm #[(f0 "noCopy" 131 0 "sync" 0),(f0 "state" 136 0 "sync" 0),(f0 "sema" 137 1 "sync" 8)],[.int .u64 0,.int .u32 0],[]⟩
def YK:bJ ah 139 i139:=⟨Tryz.underlying139,rfl,⟨_,_,bz Tryz.type139,rfl,rfl,rfl,rfl,⟨_,rfl⟩,rfl⟩,λh=>absurd rfl h⟩
def i142:TI:=⟨2,24,ab,bm #[(f0 "piece" 9 0 "loop.example/depositary/impl" 0),(f0 "ok" 4 1 "loop.example/depositary/impl" 16)],[.str [],.bool ae],[TypeDesc.string,TypeDesc.bool]⟩
def YL:bJ ah 142 i142:=⟨Tryz.underlying142,rfl,⟨_,_,bz Tryz.type142,rfl,rfl,rfl,rfl,⟨_,rfl⟩,rfl⟩,λ_=>jR (fs:=[(f0 "piece" 9 0 "loop.example/depositary/impl" 0),(f0 "ok" 4 1 "loop.example/depositary/impl" 16)]) Tryz.underlying142 (by decide +kernel) Tryz.eqGuardType142 ⟨by decide,rfl,Tryz.underlying9,av,by decide,rfl,Tryz.underlying4,av,av⟩⟩
def i163:TI:=⟨1,24,ae,TypeDesc.slice 85,[.sl ab 0 0 (λ_=>[])],[]⟩
def YM:bJ ah 163 i163:=⟨Tryz.underlying163,rfl,⟨_,_,bz Tryz.type163,rfl,rfl,rfl,rfl,⟨#[],rfl⟩,rfl⟩,λh=>absurd rfl h⟩
def i165:TI:=⟨3,72,ab,bm #[{ name:= "packed",type:=163,offset:=0,embedded:=ab,tag:= "",pkgPath:= "loop.example/depositary/impl",byteOffset:=0 },(f0 "snaps" 24 1 "loop.example/depositary/impl" 24),(f0 "log" 25 2 "loop.example/depositary/impl" 48)],[.sl ab 0 0 (λ_=>[]),.sl ab 0 0 (λ_=>[]),.sl ab 0 0 (λ_=>[])],[]⟩
def YN:bJ ah 165 i165:=⟨Tryz.underlying165,rfl,⟨_,_,bz Tryz.type165,rfl,rfl,rfl,rfl,⟨_,rfl⟩,rfl⟩,λh=>absurd rfl h⟩
def i182:TI:=⟨1,8,ae,TypeDesc.int IntKind.u64,[.int .u64 0],[]⟩
def YO:bJ ah 182 i182:=⟨Tryz.underlying182,rfl,⟨_,_,bz Tryz.type182,rfl,rfl,rfl,rfl,⟨#[],rfl⟩,rfl⟩,λh=>absurd rfl h⟩
def i192:TI:=⟨1,8,ae,TypeDesc.pointer 194,[.km],[]⟩
def YP:bJ ah 192 i192:=⟨Tryz.underlying192,rfl,⟨_,_,bz Tryz.type192,rfl,rfl,rfl,rfl,⟨#[],rfl⟩,rfl⟩,λh=>absurd rfl h⟩
def i194:TI:=⟨2,32,ab,bm #[(f0 "addr" 192 0 "strings" 0),(f0 "buf" 22 1 "strings" 8)],[.km,.sl ab 0 0 (λ_=>[])],[]⟩
def YQ:bJ ah 194 i194:=⟨Tryz.underlying194,rfl,⟨_,_,bz Tryz.type194,rfl,rfl,rfl,rfl,⟨_,rfl⟩,rfl⟩,λh=>absurd rfl h⟩
def i196:TI:=⟨1,16,ae,TypeDesc.interface #[("Error",199)],[.nV],[]⟩
def YR:bJ ah 196 i196:=⟨Tryz.underlying196,rfl,⟨_,_,bz Tryz.type196,rfl,rfl,rfl,rfl,⟨#[],rfl⟩,rfl⟩,λh=>absurd rfl h⟩
def i232:TI:=⟨1,24,ae,TypeDesc.slice 250,[.sl ab 0 0 (λ_=>[])],[]⟩
def YS:bJ ah 232 i232:=⟨Tryz.underlying232,rfl,⟨_,_,bz Tryz.type232,rfl,rfl,rfl,rfl,⟨#[],rfl⟩,rfl⟩,λh=>absurd rfl h⟩
def i250:TI:=⟨2,16,ab,bm #[(f0 "Name" 3 0 "" 0),(f0 "Pack" 3 1 "" 8)],[.int .i64 0,.int .i64 0],[TypeDesc.int IntKind.i64,TypeDesc.int IntKind.i64]⟩
def YT:bJ ah 250 i250:=⟨Tryz.underlying250,rfl,⟨_,_,bz Tryz.type250,rfl,rfl,rfl,rfl,⟨_,rfl⟩,rfl⟩,λ_=>jR (fs:=[(f0 "Name" 3 0 "" 0),(f0 "Pack" 3 1 "" 8)]) Tryz.underlying250 (by decide +kernel) Tryz.eqGuardType250 ⟨by decide,rfl,Tryz.underlying3,av,by decide,rfl,Tryz.underlying3,av,av⟩⟩
def i255:TI:=⟨1,8,ae,TypeDesc.int IntKind.i64,[.int .i64 0],[]⟩
def YU:bJ ah 255 i255:=⟨Tryz.underlying255,rfl,⟨_,_,bz Tryz.type255,rfl,rfl,rfl,rfl,⟨#[],rfl⟩,rfl⟩,λh=>absurd rfl h⟩
def i265:TI:=⟨1,8,ae,TypeDesc.int IntKind.i64,[.int .i64 0],[]⟩
def YV:bJ ah 265 i265:=⟨Tryz.underlying265,rfl,⟨_,_,bz Tryz.type265,rfl,rfl,rfl,rfl,⟨#[],rfl⟩,rfl⟩,λh=>absurd rfl h⟩
def i269:TI:=⟨1,8,ae,TypeDesc.int IntKind.u64,[.int .u64 0],[]⟩
def YW:bJ ah 269 i269:=⟨Tryz.underlying269,rfl,⟨_,_,bz Tryz.type269,rfl,rfl,rfl,rfl,⟨#[],rfl⟩,rfl⟩,λh=>absurd rfl h⟩
def i272:TI:=⟨1,8,ae,TypeDesc.pointer 3,[.km],[]⟩
def YX:bJ ah 272 i272:=⟨Tryz.underlying272,rfl,⟨_,_,bz Tryz.type272,rfl,rfl,rfl,rfl,⟨#[],rfl⟩,rfl⟩,λh=>absurd rfl h⟩
def i280:TI:=⟨1,8,ae,TypeDesc.pointer 276,[.km],[]⟩
def YY:bJ ah 280 i280:=⟨Tryz.underlying280,rfl,⟨_,_,bz Tryz.type280,rfl,rfl,rfl,rfl,⟨#[],rfl⟩,rfl⟩,λh=>absurd rfl h⟩
def i298:TI:=⟨2,2,ab,bm #[(f0 "lo" 5 0 "unicode/utf8" 0),(f0 "hi" 5 1 "unicode/utf8" 1)],[.int .u8 0,.int .u8 0],[TypeDesc.int IntKind.u8,TypeDesc.int IntKind.u8]⟩
def YZ:bJ ah 298 i298:=⟨Tryz.underlying298,rfl,⟨_,_,bz Tryz.type298,rfl,rfl,rfl,rfl,⟨_,rfl⟩,rfl⟩,λ_=>jR (fs:=[(f0 "lo" 5 0 "unicode/utf8" 0),(f0 "hi" 5 1 "unicode/utf8" 1)]) Tryz.underlying298 (by decide +kernel) Tryz.eqGuardType298 ⟨by decide,rfl,Tryz.underlying5,av,by decide,rfl,Tryz.underlying5,av,av⟩⟩
def i299:TI:=⟨32,32,ab,TypeDesc.array 16 298,[.int .u8 0,.int .u8 0,.int .u8 0,.int .u8 0,.int .u8 0,.int .u8 0,.int .u8 0,.int .u8 0,.int .u8 0,.int .u8 0,.int .u8 0,.int .u8 0,.int .u8 0,.int .u8 0,.int .u8 0,.int .u8 0,.int .u8 0,.int .u8 0,.int .u8 0,.int .u8 0,.int .u8 0,.int .u8 0,.int .u8 0,.int .u8 0,.int .u8 0,.int .u8 0,.int .u8 0,.int .u8 0,.int .u8 0,.int .u8 0,.int .u8 0,.int .u8 0],[]⟩
def Y0:bJ ah 299 i299:=⟨Tryz.underlying299,rfl,⟨_,_,bz Tryz.type299,rfl,rfl,rfl,rfl,⟨_,rfl⟩,rfl⟩,λh=>absurd rfl h⟩
def i300:TI:=⟨1,8,ae,TypeDesc.pointer 317,[.km],[]⟩
def Y1:bJ ah 300 i300:=⟨Tryz.underlying300,rfl,⟨_,_,bz Tryz.type300,rfl,rfl,rfl,rfl,⟨#[],rfl⟩,rfl⟩,λh=>absurd rfl h⟩
def i303:TI:=⟨0,0,ab,TypeDesc.array 0 16,[],[]⟩
def Y2:bJ ah 303 i303:=⟨Tryz.underlying303,rfl,⟨_,_,bz Tryz.type303,rfl,rfl,rfl,rfl,⟨_,rfl⟩,rfl⟩,λh=>absurd rfl h⟩
def i305:TI:=⟨0,0,ab,bm #[(f0 "_" 303 0 "runtime" 0)],[],[]⟩
def Y3:bJ ah 305 i305:=⟨Tryz.underlying305,rfl,⟨_,_,bz Tryz.type305,rfl,rfl,rfl,rfl,⟨_,rfl⟩,rfl⟩,λh=>absurd rfl h⟩
def i317:TI:=⟨1,16,ab,bm #[(f0 "s" 9 0 "errors" 0)],[.str []],[TypeDesc.string]⟩
def Y4:bJ ah 317 i317:=⟨Tryz.underlying317,rfl,⟨_,_,bz Tryz.type317,rfl,rfl,rfl,rfl,⟨_,rfl⟩,rfl⟩,λ_=>jR (fs:=[(f0 "s" 9 0 "errors" 0)]) Tryz.underlying317 (by decide +kernel) Tryz.eqGuardType317 ⟨by decide,rfl,Tryz.underlying9,av,av⟩⟩
def tt:List (Nat×TI):=[(2,i2),(3,i3),(4,i4),(5,i5),(6,i6),(8,i8),(9,i9),(16,i16),(20,i20),(21,i21),(22,i22),(23,i23),(24,i24),(25,i25),(27,i27),(28,i28),(30,i30),(32,i32),(33,i33),(35,i35),(38,i38),(46,i46),(49,i49),(60,i60),(62,i62),(64,i64),(70,i70),(74,i74),(79,i79),(83,i83),(85,i85),(88,i88),(90,i90),(92,i92),(93,i93),(108,i108),(128,i128),(129,i129),(131,i131),(132,i132),(133,i133),(134,i134),(136,i136),(137,i137),(139,i139),(142,i142),(163,i163),(165,i165),(182,i182),(192,i192),(194,i194),(196,i196),(232,i232),(250,i250),(255,i255),(265,i265),(269,i269),(272,i272),(280,i280),(298,i298),(299,i299),(300,i300),(303,i303),(305,i305),(317,i317)]
def tok:dg ah tt:=(dg.cons g2 (dg.cons g3 (dg.cons g4 (dg.cons g5 (dg.cons g6 (dg.cons g8 (dg.cons g9 (dg.cons g16 (dg.cons g20 (dg.cons g21 (dg.cons g22 (dg.cons g23 (dg.cons g24 (dg.cons g25 (dg.cons g27 (dg.cons g28 (dg.cons g30 (dg.cons g32 (dg.cons g33 (dg.cons g35 (dg.cons YA (dg.cons g46 (dg.cons g49 (dg.cons g60 (dg.cons g62 (dg.cons g64 (dg.cons g70 (dg.cons g74 (dg.cons g79 (dg.cons Ys (dg.cons g85 (dg.cons g88 (dg.cons g90 (dg.cons g92 (dg.cons g93 (dg.cons YB (dg.cons YC (dg.cons YD (dg.cons YE (dg.cons YF (dg.cons YG (dg.cons YH (dg.cons YI (dg.cons YJ (dg.cons YK (dg.cons YL (dg.cons YM (dg.cons YN (dg.cons YO (dg.cons YP (dg.cons YQ (dg.cons YR (dg.cons YS (dg.cons YT (dg.cons YU (dg.cons YV (dg.cons YW (dg.cons YX (dg.cons YY (dg.cons YZ (dg.cons Y0 (dg.cons Y1 (dg.cons Y2 (dg.cons Y3 (dg.cons Y4 dg.nil)))))))))))))))))))))))))))))))))))))))))))))))))))))))))))))))))
end R1
end
abbrev Bs:=List UInt8
abbrev dS(s:Bs):D:=.e (.one (.c (.str s)))
abbrev dI(n:Int):D:=.e (.one (.c (.int .i64 n)))
abbrev dU(n:Int):D:=.e (.one (.c (.int .u8 n)))
abbrev dB(b:Bool):D:=.e (.one (.c (.bool b)))
def ky{s:Bs}{i:Nat}:iS s i=s.getD i 0:=rfl
namespace R1
open Go.Proofs
variable {X:Cx ah}
def ei:Tryz.prog.follows Departure.mixedOrders=ab:=rfl
def aC{X:Cx ah}{CT:List (Nat×dk)}(c:bD X CT)(ds:List (Nat×Bool)){N:Nat}{Qf:Post}(n:Nat){K d:List It}{φ b:Fr}{σ σ':List aV}{a:List Prop}
  (h:AM.eY tt CT ds N n K φ σ []=aa (d,b,σ',a)) (e:ag a) (k:AK X N Qf d .normal b σ'):AK X N Qf K .normal φ σ:=AK.eY ei tok c ds n h e k
def aX{X:Cx ah}(ds:List (Nat×Bool)){N:Nat}{Qf:Post}(n:Nat){K c:List It}{φ b:Fr}{σ σ':List aV}{a:List Prop}
  (h:AM.eY tt [] ds N n K φ σ []=aa (c,b,σ',a)) (d:ag a) (k:AK X N Qf c .normal b σ'):AK X N Qf K .normal φ σ:=AK.eY ei tok bD.nil ds n h d k
def bk{X:Cx ah}{N:Nat}{Qf:Post}{K c:List It}{φ b:Fr}{σ σ':List aV}{a:List Prop}
  (h:AM.eY tt [] [] N 100 K φ σ []=aa (c,b,σ',a)) (d:ag a) (k:AK X N Qf c .normal b σ'):AK X N Qf K .normal φ σ:=AK.eY ei tok bD.nil [] 100 h d k
def dY{X:Cx ah}{N:Nat}{Qf:Post}{K c:List It}{φ b:Fr}{σ σ':List aV}{a:List Prop}
  (h:AM.eY tt [] [] N 200 K φ σ []=aa (c,b,σ',a)) (d:ag a) (k:AK X N Qf c .normal b σ'):AK X N Qf K .normal φ σ:=AK.eY ei tok bD.nil [] 200 h d k
def l8(b:Int):Bool:=decide (97<=b)&&decide (b<=101)
def O6(b:Int):Ev X 153 [dU b] [] (dB (l8 b)) []:=by
 refine Ev.bQ Tryz.func153 rfl λ_=>?_
 by_cases h:97<=b
 .refine aX [(4,ab)] 100 rfl ?_ (AK.bn rfl ?_) <;> simp[ag,h,l8]
 .refine aX [(4,ae)] 100 rfl ?_ (AK.bn rfl ?_) <;> simp[ag,h,l8]
def eG(b:UInt8):Bool:=decide (97<=b.toNat)&&decide (b.toNat<=122)
def b8(s:Bs):Bool:=s.all eG
def sH{s:Bs}(h:∀ j,j<s.length->eG (s.getD j 0)=ab):b8 s=ab:=by
 simp only[b8,bu];intro b a;obtain⟨i,hi,rfl⟩:=dH a
 grind
def kG{s:Bs}{j:Nat}(h:j<s.length)(b:eG (s.getD j 0)=ae):b8 s=ae:=by
 cases a:b8 s with
 |false=>rfl
 |true =>
  simp only[b8,bu] at a
  grind
def Ff(s:Bs):Ev X 154 [dS s] [] (dB (b8 s)) []:=by
 refine Ev.bQ Tryz.func154 rfl λe=>?_
 have f:=e.str 0 rfl;refine bk rfl av ?_;refine AK.wi (λi=>i<=s.length/\∀ j,j<i->eG (s.getD j 0)=ab) (λi:Nat=>[(0,dS s),(3,dI i)]) (λ_=>[]) (λi=>s.length-i) 0 rfl (by simp[ag.cat,ag]) ⟨by omega,by omega⟩ rfl ?_
 rintro i ⟨hi,a⟩
 by_cases h:i<s.length
 .generalize c:s.getD i 0=b
  by_cases g:b.toNat<97
  .refine aX [(7,ab),(13,ab)] 100 rfl ?_ (AK.gK (b6.zero rfl ?_))
   .simp only[ag,ky,ba,c];omega
   .rw[ag,kG h (by rw[c];simp only[eG,ra,bM];omega)]
  .by_cases k:b.toNat>122
   .refine aX [(7,ab),(13,ae),(18,ab)] 100 rfl ?_ (AK.gK (b6.zero rfl ?_))
    .simp only[ag,ky,ba,bM,c];omega
    .rw[ag,kG h (by rw[c];simp only[eG,ra,bM];omega)]
   .refine aX [(7,ab),(13,ae),(18,ae)] 100 rfl ?_ (AK.again (i+1) rfl ?_ ?_ ?_ rfl)
    .simp only[ag,ky,ba,bM,c,bx];omega
    .simp[ag.cat,ag]
    .refine⟨by omega,λj d=>?_⟩
     rcases sS.1 d with d|rfl
     .exact a j d
     .rw[c];simp only[eG,bL,ba];omega
    .omega
 .refine aX [(7,ae)] 100 rfl (by simp[ag];omega) (AK.leave rfl rfl ?_)
  refine bk rfl av (AK.bn rfl ?_);rw[ag,sH (λj d=>a j (by omega))]
end R1
def Ev.args{P:aq}{X:Cx P}{f:aW}{args Qu:List D}{σ σ':List aV}{res:D}(h:Ev X f Qu σ res σ')(hl:∀ s vs,cz σ s vs args->cz σ s vs Qu):Ev X f args σ res σ' :=
 ⟨h.1,λs vs hr hh=>h.2 s vs (hl s vs hr) hh⟩
def kR(a:Nat):D->Option (Nat×(Nat->List C))
 |.e (.one (.c (.sl _ k n es)))=>match aG k a with
  |true=>aa (n,es)
  |false=>match aG n 0 with
   |true=>aa (0,λ_=>[])
   |false=>af
 |_=>af
def Mg{i:Nat}{d:D}{n:Nat}{es:Nat->List C}(h:kR i d=aa (n,es)){σ:List aV}{s:St}{v:ak}(r:dc σ s v d):Rd s.M v (.sl ae i n es):=by
 unfold kR at h;split at h
 .rename_i t k p es'
  split at h
  .rename_i g
   have e:=bX g;subst e;cases h;exact(fy r).loose
  .split at h
   .rename_i l
    have e:=bX l;subst e;cases h;have r':=fy r;cases r' with
    |sl b off f a j u g m q o=>exact Rd.sl b off f a j (by simp) (by omega) (by omega) (by omega) (by omega)
   .cases h
 .cases h
def sQ{α:Type}(enc:α->List C)(bE:α)(l:List α):Nat->List C:=λi=>enc (l.getD i bE)
structure hY (α:Type) where
 k:Nat
 enc:α->List C
 dec:List C->α
 bE:α
 inv:∀ a,dec (enc a)=a
 len:∀ a,(enc a).length=k
namespace hY
variable {α:Type}(c:hY α)
def list(n:Nat)(es:Nat->List C):List α:=(bh n).map λi=>c.dec (es i)
def fn(l:List α):Nat->List C:=sQ c.enc c.bE l
def fits(n:Nat)(es:Nat->List C):Prop:=∀ i,i<n->es i=c.enc (c.dec (es i))
def sl(l:List α):D:=.e (.one (.c (.sl ae c.k l.length (c.fn l))))
def C3{n:Nat}{es:Nat->List C}:(c.list n es).length=n:=by simp[list]
def list_fn(l:List α):c.list l.length (c.fn l)=l:=by
 apply pI
 .simp[list]
 .intro i b a;simp[list,fn,sQ,ai,br a,c.inv]
def aH(l:List α){n:Nat}:c.fits n (c.fn l):=λi _=>by simp[fn,sQ,c.inv]
def O7{n:Nat}{es:Nat->List C}(h:c.fits n es):aP n es (c.fn (c.list n es)):=by
 intro i hi;rw[h i hi];simp[fn,sQ,list,ai,hi]
def jS{d:D}{n:Nat}{es:Nat->List C}(h:kR c.k d=aa (n,es))(b:c.fits n es){σ:List aV}{s:St}{v:ak}(r:dc σ s v d):dc σ s v (c.sl (c.list n es)):=by
 have a:=Mg h r;have e:=a.DF (c.O7 b);show Rd s.M v (.sl ae c.k (c.list n es).length _);rw[c.C3];exact e
end hY
def cB(s:Bs)(i:Nat):Int:=(s.getD i 0).toNat
theorem cA(s:Bs) (j:Int):((iS s j).toNat:Int)=cB s j.toNat:=rfl
abbrev bC:=Bs×Bs
def Cj(cs:List C)(j:Nat):Bs:=match fw j cs with|some (.str s)=>s|_=>[]
def yB(cs:List C)(j:Nat):Int:=match fw j cs with|some (.int _ s)=>s|_=>0
def cF:hY bC:={ k:=2,enc:=λf=>[.str f.1,.str f.2],dec:=λcs=>(Cj cs 0,Cj cs 1),bE:=([],[]),inv:=λ_=>rfl,len:=λ_=>rfl }
namespace R1
open Go.Proofs
variable {X:Cx ah}
def SI:dk:=λargs σ=>match args,σ with
 |[.e (.one (.c (.int .u8 b)))],[]=>aa (dB (l8 b),[],[])
 |_,_=>af
def t153:dM X 153 SI:=by
 intro args σ res σ' obs h _;unfold SI at h;split at h
 .cases h;exact O6 _
 .cases h
def OU:dk:=λargs σ=>match args,σ with
 |[.e (.one (.c (.str b)))],[]=>aa (dB (b8 b),[],[])
 |_,_=>af
def t154:dM X 154 OU:=by
 intro args σ res σ' obs h _;unfold OU at h;split at h
 .cases h;exact Ff _
 .cases h
def ct1:List (Nat×dk):=[(153,SI),(154,OU)]
def C4:bD X ct1:=bD.cons t153 (bD.cons t154 bD.nil)
def dw(s:Bs):Bool:=if s.length=1 then l8 (cB s 0) else if s.length=3 then l8 (cB s 0)&&(cB s 1==47)&&l8 (cB s 2) else ae
def Iv(s:Bs):Ev X 93 [dS s] [] (dB (dw s)) []:=by
 refine Ev.bQ Tryz.func93 rfl λf=>?_
 by_cases e:s.length=1
 .refine aC C4 [(6,ab)] 100 rfl ?_ (AK.bn rfl ?_)
  .simp[ag,e]
  .simp[ag,dw,e,cA]
 .by_cases a:s.length=3
  .by_cases b:l8 (cB s 0)=ab
   .by_cases d:cB s 1=47
    .refine aC C4 [(6,ae),(11,ab),(14,ab),(18,ab)] 100 rfl ?_ (AK.bn rfl ?_)
     .simp[ag,a,cA,b,d]
     .simp[ag,dw,a,b,d,cA]
    .refine aC C4 [(6,ae),(11,ab),(14,ab),(18,ae)] 100 rfl ?_ (AK.bn rfl ?_)
     .simp[ag,a,cA,b,d]
     .simp[ag,dw,a,b,d]
   .refine aC C4 [(6,ae),(11,ab),(14,ae)] 100 rfl ?_ (AK.bn rfl ?_)
    .simp[ag,a,cA,b]
    .simp[ag,dw,a,b]
  .refine aC C4 [(6,ae),(11,ae)] 100 rfl ?_ (AK.bn rfl ?_)
   .simp[ag];omega
   .simp[ag,dw,e,a]
def dZ(s:Bs):Bool:=decide (s.length<=40)&&b8 s
def Iw(s:Bs):Ev X 94 [dS s] [] (dB (dZ s)) []:=by
 refine Ev.bQ Tryz.func94 rfl λb=>?_
 by_cases a:s.length<=40
 .refine aC C4 [(5,ab)] 100 rfl ?_ (AK.bn rfl ?_)
  .simp[ag];omega
  .simp[ag,dZ,a]
 .refine aC C4 [(5,ae)] 100 rfl ?_ (AK.bn rfl ?_)
  .simp[ag];omega
  .simp[ag,dZ,a]
def clash(a b:Bs):Bool:=(a.length != b.length)&&(cB a 0==cB b 0)
def Mh(a b:Bs)(g:a≠[])(h:b≠[]):Ev X 95 [dS a,dS b] [] (dB (clash a b)) []:=by
 have d:=List.length_pos_iff.2 g;have f:=List.length_pos_iff.2 h;refine Ev.bQ Tryz.func95 rfl λi=>?_
 by_cases e:a.length=b.length
 .refine aX [(9,ae)] 100 rfl ?_ (AK.bn rfl ?_)
  .simp[ag,e]
  .simp[ag,clash,e]
 .refine aX [(9,ab)] 100 rfl ?_ (AK.bn rfl ?_)
  .simp[ag,d,f];omega
  .simp[ag,clash,e,cA]
end R1
end Go.AM
namespace Go.AM.R1
section
open Go.Proofs
variable {X:Cx ah}
def Y5:dk:=λargs σ=>match args,σ with
 |[.e (.one (.c (.str b)))],[]=>aa (dB (dw b),[],[])
 |_,_=>af
def t93:dM X 93 Y5:=by
 intro args σ res σ' obs h _;unfold Y5 at h;split at h
 .cases h;exact Iv _
 .cases h
def Wq:dk:=λargs σ=>match args,σ with
 |[.e (.one (.c (.str b)))],[]=>aa (dB (dZ b),[],[])
 |_,_=>af
def t94:dM X 94 Wq:=by
 intro args σ res σ' obs h _;unfold Wq at h;split at h
 .cases h;exact Iw _
 .cases h
def Y6:dk:=λargs σ=>match args,σ with
 |[.e (.one (.c (.str a))),.e (.one (.c (.str b)))],[]=>aa (dB (clash a b),[],[a≠[],b≠[]])
 |_,_=>af
def t95:dM X 95 Y6:=by
 intro args σ res σ' obs h a;unfold Y6 at h;split at h
 .cases h;exact Mh _ _ a.1 a.2
 .cases h
def ct2:List (Nat×dk):=(93,Y5)::(94,Wq)::(95,Y6)::ct1
def tH:bD X ct2:=bD.cons t93 (bD.cons t94 (bD.cons t95 C4))
def fz(t:List bC)(i:Nat):Bs:=(t.getD i ([],[])).1
def AJ(t:List bC)(i:Nat):Bs:=(t.getD i ([],[])).2
def gZ(t:List bC)(i:Nat):(t.getD i cF.bE).1=fz t i:=rfl
def pz(t:List bC)(i:Nat):(t.getD i cF.bE).2=AJ t i:=rfl
def gu(t:List bC)(i:Nat):Bool:=dw (fz t i)&&dZ (AJ t i)&&(i==0||bl (fz t (i-1)) (fz t i))&&(bh i).all λj=>!clash (fz t j) (fz t i)
def dq(t:List bC):Bool:=(bh t.length).all (gu t)&&decide (t.length<=6)
def cf{n:Nat}{p:Nat->Bool}:(bh n).all p=ab↔∀ i,i<n->p i=ab:=by simp[bu]
def qg{s:Bs}(h:dw s=ab):s≠[]:=by rintro rfl;simp[dw] at h
def lK{t:List bC}{i:Nat}(hi:i<t.length)(h:gu t i=ae):dq t=ae:=by
 cases a:dq t with
 |false=>rfl
 |true =>
  simp only[dq,bL] at a
  grind
def Ix(t:List bC):Ev X 53 [cF.sl t] [] (dB (dq t)) []:=by
 refine Ev.bQ Tryz.func53 rfl λu=>?_
 have s:=u.sl 0 rfl;refine aC tH [] 100 rfl av ?_;refine AK.wi (λi=>i<=t.length/\∀ j,j<i->gu t j=ab) (λi:Nat=>[(0,cF.sl t),(3,dI i)]) (λ_=>[]) (λi=>t.length-i) 0 rfl (by simp[ag.cat,ag,aP]) ⟨by omega,by omega⟩ rfl ?_
 rintro i ⟨hi,l⟩
 by_cases h:i<t.length
 .by_cases b:dw (fz t i)=ab
  .by_cases f:dZ (AJ t i)=ab
   .by_cases m:i=0∨bl (fz t (i-1)) (fz t i)=ab
    .apply AK.join [(0,cF.sl t),(3,dI i),(4,dI 0)] []
     .intro r
      by_cases c:i=0
      .refine aC tH [(8,ab),(16,ab),(24,ab),(29,ae)] 100 rfl ?_ (r _ _ rfl ?_)
       .simp[-ai,ag,h,gZ,pz,b,f];omega
       .simp[ag.cat,ag,aP]
      .have g:=m.resolve_left c;have d:bx .i64 ((i:Int)-1):=by simp only[bx];omega
       have n:((i:Int)-1).toNat=i-1:=by omega
       refine aC tH [(8,ab),(16,ab),(24,ab),(29,ab),(42,ae)] 100 rfl ?_ (r _ _ rfl ?_)
       .simp[-ai,ag,h,gZ,pz,b,f,g,d,n];omega
       .simp[ag.cat,ag,aP]
     ·
      have o:gu t i=(bh i).all (λj=>!clash (fz t j) (fz t i)):=by
       rcases m with rfl|g
       .simp[gu,b,f]
       .simp[gu,b,f,g]
      refine AK.wi (λj=>j<=i/\∀ p,p<j->clash (fz t p) (fz t i)=ae) (λj:Nat=>[(0,cF.sl t),(3,dI i),(4,dI j)]) (λ_=>[]) (λj=>i-j) 0 rfl (by simp[ag.cat,ag,aP]) ⟨by omega,by omega⟩ rfl ?_
      rintro j ⟨w,v⟩
      by_cases a:j<i
      .have k:dw (fz t j)=ab:=by
        have:=l j a;simp only[gu,bL] at this;exact this.1.1.1
       cases q:clash (fz t j) (fz t i) with
       |true =>
        refine aC tH [(47,ab),(60,ab)] 100 rfl ?_ (AK.gK (AK.r8 (b6.zero rfl ?_)))
        .simp[-ai,ag,h,a,gZ,q,qg b,qg k];omega
        .have:gu t i=ae:=by
          grind
         simp[ag,lK h this]
       |false =>
        refine aC tH [(47,ab),(60,ae)] 100 rfl ?_ (AK.again (j+1) rfl ?_ ?_ ?_ rfl)
        .simp[-ai,ag,h,a,gZ,q,qg b,qg k,bx];omega
        .simp[ag.cat,ag,aP]
        .grind
        .omega
      .have a:j=i:=by omega
       subst a;refine aC tH [(47,ae)] 100 rfl (by simp[ag]) (AK.leave rfl rfl ?_)
       refine aC tH [] 100 rfl ?_ (AK.again (j+1) rfl ?_ ?_ ?_ rfl)
       .simp[ag,bx];omega
       .simp[ag.cat,ag,aP]
       .grind
       .omega
    .have c:i≠0:=λe=>m (.inl e)
     have g:bl (fz t (i-1)) (fz t i)=ae:=by simpa usingλe=>m (.inr e)
     have d:bx .i64 ((i:Int)-1):=by simp only[bx];omega
     have n:((i:Int)-1).toNat=i-1:=by omega
     refine aC tH [(8,ab),(16,ab),(24,ab),(29,ab),(42,ab)] 100 rfl ?_ (AK.gK (b6.zero rfl ?_))
     .simp[-ai,ag,h,gZ,pz,b,f,g,d,n];omega
     .simp[ag,lK h (by simp[gu,c,g])]
   .refine aC tH [(8,ab),(16,ab),(24,ae)] 100 rfl ?_ (AK.gK (b6.zero rfl ?_))
    .simp[-ai,ag,h,gZ,pz,b,f]
    .simp[ag,lK h (by simp[gu,f])]
  .refine aC tH [(8,ab),(16,ae)] 100 rfl ?_ (AK.gK (b6.zero rfl ?_))
   .simp[-ai,ag,h,gZ,b]
   .simp[ag,lK h (by simp[gu,b])]
 .refine aC tH [(8,ae)] 100 rfl (by simp[ag];omega) (AK.leave rfl rfl ?_)
  refine aC tH [] 100 rfl av (AK.bn rfl ?_);simp only[ag,dq]
  grind
end
end Go.AM.R1
namespace Go.AM
section
open Go.Conc (G)
def Hb(σ σ':List aV):Prop:=∀ (s:St),aJ σ s->aJ σ' s/\Step σ s σ' s/\∀ (v:ak)(d:D),dc σ s v d->dc σ' s v d
def XM:aV->aV->Option (List Prop)
 |.vec E k n es,.vec E' k' n' es'=>match aG E E',aG k k' with
  |true,ab=>aa [n=n',aP n es es']
  |_,_=>af
 |.cells E cs,.cells E' mc=>match aG E E' with
  |true=>P5 cs mc
  |false=>af
 |.dead,.dead=>aa []
 |.dD H,.dD H'=>aa [H=H']
 |.loop N φ r,.loop N' φ' r'=>aa [aV.loop N φ r=aV.loop N' φ' r']
 |.qV,.qV=>aa []
 |.buf E k n es,.buf E' k' n' es'=>match aG E E',aG k k' with
  |true,ab=>aa [n=n',aP n es es']
  |_,_=>af
 |_,_=>af
def tf:List aV->List aV->Option (List Prop)
 |[],[]=>aa []
 |a::r,b::q=>match XM a b with
  |some p=>match tf r q with
   |some ps=>aa (ko p ps)
   |none=>af
  |none=>af
 |_,_=>af
def N1(B B':aV):Prop :=
 (∀ E k n es,B=.vec E k n es->∃ es',B'=.vec E k n es'/\aP n es es')/\((∀ E k n es,B≠.vec E k n es)->(∀ E k n es,B'≠.vec E k n es)/\(B=B'∨(∃ E cs mc,B=.cells E cs/\B'=.cells E mc/\∀ σ s vs,dW σ s vs cs->dW σ s vs mc)∨∃ E k n es es',B=.buf E k n es/\B'=.buf E k n es'/\aP n es es'))
theorem Ro{B B':aV}{ps:List Prop}(h:XM B B'=aa ps)(b:ag ps):N1 B B':=by
 unfold XM at h;split at h
 .rename_i E k n es E' k' n' es'
  split at h
  .rename_i a g
   cases h;have d:=bX a;have i:=bX g;obtain⟨j,l⟩:n=n'/\aP n es es':=b;subst d i j;refine⟨λE0 k0 n0 VR he=>?_,λo=>absurd rfl (o _ _ _ _)⟩
   grind
  grind
 .rename_i E cs E' mc
  split at h
  .rename_i a
   have d:=bX a;subst d;exact⟨λ_ _ _ _ he=>(by cases he),λ_=>⟨λ_ _ _ _ he=>(by cases he),.inr (.inl ⟨E,cs,mc,rfl,rfl,λσ s vs r=>Ea h b r⟩)⟩⟩
  grind
 .exact⟨λ_ _ _ _ he=>(by cases he),λ_=>⟨λ_ _ _ _ he=>(by cases he),.inl rfl⟩⟩
 .cases h
  rename_i H H'
  have e:H=H':=b;subst e;exact⟨λ_ _ _ _ he=>(by cases he),λ_=>⟨λ_ _ _ _ he=>(by cases he),.inl rfl⟩⟩
 .cases h
  rename_i N φ r m f r'
  have e:aV.loop N φ r=aV.loop m f r':=b;exact⟨λ_ _ _ _ he=>(by cases he),λ_=>⟨λ_ _ _ _ he=>(by cases he),.inl e⟩⟩
 .exact⟨λ_ _ _ _ he=>(by cases he),λ_=>⟨λ_ _ _ _ he=>(by cases he),.inl rfl⟩⟩
 .rename_i E k n es E' k' n' es'
  split at h
  .rename_i a g
   cases h;have d:=bX a;have i:=bX g;obtain⟨j,l⟩:n=n'/\aP n es es':=b;subst d i j;exact⟨λ_ _ _ _ he=>(by cases he),λ_=>⟨λ_ _ _ _ he=>(by cases he),.inr (.inr ⟨E,k,n,es,es',rfl,rfl,l⟩)⟩⟩
  grind
 grind
def BX:∀ {σ σ':List aV}{ps:List Prop},tf σ σ'=aa ps->ag ps->σ'.length=σ.length/\∀ (l:Nat)(B B':aV),σ[l]?=aa B->σ'[l]?=aa B'->N1 B B'
 |[],[],_,_,_=>⟨rfl,λl B B' h=>by grind⟩
 |[],_::_,_,h,_=>by cases h
 |_::_,[],_,h,_=>by cases h
 |a::r,b::q,ps,h,d=>by
  simp only[tf] at h;split at h
  .rename_i p f
   split at h
   .rename_i p2 h2
    cases h;rw[ag.cat] at d;obtain⟨e,g⟩:=BX h2 d.2
    grind [Ro]
   grind
  grind
def lF{σ σ':List aV}{ps:List Prop}(h:tf σ σ'=aa ps)(hp:ag ps):Hb σ σ':=by
 obtain⟨hl,hg⟩:=BX h hp;intro s J;have S:∀ (l:Nat) (B:aV),σ[l]?=aa B->∃ B',σ'[l]?=aa B'/\N1 B B':=by
  grind
 have get:∀ (l:Nat) (B':aV),σ'[l]?=aa B'->∃ B,σ[l]?=aa B/\N1 B B':=by
  grind
 have i:∀ (l:Nat),(∀ B,σ[l]?=aa B->B.gr=ae)->∀ B,σ'[l]?=aa B->B.gr=ae:=by
  intro l hn B' he;obtain⟨B,G,m⟩:=get l _ he;have q:=hn B G;rcases(m.2 (λE k n es e=>by rw[e] at q;cases q)).2 with rfl|⟨E,cs,I,rfl,rfl,_⟩|⟨E,k,n,es,es',rfl,rfl,_⟩
  .exact q
  .rfl
  .cases q
 have Y:∀ (l:Nat) E k n es,σ'[l]?=aa (aV.buf E k n es)->∃ es',σ[l]?=aa (aV.buf E k n es'):=by
  intro l E k n es he;obtain⟨B,G,m⟩:=get l _ he
  by_cases p:∃ E k n es,B=aV.vec E k n es
  .obtain⟨E1,k1,n1,U,rfl⟩:=p;obtain⟨es',f,_⟩:=m.1 _ _ _ _ rfl;cases f
  .rcases(m.2 (λE k n es e=>p ⟨E,k,n,es,e⟩)).2 with rfl|⟨E,cs,I,rfl,h,_⟩|⟨E,k,n,es,es',rfl,h,_⟩
   .grind
   .cases h
   grind
 have C:∀ (l:Nat) E k n es,σ'[l]?=aa (aV.vec E k n es)->∃ es',σ[l]?=aa (aV.vec E k n es'):=by
  intro l E k n es he;obtain⟨B,G,m⟩:=get l _ he
  by_cases p:∃ E k n es,B=aV.vec E k n es
  .obtain⟨E1,k1,n1,U,rfl⟩:=p;obtain⟨es',f,_⟩:=m.1 _ _ _ _ rfl
   grind
  .exact absurd rfl ((m.2 (λE k n es e=>p ⟨E,k,n,es,e⟩)).1 E k n es)
 have M:∀ (v:ak) (a:A),gx σ s v a->gx σ' s v a:=by
  intro v a r;cases a with
  |c x=>exact r
  |ptr l o=>exact⟨i l r.1,r.2⟩
  |vec l k n es =>
   refine⟨r.1,by rw[hl];exact r.2.1,λE k' n' es' he=>?_⟩
   obtain⟨W,g⟩:=C l E k' n' es' he;exact r.2.2 E k' n' W g
  |ref l=>exact⟨i l r.1,r.2⟩
  |bp l w =>
   obtain⟨lv,r1,r2,r3⟩:=r;refine⟨lv,r1,by grind,λE k' n' es' he=>?_⟩
   grind
  |any=>exact r
 have u:∀ (vs:List ak) (cs:List A),dW σ s vs cs->dW σ' s vs cs:=by
  intro vs
  induction vs with
  |nil=>intro cs r;cases cs with|nil=>trivial|cons _ _=>exact r.elim
  |cons v vs ih=>intro cs r;cases cs with|nil=>exact r.elim|cons c cs=>exact⟨M _ _ r.1,ih _ r.2⟩
 have O:∀ (v:ak) (e:E1),mY σ s v e->mY σ' s v e:=by
  intro v e r;cases e with
  |one a=>exact M _ _ r
  |agg cs=>obtain⟨vs,f,g⟩:=r;exact⟨vs,f,u _ _ g⟩
 have R:∀ (vs:List ak) (cs:List E1),gJ σ s vs cs->gJ σ' s vs cs:=by
  intro vs
  induction vs with
  |nil=>intro cs r;cases cs with|nil=>trivial|cons _ _=>exact r.elim
  |cons v vs ih=>intro cs r;cases cs with|nil=>exact r.elim|cons c cs=>exact⟨O _ _ r.1,ih _ r.2⟩
 have Q:∀ (v:ak) (d:D),dc σ s v d->dc σ' s v d:=by
  intro v d r;cases d with
  |e x=>exact O _ _ r
  |eK xs=>obtain⟨vs,f,g⟩:=r;exact⟨vs,f,R _ _ g⟩
  |any=>trivial
 refine⟨⟨J.mem,by rw[J.len,hl],?_,J.gg,J.lt,J.own⟩,⟨bg _,λ_ _ _=>rfl,λ_ _ _ h=>h,λ_ _ _ _=>rfl,λL h b j=>.inr ⟨L,h,j⟩,?_,rfl,rfl,rfl,rfl⟩,Q⟩
 .intro l B' L y Z;obtain⟨B,G,m⟩:=get l B' y;have j:=J.box l B L G Z
  by_cases p:∃ E k n es,B=aV.vec E k n es
  .obtain⟨E,k,n,es,rfl⟩:=p;obtain⟨es',rfl,he⟩:=m.1 _ _ _ _ rfl;refine⟨j.1.DF he,?_⟩;rcases j.2 with⟨f,g⟩|f
   .exact .inl ⟨f,g.DF he⟩
   grind
  .rcases(m.2 (λE k n es e=>p ⟨E,k,n,es,e⟩)).2 with rfl|⟨E,cs,I,rfl,rfl,T⟩|⟨E,k,n,es,es',rfl,rfl,T⟩
   .cases B with
    |cells E cs=>obtain⟨b,vs,f,g,F,z⟩:=j;exact⟨b,vs,f,g,u _ _ F,z⟩
    |vec E k n es=>grind
    |dD H=>exact j
    |dead=>trivial
    |loop N φ r=>obtain⟨l,tmps,fn,df,f,g,F,z,V⟩:=j;exact⟨l,tmps,fn,df,f,g,F,λt=>Q _ _ (z t),V⟩
    |qV=>exact j
    |buf E k n es=>exact j
   .obtain⟨b,vs,f,g,F,z⟩:=j;exact⟨b,vs,f,g,u _ _ (T _ _ _ F),z⟩
   .rcases j with j|⟨b,c0,vs,zs,f,g,F,z,V,h6,h7⟩
    .exact .inl j
    .exact .inr ⟨b,c0,vs,zs,f,g,F,z,V,h6.DF T,h7⟩
 .intro l B L G Z;obtain⟨B',y,m⟩:=S l B G;refine⟨B',L,y,Z,?_⟩
  by_cases p:∃ E k n es,B=aV.vec E k n es
  .obtain⟨E,k,n,es,rfl⟩:=p;obtain⟨es',rfl,he⟩:=m.1 _ _ _ _ rfl;exact⟨λ_=>rfl,bg _⟩
  .rcases(m.2 (λE k n es e=>p ⟨E,k,n,es,e⟩)).2 with rfl|⟨E,cs,I,rfl,rfl,T⟩|⟨E,k,n,es,es',rfl,rfl,_⟩
   .exact ij.refl _ _
   .exact rfl
   .exact⟨λ_=>rfl,bg _⟩
section
variable {P:aq}{X:Cx P}{N:Nat}{Qf:Post}{K:List It}{φ:Fr}{σ:List aV}{c:Code}
theorem AW.ghost{Q:Post}{d:Fr}{σ':List aV}(h:∀ s a,cx N σ s φ a->aJ σ s->∃ s':St,s'.w=s.w/\cx N σ' s' d a/\aJ σ' s'/\Step σ s σ' s')(k:AW X N c Q d σ'):AW X N c Q φ σ:=by
 intro s a l hh b kk cs S hb hQ;obtain⟨s',n,j,g,st⟩:=h s a l hh;have f:=st.oG hh;refine .ghost (.of hh g n f) ?_;exact k s' a j g b kk cs S hb λe i σ2 s2 a2 q m h2 oB=>hQ e i σ2 s2 a2 q m h2 (f.trans oB)
theorem AK.ghost{b:Fr}{σ':List aV}(h:∀ s a,cx N σ s φ a->aJ σ s->∃ s':St,s'.w=s.w/\cx N σ' s' b a/\aJ σ' s'/\Step σ s σ' s')(k:AK X N Qf (.code c::K) .normal b σ'):AK X N Qf (.code c::K) .normal φ σ :=
 AW.ghost h k
def cx.bs{σ':List aV}{s:St}{a:Act}(hb:Hb σ σ')(f:cx N σ s φ a)(hh:aJ σ s):cx N σ' s φ a:=⟨f.size,f.defers.imp λ_ h1=>h1.mono (hb s hh).2.1.ext,λt=>(hb s hh).2.2 _ _ (f.slot t)⟩
def AK.norm(σ':List aV){ps:List Prop}(h:tf σ σ'=aa ps)(b:ag ps)(k:AK X N Qf (.code c::K) .normal φ σ'):AK X N Qf (.code c::K) .normal φ σ :=
 AK.ghost (λs a d hh=>⟨s,rfl,d.bs (lF h b) hh,(lF h b s hh).1,(lF h b s hh).2.1⟩) k
def AK.iu(t:Nat)(E:ar)(k:Nat){k' n:Nat}{es:Nat->List C}(h:look φ t=.e (.one (.c (.sl ab k' n es))))(hn:n=0)
  (kk:AK X N Qf (.code c::K) .normal ((t,.e (.one (.vec σ.length k n es)))::φ) (σ++[.vec E k n es])):AK X N Qf (.code c::K) .normal φ σ:=by
 refine AK.ghost (λs a b hh=>?_) kk
 have f:=b.slot t;rw[h] at f;have h1:=Rd.uX (k:=k') (k':=k) (.inr hn) (fy f);have d:eP (σ++[.vec E k n es]) { s with β:=s.β++[⟨a.tmps.getD t aj,[]⟩] } (.vec E k n es) ⟨a.tmps.getD t aj,[]⟩:=⟨h1.loose,.inl ⟨⟨rfl,hn⟩,h1⟩⟩;obtain⟨g,g2⟩:=hh.gT (.refl _ _) rfl hh d (by simp)
 refine⟨{ s with β:=s.β++[⟨a.tmps.getD t aj,[]⟩] },rfl,⟨b.size,b.defers.imp λ_ h1=>h1.mono g2.ext,λu=>?_⟩,g,g2⟩
 simp only[look];cases hb:aG t u with
 |false=>exact(b.slot u).mono g2.ext hh.len
 |true =>
  have e:=bX hb;subst e;exact pP (L:=⟨a.tmps.getD t aj,[]⟩) (by simp) (by simp[<-hh.len]) d
def AK.jP{S:Type}(I:S->Prop)(fr:S->Fr)(st:S->List aV)(k:S->Nat)(x:S){ps qs:List Prop}(v:qF φ (fr x)=aa ps)(D:ag ps)(t:tf σ (st x)=aa qs)(E:ag qs)(F:I x)
  (round:∀ x,I x->AK X N (λe g σ'=>match e with
   |.normal=>∃ y,I y/\k y<k x/\o8 g (fr y)/\Hb σ' (st y)
   |e=>AK X N Qf K e g σ') [.code c] .normal (fr x) (st x)):AK X N Qf (.code (.loop c)::K) .normal φ σ:=by
 intro s a G hh b kk cs SS hb hQ;have i:=lF t E;obtain⟨m,u,_⟩:=i s hh;refine wj (λn a' s'=>∃ y,I y/\cx N (st y) s' (fr y) a'/\aJ (st y) s'/\cD σ s (st y) s'/\k y=n) ?_ ?_ ⟨x,F,(G.le (dh v D)).bs i hh,m,u.oG hh,rfl⟩
 .rintro n a' s' ⟨y,r,o,f,d,e⟩;exact⟨st y,f,λJ h1=>⟨y,r,o.rely h1 f,f.rely h1,d.trans h1.stepW,e⟩⟩
 rintro n a' s' ⟨y,r,o,f,d,rfl⟩ H;refine round y r s' a' o f b (.inLoop c::kk) cs SS hb ?_;intro e B σ2 s2 a2 q A h2 oB;cases e with
 |normal =>
  obtain⟨z,C,l,h,j⟩:=q;obtain⟨w,p,_⟩:=j s2 h2;exact H a2 s2 (k z) l ⟨z,C,(A.le h).bs j h2,w,d.trans (oB.trans (p.oG h2)),rfl⟩
 |_=>exact ends.cons (λ_ _=>rfl) (by simp) (hQ _ _ _ _ _ q A h2 (d.trans oB))
def AK.fW{S:Type}{I:S->Prop}{fr:S->Fr}{st:S->List aV}{b:S->Nat}{x:S}{Qr:Post}(y:S){ps qs:List Prop}(d:qF φ (fr y)=aa ps)(i:ag ps)(g:tf σ (st y)=aa qs)(j:ag qs)(h:I y)(f:b y<b x) :
  AK X N (λe a σ'=>match e with
   |.normal=>∃ y,I y/\b y<b x/\o8 a (fr y)/\Hb σ' (st y)
   |e=>Qr e a σ') [] .normal φ σ:=⟨y,h,f,dh d i,lF g j⟩
end
def Ev.forget{P:aq}{X:Cx P}{f:aW}{args:List D}{res res':D}{σ':List aV}(h:Ev X f args [] res σ'){ps:List Prop}(g:Dt res res'=aa ps)(j:ag ps)(a:u7 0 res'=ab):Ev X f args [] res' []:=by
 refine⟨h.1,λs vs hr hh S cs hS=>h.2 s vs hr hh S cs λfr v e hl hv h1 st=>?_⟩
 have m:s.β=[]:=hZ hh.len;have i:eR e { e with β:=[] }:=⟨rfl,λ_ _ _ h=>h,λ_ _ _=>rfl,h1.mem,λb hb=>.inl (by
  grind)⟩
 refine .ghost i (hS fr v { e with β:=[] } (hl.mono λ_ _ _ h=>h) ?_ ⟨h1.mem,rfl,by simp,by simp,by simp,λb hb=>⟨(h1.own b hb).1,by simp⟩⟩ ⟨st.size,st.eN,st.mem,st.jz,by simp,λl B L k=>by grind,st.os,st.tape,st.output,st.own⟩)
 .have h2:=qA g j hv;have:=dc.sub (ks:=[]) (σ:=σ') (σ':=[]) (s:=e) (β':=[]) (d:=res') rfl rfl (by rw[BY a];exact h2) a
  exact this
end
def cz.imp{σ:List aV}{s:St}{d a:D}{ds FE:List D}(h:∀ v,dc σ s v d->dc σ s v a)(k:∀ vs,cz σ s vs ds->cz σ s vs FE):∀ vs,cz σ s vs (d::ds)->cz σ s vs (a::FE)
 |[],r=>r.elim
 |v::vs,r=>⟨h v r.1,k vs r.2⟩
abbrev dP(f:bC):D:=.e (.agg [.c (.str f.1),.c (.str f.2)])
abbrev Gf(a:List bC)(b:Bool):D:=.eK [.one (.c (.sl ae 2 a.length (cF.fn a))),.one (.c (.bool b))]
namespace R1
open Go.Proofs
variable {X:Cx ah}
def Tt:dk:=λargs σ=>match args,σ with
 |[c],[]=>match kR 2 c with
  |none=>af
  |some (b,a)=>aa (dB (dq (cF.list b a)),[],[cF.fits b a])
 |_,_=>af
def t53:dM X 53 Tt:=by
 intro args σ res σ' obs h b;unfold Tt at h;split at h
 .split at h
  .cases h
  rename_i d c a
  cases h;exact(Ix _ ).args (λ_ vs=>cz.imp (λ_=>cF.jS a b) (λ_ r=>r) vs)
 .cases h
def ct3:List (Nat×dk):=(53,Tt)::ct2
def Y7:bD X ct3:=bD.cons t53 tH
end R1
def hY.cq{α:Type}(c:hY α)(l:List α)(x:α):aP (l.length+1) (cR l.length (c.fn l) (λi=>[c.enc x].getD i [])) (c.fn (l++[x])):=by
 intro i hi;unfold cR hY.fn sQ
 by_cases h:i<l.length
 .simp[h,ai,jD h]
 .have e:i=l.length:=by omega
  subst e;simp[ai]
def aP.same{n:Nat}{f:Nat->List C}:aP n f f:=λ_ _=>rfl
def aP.nil{f g:Nat->List C}:aP 0 f g:=λi h=>by omega
namespace R1
open Go.Proofs
variable {X:Cx ah}
def ct5:List (Nat×dk):=ct3
def Y8:bD X ct5:=Y7
end R1
end Go.AM
namespace Go.AM.R1
section
open Go.Proofs
variable {X:Cx ah}
def qT(f:bC)(acc:List bC×Bool)(g:Bs):List bC×Bool:=if acc.2=ab then acc else if bl g f.1=ab then acc else (acc.1++[f],ab)
def Pc(f:bC)(a:List bC×Bool)(g:bC):List bC×Bool:=if g.1=f.1 then a else (a.1++[g],a.2)
def oi(f:bC)(acc:List bC×Bool)(g:bC):List bC×Bool:=Pc f (qT f acc g.1) g
def lq(f:bC)(t:List bC):List bC×Bool:=t.foldl (oi f) ([],ae)
def sI(t:List bC)(f:bC):List bC:=if (lq f t).2=ab then (lq f t).1 else (lq f t).1++[f]
theorem fileAt{t:List bC}{i:Nat}(h:i<t.length):t[i]=(fz t i,AJ t i):=by
 have e:t.getD i ([],[])=t[i]:=by grind
 simp only[fz,AJ,e]
def C7{f:bC}{t:List bC}{i:Nat}(h:i<t.length):lq f (t.take (i+1))=oi f (lq f (t.take i)) (fz t i,AJ t i):=by
 rw[j7,br h,fileAt h];simp[lq]
def C8(f:bC)(acc:List bC×Bool)(g:Bs):(qT f acc g).1.length<=acc.1.length+1:=by
 unfold qT
 grind
def Mn(f:bC)(acc:List bC×Bool)(g:bC):(Pc f acc g).1.length<=acc.1.length+1:=by
 unfold Pc;split
 .omega
 .simp
def xn(f:bC):∀ (t:List bC)(acc:List bC×Bool),(t.foldl (oi f) acc).1.length<=acc.1.length+2*t.length
 |[],acc=>by simp
 |g::r,acc=>by
  have b:=xn f r (oi f acc g);have c:=C8 f acc g.1;have a:=Mn f (qT f acc g.1) g;simp only[jk,fa];have:(oi f acc g).1.length<=acc.1.length+2:=by unfold oi;omega
  omega
abbrev dV(l:Nat)(t:List bC):D:=.e (.one (.vec l 2 t.length (cF.fn t)))
abbrev bV(t:List bC):aV:=.vec 60 2 t.length (cF.fn t)
def Pd(t:List bC)(f:bC)(w:t.length<=4000000):Ev X 156 [cF.sl t,dP f] [] (dV 0 (sI t f)) [bV (sI t f)]:=by
 refine Ev.bQ Tryz.func156 rfl λv=>?_
 refine bk rfl av ?_;refine AK.iu 5 60 2 rfl rfl ?_
 let A:Nat->List bC×Bool:=λi=>lq f (t.take i)
 have d:∀ i,i<=t.length->(A i).1.length<=8000000:=by
  intro i hi;have:=xn f (t.take i) ([],ae);simp at this;show (lq f (t.take i)).1.length<=_;unfold lq;omega
 refine AK.jP (λi=>i<=t.length) (λi:Nat=>[(0,cF.sl t),(3,.e (.one (.ptr 0 0))),(7,dI i),(5,dV 1 (A i).1),(6,dB (A i).2)]) (λi=>[.cells 60 [.c (.str f.1),.c (.str f.2)],bV (A i).1]) (λi=>t.length-i) 0 rfl ?_ rfl ?_ (by omega) ?_
 .simp[ag.cat,ag,aP,A,lq]
 .simp[ag.cat,ag,aP,A,lq]
 intro i hi
 by_cases h:i<t.length
 .have s:A (i+1)=oi f (A i) (fz t i,AJ t i):=C7 h;have u:=d i hi;generalize A i=acc at *;have r:=C8 f acc (fz t i)
  apply AK.join [(0,cF.sl t),(3,.e (.one (.ptr 0 0))),(7,dI i),(5,dV 1 (qT f acc (fz t i)).1),(6,dB (qT f acc (fz t i)).2)] [.cells 60 [.c (.str f.1),.c (.str f.2)],bV (qT f acc (fz t i)).1]
  .intro k;cases a:acc.2 with
   |true =>
    have n:qT f acc (fz t i)=acc:=by unfold qT;rw[bd a]
    rw[n] at k;refine aX [(12,ab),(15,ab),(1000009,ab)] 200 rfl ?_ (k _ _ rfl ?_)
    .simp[ag,h]
    .simp[ag,ag.cat,aP.same,a]
   |false =>
    cases g:bl (fz t i) f.1 with
    |true =>
     have n:qT f acc (fz t i)=acc:=by unfold qT;rw[a,g];rfl
     rw[n] at k;refine aX [(12,ab),(15,ae),(25,ae),(1000009,ab)] 200 rfl ?_ (k _ _ rfl ?_)
     .simp[-ai,ag,h,gZ,g]
     .simp[ag,ag.cat,aP.same,a]
    |false =>
     have n:qT f acc (fz t i)=(acc.1++[f],ab):=by unfold qT;rw[a,g];rfl
     rw[n] at k;refine aX [(12,ab),(15,ae),(25,ab),(1000009,ab)] 200 rfl ?_ (AK.norm _ rfl ?_ (k _ _ rfl ?_))
     .simp[-ai,ag,h,gZ,g,i60];omega
     .simp[-ai,ag.cat,ag];exact cF.cq _ f
     .simp[-ai,ag.cat,ag,aP.same];exact cF.cq _ f
  .have m:A (i+1)=Pc f (qT f acc (fz t i)) (fz t i,AJ t i):=s;generalize qT f acc (fz t i)=a1 at *
   by_cases o:fz t i=f.1
   .have b:A (i+1)=a1:=by rw[m];exact bd o
    refine aX [(38,ae)] 200 rfl ?_ (AK.fW (i+1) rfl ?_ rfl ?_ ?_ ?_)
    .simp[-ai,ag,h,gZ,o,bx];omega
    .rw[b];simp[ag,ag.cat,aP.same]
    .rw[b];simp[ag,ag.cat,aP.same]
    .omega
    .omega
   .have b:A (i+1)=(a1.1++[(fz t i,AJ t i)],a1.2):=by rw[m];exact aY o
    refine aX [(38,ab)] 200 rfl ?_ (AK.fW (i+1) rfl ?_ rfl ?_ ?_ ?_)
    .simp[-ai,ag,h,gZ,o,bx,i60];omega
    .rw[b];simp[-ai,ag.cat,ag,aP.same];exact cF.cq _ (fz t i,AJ t i)
    .rw[b];simp[-ai,ag.cat,ag];exact cF.cq _ (fz t i,AJ t i)
    .omega
    .omega
 .have:i=t.length:=by omega
  subst this;have q:A t.length=lq f t:=by grind
  have u:=d t.length (bg _);refine aX [(12,ae)] 100 rfl (by simp[ag]) (AK.leave rfl rfl ?_)
  have l:sI t f=if (A t.length).2=ab then (A t.length).1 else (A t.length).1++[f]:=by rw[q];rfl
  cases a:(A t.length).2 with
  |true =>
   rw[a,bd rfl] at l;refine aX [(46,ab)] 100 rfl ?_ (AK.norm [.cells 60 [.c (.str f.1),.c (.str f.2)],bV (sI t f)] rfl ?_ (AK.dJ [1] rfl ?_ rfl rfl rfl ?_))
   .simp[ag]
   .rw[l];simp[ag,ag.cat,aP.same]
   .rw[l];simp[ag,aP.same]
   .intro j p;simp at p
  |false =>
   rw[a,aY (by simp)] at l
   refine aX [(46,ae)] 100 rfl ?_ (AK.norm [.cells 60 [.c (.str f.1),.c (.str f.2)],bV (sI t f)] rfl ?_ (AK.dJ [1] rfl ?_ rfl rfl rfl ?_))
   .simp[ag,i60];omega
   .rw[l];simp[-ai,ag,ag.cat];exact cF.cq _ f
   .rw[l];simp[-ai,ag];exact cF.cq _ f
   .intro j p;simp at p
end
end Go.AM.R1
namespace Go.AM
def aP.app0{n:Nat}{f g:Nat->List C}:aP n (cR 0 f g) g:=λi _=>by simp[cR]
namespace R1
open Go.Proofs
variable {X:Cx ah}
def SL:dk:=λargs σ=>match args,σ with
 |[d,.e (.agg [.c (.str b0),.c (.str b1)])],[]=>match kR 2 d with
  |none=>af
  |some (b,a)=>aa (dV 0 (sI (cF.list b a) (b0,b1)) ,[ bV (sI (cF.list b a) (b0,b1))],[cF.fits b a,((cF.list b a)).length<=4000000])
 |_,_=>af
def t156:dM X 156 SL:=by
 intro args σ res σ' obs h a;unfold SL at h;split at h
 .split at h
  .cases h
  rename_i d c b
  cases h;exact(Pd _ _ (a.2)).args (λ_ vs=>cz.imp (λ_=>cF.jS b a.1) (cz.imp (λ_ r=>r) (λ_ r=>r)) vs)
 .cases h
def ct6:List (Nat×dk):=(156,SL)::ct5
def Iz:bD X ct6:=bD.cons t156 (Y8)
def fD(t:List bC)(p x:Bs):List bC×Bool :=
 if dq t=ab/\dw p=ab/\dZ x=ab then (if dq (sI t (p,x))=ab then (sI t (p,x),ab) else (t,ae)) else ([],ae)
abbrev tVB(l:Nat)(t:List bC)(b:Bool):D:=.eK [.one (.vec l 2 t.length (cF.fn t)),.one (.c (.bool b))]
def xm{t:List bC}(h:dq t=ab):t.length<=6:=by
 simp only[dq,bL,ba] at h;exact h.2
def uu(t:List bC)(p x:Bs):Ev X 98 [cF.sl t,dS p,dS x] [] (tVB 0 (fD t p x).1 (fD t p x).2) [bV (fD t p x).1]:=by
 refine Ev.bQ Tryz.func98 rfl λi=>?_
 have c:¬(dq t=ab/\dw p=ab/\dZ x=ab)->fD t p x=([],ae):=λh=>aY h
 cases b:dq t with
 |false =>
  rw[c (by simp[b])]
  refine aC Iz [(10,ae)] 100 rfl ?_ ?_
  .simp[ag,cF.list_fn,cF.aH,b]
  .refine AK.iu 6 60 2 rfl rfl (AK.norm [bV []] rfl ?_ (AK.dJ [0] rfl ?_ rfl rfl rfl ?_))
   .simp[ag,ag.cat,aP]
   .simp[ag,ag.cat,aP]
   .intro j a;simp at a
 |true =>
  have k:=xm b;cases d:dw p with
  |false =>
   rw[c (by simp[d])]
   refine aC Iz [(10,ab),(14,ae)] 100 rfl ?_ ?_
   .simp[ag,cF.list_fn,cF.aH,b,d]
   .refine AK.iu 6 60 2 rfl rfl (AK.norm [bV []] rfl ?_ (AK.dJ [0] rfl ?_ rfl rfl rfl ?_))
    .simp[ag,ag.cat,aP]
    .simp[ag,ag.cat,aP]
    .intro j a;simp at a
  |true =>
   cases e:dZ x with
   |false =>
    rw[c (by simp[e])]
    refine aC Iz [(10,ab),(14,ab),(19,ae)] 100 rfl ?_ ?_
    .simp[ag,cF.list_fn,cF.aH,b,d,e]
    .refine AK.iu 6 60 2 rfl rfl (AK.norm [bV []] rfl ?_ (AK.dJ [0] rfl ?_ rfl rfl rfl ?_))
     .simp[ag,ag.cat,aP]
     .simp[ag,ag.cat,aP]
     .intro j a;simp at a
   |true =>
    have g:fD t p x=if dq (sI t (p,x))=ab then (sI t (p,x),ab) else (t,ae):=bd ⟨b,d,e⟩
    cases f:dq (sI t (p,x)) with
    |true =>
     rw[f,bd rfl] at g;rw[g];refine aC Iz [(10,ab),(14,ab),(19,ab),(29,ab)] 100 rfl ?_ (AK.norm [bV (sI t (p,x))] rfl ?_ (AK.dJ [0] rfl ?_ rfl rfl rfl ?_))
     .simp[ag,cF.list_fn,cF.aH,b,d,e,f];omega
     .simp[ag,ag.cat,cF.list_fn,aP.same]
     .simp[ag,ag.cat,cF.list_fn,aP.same]
     .intro j a;simp at a
    |false =>
     rw[f,aY (by simp)] at g
     rw[g];refine aC Iz [(10,ab),(14,ab),(19,ab),(29,ae)] 100 rfl ?_ (AK.norm [bV (sI t (p,x)),bV t] rfl ?_ (AK.dJ [1] rfl ?_ rfl rfl rfl ?_))
     .simp[ag,cF.list_fn,cF.aH,b,d,e,f,i60];omega
     .simp[ag,ag.cat,cF.list_fn,aP.same,aP.app0]
     .simp[ag,ag.cat,aP.app0]
     .intro j a;simp at a
def Fg(t:List bC)(p x:Bs):Ev X 98 [cF.sl t,dS p,dS x] [] (Gf (fD t p x).1 (fD t p x).2) [] :=
 (uu t p x).forget rfl (by simp[ag,ag.cat,aP.same]) rfl
def Y9:dk:=λargs σ=>match args,σ with
 |[f,.e (.one (.c (.str b))),.e (.one (.c (.str c)))],[]=>match kR 2 f with
  |none=>af
  |some (d,a)=>aa (Gf (fD (cF.list d a) b c).1 (fD (cF.list d a) b c).2,[],[cF.fits d a])
 |_,_=>af
def t98:dM X 98 Y9:=by
 intro args σ res σ' obs h b;unfold Y9 at h;split at h
 .split at h
  .cases h
  rename_i d c a
  cases h;exact(Fg _ _ _ ).args (λ_ vs=>cz.imp (λ_=>cF.jS a b) (cz.imp (λ_ r=>r) (cz.imp (λ_ r=>r) (λ_ r=>r))) vs)
 .cases h
def ct7:List (Nat×dk):=(98,Y9)::ct6
def Za:bD X ct7:=bD.cons t98 (Iz)
end R1
end Go.AM
namespace Go.AM.R1
def dl(s:Bs)(i:Nat):Int:=(cB s i-97) % 256
def ld(t:Bs)(e:Nat):Bool:=(dl t (e-1)+2*dl t (e-2)+3*dl t (e-3)) % 5==0
def tn(t:Bs)(f:Nat):Nat->Nat
 |0=>min (f+8) t.length
 |k+1=>if t.length<=f+(7-k) then t.length else if ld t (f+(7-k)) then f+(7-k) else tn t f k
def cutAt(t:Bs)(f:Nat):Nat:=tn t f 5
def GA(t:Bs)(f:Nat)(a:f<t.length):∀ k,k<=5->f<tn t f k/\tn t f k<=t.length/\tn t f k<=f+8
 |0,_=>by simp only[tn];omega
 |k+1,b=>by
  simp only[tn];split
  .omega
  .split
   .omega
   .exact GA t f a k (by omega)
def nq(t:Bs)(f:Nat)(a:f<t.length):f<cutAt t f/\cutAt t f<=t.length/\cutAt t f<=f+8:=GA t f a 5 (by omega)
def mH(t:Bs):Nat->Nat->List Nat
 |0,_=>[]
 |k+1,f=>if f<t.length then cutAt t f::mH t k (cutAt t f) else []
def AI(t:Bs):List Nat:=mH t t.length 0
def fg(t:Bs):Nat->Nat->List Bs
 |0,_=>[]
 |k+1,f=>if f<t.length then (t.drop f).take (cutAt t f-f)::fg t k (cutAt t f) else []
def pieces(t:Bs):List Bs:=fg t t.length 0
def fQ(l:List Bs):Option Bs:=if dZ l.flatten&&(pieces l.flatten==l) then aa l.flatten else af
def bG(p:Bs):Bool:=decide (1<=p.length)&&decide (p.length<=8)&&b8 p
def codeOf(p:Bs):Int:=p.foldl (λn b=>27*n+((b.toNat:Int)-97) % 256+1) 0
def ck(k:Int):Bool:=decide (1<=k)&&decide (k<=99)
def hO(k:Int)(p:Bs):Int:=(codeOf p*(2*k+1)+k*7919) % 999999999989
def cE(n:Nat):Nat:=if n<1∨8<n then 0 else if n<=2 then 2 else if n<=4 then 4 else 8
def iG(p:Bs):Bs:=if bG p then p++List.replicate (cE p.length-p.length) 46 else []
def strip(b:Bs):Bs:=(b.reverse.dropWhile (·==46)).reverse
def eU(b:Bs):Option Bs:=if bG (strip b)&&(iG (strip b)==b) then aa (strip b) else af
abbrev cC:=Int×Bs
abbrev bw:=Int×List cC
def right(k:Int)(x:cC):Bool:=match eU x.2 with|some p=>hO k p==x.1|none=>ae
def Ar(l:List Int):Bool:=(bh l.length).all λi=>i==0||decide (l.getD (i-1) 0<l.getD i 0)
def jm(k:Int)(p:bw):Bool :=
 decide (1<=p.1)&&decide (p.1<=99)&&ck k&&decide (1<=p.2.length)&&decide (p.2.length<=4)&&p.2.all (right k)&&Ar (p.2.map (·.1))
def chunk(k:Int)(x:cC):Option Bs:=match eU x.2 with|some p=>if ck k&&(hO k p==x.1) then aa p else af|none=>af
def dA(k:Int)(p:bw) (n:Int):Option Bs:=match p.2.find? (λx=>x.1==n) with|some x=>chunk k x|none=>af
def jb(p:bw)(ns:List Int):bw:=(p.1,p.2.filter λx=>ns.contains x.1)
def sr(l:List cC)(x:cC):List cC:=match l with
 |[]=>[x]
 |y::r=>if x.1<y.1 then x::y::r else y::sr r x
def kT(no k:Int)(ps:List Bs):bw:=(no,ps.foldl (λl p=>sr l (hO k p,iG p)) [])
abbrev dm:=Int×Int
def lj(s:dm):Bool:=decide (0<=s.1)&&decide (s.1<999999999989)&&decide (1<=s.2)&&decide (s.2<=99)
def qk(l:List dm)(s:dm):List dm:=match l with
 |[]=>[s]
 |y::r=>if y.1<s.1 then y::qk r s else s::(y::r).filter (λz=>!(z.1==s.1))
def ub(l:List dm) (n:Int):Int:=match l.find? (λs=>s.1==n) with|some s=>s.2|none=>0
def fG(l:List bw):List dm:=l.flatMap λp=>p.2.map λx=>(x.1,p.1)
def indexOf(l:List bw):List dm:=if (fG l).all lj then (fG l).foldl qk [] else []
abbrev gj:=Bs×List Int
abbrev cy:=Int×List gj
def yS(k:Int)(f:bC):gj:=(f.1,(pieces f.2).map (hO k))
def kr(no k:Int)(t:List bC):cy:=(no,t.map (yS k))
def nv(k:Int)(l:List dm)(out:List Bs)(p:Bs):List Bs:=if ub l (hO k p)==0&&!out.contains p then out++[p] else out
def jU(k:Int)(t:List bC)(l:List dm):List Bs:=(t.flatMap λf=>pieces f.2).foldl (nv k l) []
def cU(k:Int)(ps:List bw) (n:Int):Option Bs:=ps.findSome? λp=>dA k p n
end Go.AM.R1
namespace Go.AM
def Hp(cs:List C)(j:Nat):Nat×(Nat->List C):=match fw j cs with|some (.sl _ _ n es)=>(n,es)|_=>(0,λ_=>[])
def cI:hY Int:={ k:=1,enc:=λn=>[.int .i64 n],dec:=λcs=>yB cs 0,bE:=0,inv:=λ_=>rfl,len:=λ_=>rfl }
def cS:hY Bs:={ k:=1,enc:=λs=>[.str s],dec:=λcs=>Cj cs 0,bE:=[],inv:=λ_=>rfl,len:=λ_=>rfl }
namespace R1
def dK:hY cC:={ k:=2,enc:=λx=>[.int .i64 x.1,.str x.2],dec:=λcs=>(yB cs 0,Cj cs 1),bE:=(0,[]),inv:=λ_=>rfl,len:=λ_=>rfl }
def oL:hY dm:={ k:=2,enc:=λx=>[.int .i64 x.1,.int .i64 x.2],dec:=λcs=>(yB cs 0,yB cs 1),bE:=(0,0),inv:=λ_=>rfl,len:=λ_=>rfl }
abbrev sP(p:bw):C:=.sl ae 2 p.2.length (dK.fn p.2)
def cP:hY bw:={ k:=2,enc:=λp=>[.int .i64 p.1,sP p],dec:=λcs=>(yB cs 0,dK.list (Hp cs 1).1 (Hp cs 1).2),bE:=(0,[]),inv:=λp=>by show (p.1,dK.list p.2.length (dK.fn p.2))=p;rw[dK.list_fn],len:=λ_=>rfl }
def cL:hY gj:={ k:=2,enc:=λx=>[.str x.1,.sl ae 1 x.2.length (cI.fn x.2)],dec:=λcs=>(Cj cs 0,cI.list (Hp cs 1).1 (Hp cs 1).2),bE:=([],[]),inv:=λp=>by show (p.1,cI.list p.2.length (cI.fn p.2))=p;rw[cI.list_fn],len:=λ_=>rfl }
def cp:hY cy:={ k:=2,enc:=λx=>[.int .i64 x.1,.sl ae 2 x.2.length (cL.fn x.2)],dec:=λcs=>(yB cs 0,cL.list (Hp cs 1).1 (Hp cs 1).2),bE:=(0,[]),inv:=λp=>by show (p.1,cL.list p.2.length (cL.fn p.2))=p;rw[cL.list_fn],len:=λ_=>rfl }
def cH:hY (Int×Int):=oL
abbrev xQ(p:bw):D:=.e (.agg [.c (.int .i64 p.1),.c (sP p)])
abbrev Wk(r:Option Bs):D:=.e (.agg [.c (.str (r.getD [])),.c (.bool r.isSome)])
end R1
structure Arg (α:Type) where
 enc:α->D
 arg:D->Option (α×List Prop)
 ok:∀ {d a o},arg d=aa (a,o)->ag o->∀ {σ:List aV} {s:St} {v:ak},dc σ s v d->dc σ s v (enc a)
def aI:Arg Int:=⟨dI,λd=>match d with|.e (.one (.c (.int .i64 n)))=>aa (n,[])|_=>af,λ{d a o} h _ _ _ _ r=>by
 grind⟩
def aS:Arg Bs:=⟨dS,λd=>match d with|.e (.one (.c (.str n)))=>aa (n,[])|_=>af,λ{d a o} h _ _ _ _ r=>by
 grind⟩
def aB:Arg Bool:=⟨dB,λd=>match d with|.e (.one (.c (.bool n)))=>aa (n,[])|_=>af,λ{d a o} h _ _ _ _ r=>by
 grind⟩
def aL{α:Type}(c:hY α):Arg (List α):=⟨c.sl,λd=>match kR c.k d with|some (n,es)=>aa (c.list n es,[c.fits n es])|none=>af,λ{d a o} h b _ _ _ r=>by
 split at h
 .rename_i n es he
  cases h;exact c.jS he b r
 .cases h⟩
def To:Arg (Int×Bs):=⟨λx=>.e (.agg [.c (.int .i64 x.1),.c (.str x.2)]),λd=>match d with|.e (.agg [.c (.int .i64 a),.c (.str b)])=>aa ((a,b),[])|_=>af,λ{d a o} h _ _ _ _ r=>by
 grind⟩
def Tp:Arg (Int×Int):=⟨λx=>.e (.agg [.c (.int .i64 x.1),.c (.int .i64 x.2)]),λd=>match d with|.e (.agg [.c (.int .i64 a),.c (.int .i64 b)])=>aa ((a,b),[])|_=>af,λ{d a o} h _ _ _ _ r=>by
 grind⟩
def Ho{α:Type}(c:hY α):Arg (Int×List α):=⟨λx=>.e (.agg [.c (.int .i64 x.1),.c (.sl ae c.k x.2.length (c.fn x.2))]),λd=>match d with
 |.e (.agg [.c (.int .i64 a),.c b])=>match kR c.k (.e (.one (.c b))) with|some (n,es)=>aa ((a,c.list n es),[c.fits n es])|none=>af
 |_=>af,λ{d a o} h m _ s _ r=>by
 split at h
 .split at h
  .rename_i n es he
   cases h;obtain⟨vs,l,g⟩:=r
   match vs,g with
   |[],g=>exact g.elim
   |[_],g=>exact g.2.elim
   |_::_::_::_,g=>exact g.2.2.elim
   |[q,p],g=>exact⟨_,l,g.1,c.jS (σ:=[]) (s:=s) (v:=p) he m g.2.1,av⟩
  .cases h
 .cases h⟩
def jZ{α:Type}(A:Arg α)(res:α->D)(pre:α->List Prop):dk:=λargs σ=>match args,σ with
 |[d],[]=>match A.arg d with
  |some (a,o)=>aa (res a,[],ko o (pre a))
  |none=>af
 |_,_=>af
def p9{α i:Type}(A:Arg α)(B:Arg i)(res:α->i->D)(pre:α->i->List Prop):dk:=λargs σ=>match args,σ with
 |[d,e],[]=>match A.arg d with
  |some (a,o)=>match B.arg e with
   |some (b,p)=>aa (res a b,[],ko o (ko p (pre a b)))
   |none=>af
  |none=>af
 |_,_=>af
def Dw{α i j:Type}(A:Arg α)(B:Arg i)(C:Arg j)(res:α->i->j->D)(pre:α->i->j->List Prop):dk:=λargs σ=>match args,σ with
 |[d,e,f],[]=>match A.arg d with
  |some (a,o)=>match B.arg e with
   |some (b,p)=>match C.arg f with
    |some (c,q)=>aa (res a b c,[],ko o (ko p (ko q (pre a b c))))
    |none=>af
   |none=>af
  |none=>af
 |_,_=>af
section
variable {P:aq}{X:Cx P}{f:aW}{α i j:Type}{A:Arg α}{B:Arg i}{C:Arg j}
def dM.ox{res:α->D}{pre:α->List Prop}(h:∀ a,ag (pre a)->Ev X f [A.enc a] [] (res a) []):dM X f (jZ A res pre):=by
 intro args σ r σ' obs h1 ho;unfold jZ at h1;split at h1
 .split at h1
  .rename_i d a o b
   cases h1;rw[ag.cat] at ho;exact(h a ho.2).args λs vs=>cz.imp (λ_ r=>A.ok b ho.1 r) (λ_ r=>r) vs
  .cases h1
 .cases h1
def dM.tm{res:α->i->D}{pre:α->i->List Prop}(h:∀ a b,ag (pre a b)->Ev X f [A.enc a,B.enc b] [] (res a b) []):dM X f (p9 A B res pre):=by
 intro args σ r σ' obs h1 ho;unfold p9 at h1;split at h1
 .split at h1
  .rename_i d e a o c
   split at h1
   .rename_i b p hb
    cases h1;rw[ag.cat,ag.cat] at ho;exact(h a b ho.2.2).args λs vs=>cz.imp (λ_ r=>A.ok c ho.1 r) (cz.imp (λ_ r=>B.ok hb ho.2.1 r) (λ_ r=>r)) vs
   .cases h1
  .cases h1
 .cases h1
def dM.I8{res:α->i->j->D}{pre:α->i->j->List Prop}(h:∀ a b c,ag (pre a b c)->Ev X f [A.enc a,B.enc b,C.enc c] [] (res a b c) []):dM X f (Dw A B C res pre):=by
 intro args σ r σ' obs h1 ho;unfold Dw at h1;split at h1
 .split at h1
  .rename_i d e g a o k
   split at h1
   .rename_i b p hb
    split at h1
    .rename_i c q l
     cases h1;rw[ag.cat,ag.cat,ag.cat] at ho;exact(h a b c ho.2.2.2).args λs vs=>cz.imp (λ_ r=>A.ok k ho.1 r) (cz.imp (λ_ r=>B.ok hb ho.2.1 r) (cz.imp (λ_ r=>C.ok l ho.2.2.1 r) (λ_ r=>r))) vs
    .cases h1
   .cases h1
  .cases h1
 .cases h1
end
section
open Go.Conc (G)
section drop
variable {σ1 rest:List aV}{s:St}
def Uo(n:Nat):aV->Bool
 |.cells _ cs=>DU n cs
 |.loop ..=>ae
 |_=>ab
def rN(n:Nat):List aV->Bool
 |[]=>ab
 |a::r=>match Uo n a with|true=>rN n r|false=>ae
def BZ{n:Nat}:∀ {l:List aV},rN n l=ab->∀ B∈l,Uo n B=ab
 |[],_,B,a=>by grind
 |b::r,h,B,a=>by
  simp only[rN] at h;cases d:Uo n b with
  |false=>grind
  |true =>
   simp only[d] at h;rcases fb.1 a with rfl|a
   .exact d
   .exact BZ h B a
def eP.tT{B:aV}{L:Loc}(a:Uo σ1.length B=ab)(h:eP (σ1++rest) s B L):eP σ1 (s.cut σ1.length) B L:=by
 cases B with
 |cells E cs =>
  obtain⟨b,vs,h1,h2,d,e⟩:=h;exact⟨b,vs,h1,h2,dW.uD d a,e⟩
 |vec E k n es=>exact h
 |dD H=>exact h
 |dead=>trivial
 |loop N φ r=>simp[Uo] at a
 |qV=>exact h
 |buf E k n es=>exact h
def aJ.drop(h:aJ (σ1++rest) s)(g:rN σ1.length σ1=ab):aJ σ1 (s.cut σ1.length):=by
 have hl:σ1.length<=s.β.length:=by rw[h.len];simp
 refine⟨h.mem,by simp[St.cut,hl],?_,?_,?_,λb hb=>⟨(h.own b hb).1,λL a=>(h.own b hb).2 L (iK a)⟩⟩
 .intro l B L f a;have e:l<σ1.length:=(cr.1 f).1;simp only[St.cut,gQ,e,cu] at a;exact eP.tT (rest:=rest) (BZ g B (bU f)) (h.box l B L (by grind) a)
 .intro l l' L L' a d b hb oO;simp only[St.cut,gQ] at a d;split at a <;> split at d <;> first|exact h.gg l l' L L' a d b hb oO|grind|grind
 .intro L a b hb;exact h.lt L (iK a) b hb
def oI.drop(a:mv rest=ab):∀ {ds:List Deferred}{ls:List Nat},oI (σ1++rest) s ds ls->oI σ1 (s.cut σ1.length) ds ls
 |[],[],_=>trivial
 |[],_::_,r=>r.elim
 |_::_,[],r=>r.elim
 |d::ds,l::ls,⟨⟨h1,L,r,h2,b⟩,e,f⟩=>by
  have hl:l<σ1.length:=by
   rcases cJ l σ1.length with h|h
   .exact h
   .rw[gk h] at h1;exact absurd rfl (na a _ (bU h1))
  rw[jD hl] at h1;exact⟨⟨h1,L,r,by simp only[St.cut,gQ,hl,cu];exact h2,b⟩,e,oI.drop a f⟩
def Aa(n:Nat)(σ:List aV):Bool:=match bo n σ.length with|true=>mv (σ.drop n)|false=>ae
theorem yo{n:Nat}{σ:List aV}(h:Aa n σ=ab):bo n σ.length=ab/\mv (σ.drop n)=ab:=by
 unfold Aa at h
 grind
end drop
def Hc(n:Nat):Fr->Bool
 |[]=>ab
 |(_,d)::r=>match u7 n d with|true=>Hc n r|false=>ae
def pY{n:Nat}:∀ {φ:Fr}{t:Nat},Hc n φ=ab->u7 n (look φ t)=ab
 |[],t,_=>rfl
 |(u,d)::r,t,h=>by
  simp only[Hc] at h;cases a:u7 n d with
  |false=>grind
  |true =>
   simp only[a] at h;simp only[look];cases aG u t with
   |true=>exact a
   |false=>exact pY h
section
variable {P:aq}{X:Cx P}{N:Nat}{Qf:Post}{K:List It}{φ:Fr}{σ:List aV}{c:Code}
def lZ{S:Type}{P:aq}(X:Cx P)(N:Nat)(Qf:Post)(K:List It)(I:S->Prop)(d:S->Fr)(st:S->List aV)(b:S->Nat)(n:Nat)(x:S):Post:=λe a σ'=>match e with
 |.normal=>∃ y,I y/\b y<b x/\o8 a (d y)/\Hc n (d y)=ab/\∃ σ1 rest,σ'=σ1++rest/\σ1.length=n/\(rN n σ1=ab/\mv rest=ab)/\Hb σ1 (st y)
 |e=>AK X N Qf K e a σ'
def AK.bP{S:Type}(n:Nat)(I:S->Prop)(fr:S->Fr)(st:S->List aV)(k:S->Nat)(x:S){ps qs:List Prop}(C:qF φ (fr x)=aa ps)(R:ag ps)(w:tf σ (st x)=aa qs)(T:ag qs)(hn:σ.length=n)(U:I x)
  (round:∀ x,I x->AK X N (lZ X N Qf K I fr st k n x) [.code c] .normal (fr x) (st x)):AK X N Qf (.code (.loop c)::K) .normal φ σ:=by
 intro s a Y hh b kk cs SS hb hQ;have j:=lF w T;obtain⟨o,A,_⟩:=j s hh;refine wj (λm a' s'=>∃ y,I y/\cx N (st y) s' (fr y) a'/\aJ (st y) s'/\cD σ s (st y) s'/\k y=m) ?_ ?_ ⟨x,U,(Y.le (dh C R)).bs j hh,o,A.oG hh,rfl⟩
 .rintro n a' s' ⟨y,v,r,f,d,e⟩;exact⟨st y,f,λs1 h1=>⟨y,v,r.rely h1 f,f.rely h1,d.trans h1.stepW,e⟩⟩
 rintro m a' s' ⟨y,v,r,f,d,rfl⟩ Z;refine round y v s' a' r f b (.inLoop c::kk) cs SS hb ?_;intro e M σ2 s2 a2 q G h2 oB;cases e with
 |normal =>
  obtain⟨z,O,l,i,J,σ1,rest,rfl,Q,⟨V,p⟩,E⟩:=q;have F:=h2.drop (by grind)
  obtain⟨B,g,D⟩:=E _ F;have u:=G.le i;have H:eR s2 (s2.cut σ1.length):=⟨rfl,λ_ _ _ h=>h,λ_ _ _=>rfl,h2.mem,λb hb=>hb.imp id λ⟨L,W,hb⟩=>⟨L,iK W,hb⟩⟩
  refine .ghost H (Z a2 (s2.cut σ1.length) (k z) l ⟨z,O,⟨u.size,u.defers.imp λ_ h1=>(h1.drop p).mono g.ext,λt=>D _ _ ((u.slot t).drop (pY (by grind)))⟩,B,?_,rfl⟩)
  exact((d.trans oB).drop (by omega)).trans (g.oG F)
 |_=>exact ends.cons (λ_ _=>rfl) (by simp) (hQ _ _ _ _ _ q G h2 (d.trans oB))
def AK.Rp{S:Type}{n:Nat}{I:S->Prop}{fr:S->Fr}{st:S->List aV}{b:S->Nat}{x:S}{j:List It}(y:S){ps qs:List Prop}(a:qF φ (fr y)=aa ps)(k:ag ps)(h:Hc n (fr y)=ab)(d:Aa n σ=ab)(f:tf (σ.take n) (st y)=aa qs)(l:ag qs)(g:rN n (σ.take n)=ab)(i:I y)(e:b y<b x) :
  AK X N (lZ X N Qf j I fr st b n x) [] .normal φ σ :=
 ⟨y,i,e,dh a k,h,σ.take n,σ.drop n,(j5 n σ).symm,by grind [Nat.le_of_ble_eq_true,yo],⟨g,(yo d).2⟩,lF f l⟩
def AK.aQ{S:Type}{n:Nat}{I:S->Prop}{fr:S->Fr}{st:S->List aV}{a:S->Nat}{x:S}{e:List It}(y:S){ps qs:List Prop}(h:(qF φ (fr y),Hc n (fr y),Aa n σ,tf (σ.take n) (st y),rN n (σ.take n))=(aa ps,ab,ab,aa qs,ab))(f:ag ps)(g:ag qs)(d:I y)(b:a y<a x) :
  AK X N (lZ X N Qf e I fr st a n x) [] .normal φ σ:=by
 simp only[k8] at h;exact AK.Rp y h.1 f h.2.1 h.2.2.1 h.2.2.2.1 g h.2.2.2.2 d b
def AK.leaveD{S:Type}{n:Nat}{I:S->Prop}{fr:S->Fr}{st:S->List aV}{d:S->Nat}{x:S}{id:Nat}{f b g:List It}(h1:kP id f=af)(h2:kP id b=aa g)(k:AK X N Qf g .normal φ σ) :
  AK X N (lZ X N Qf b I fr st d n x) (.code (.exit id)::f) .normal φ σ :=
 AW.mono (AK.leave (A:=λa σ'=>lZ X N Qf b I fr st d n x .normal a σ') h1 h2 k) λe a σ' q=>by
  have key:∀ (K:List It) e,AK X N (λe a σ'=>match e with
    |.normal=>lZ X N Qf b I fr st d n x .normal a σ'
    |e=>AK X N Qf b e a σ') K e a σ'->AK X N (lZ X N Qf b I fr st d n x) K e a σ':=by
   have e:(λe a σ'=>match e with
    |.normal=>lZ X N Qf b I fr st d n x .normal a σ'
    |e=>AK X N Qf b e a σ')=lZ X N Qf b I fr st d n x:=by
    funext e a σ';cases e <;> rfl
   grind
  exact key _ _ q
def AK.eh{S:Type}{n:Nat}{I:S->Prop}{fr:S->Fr}{st:S->List aV}{a:S->Nat}{x:S}{b d:List It}(k:Qf .ret φ σ):AK X N (lZ X N Qf d I fr st a n x) (.code .ret::b) .normal φ σ :=
 AK.ret (AK.r8 (Qf:=Qf) k)
theorem cx.freeze(t l:Nat){E:ar}{cs:List A}{cc:List C}(G:look φ t=.e (.one (.ptr l 0)))(hl:fw l σ=aa (.cells E cs))(F:gn cs=aa cc)
  {s:St} {a:Act} (g:cx N σ s φ a) (hh:aJ σ s):∃ s':St,s'.w=s.w/\cx N (σ.set l .dead) s' ((t,.e (.one (.c (.rp cc))))::φ) a/\aJ (σ.set l .dead) s'/\Step σ s (σ.set l .dead) s':=by
 have k:=dz hl;have m:l<σ.length:=(cr.1 k).1;have x:=g.slot t;rw[G] at x;obtain⟨_,L,b,n,f,z⟩:=x;obtain⟨d,vs,h1,h2,y,H⟩:=hh.box l _ L k n;subst h1;simp at f;subst f
 let s':St:={ s with M:=λr o=>if r=d then vs[o]? else s.M r o }
 have st:Step σ s (σ.set l .dead) s':=by
  refine⟨bg _,λ_ _ _=>rfl,?_,?_,λL h b hb=>.inr ⟨L,h,hb⟩,?_,rfl,rfl,rfl,rfl⟩
  .grind
  .intro b hb hn o;have i:b≠d:=λe=>hn _ (bU n) (by simp[e])
   grind
  .intro l' B L' ot gw
   by_cases e:l=l'
   .subst e;rw[k] at ot;cases ot;exact⟨.dead,L',by grind,gw,rfl⟩
   .exact⟨B,L',by grind,gw,.refl _ _⟩
 refine⟨s',rfl,⟨g.size,g.defers.imp λ_ h1=>h1.mono st.ext,λu=>?_⟩,⟨?_,by simp[hh.len,s'],?_,hh.gg,hh.lt,hh.own⟩,st⟩
 .simp only[look];cases hb:aG t u with
  |false=>exact(g.slot u).mono st.ext hh.len
  |true =>
   have e:=bX hb;subst e;rw[z];have q:=kn F y;refine Rd.rp d 0 (λj=>(vs[j]?).getD aj) ?_ ?_
   .intro j c hj;obtain⟨v,p,_⟩:=q.get (j:=j) (a:=.c c) (by grind)
    grind
   .intro j c hj;obtain⟨v,p,p2⟩:=q.get (j:=j) (a:=.c c) (by grind)
    simp only[p,fJ];exact Rd.mono st.mem p2
 .intro b o v I
  by_cases e:b=d
  .subst e;have hm':vs[o]?=aa v:=by grind
   show s.w.cell? _=_;simp[a9,h2,hm']
  .exact hh.mem b o v (by grind)
 .intro l' B L' ot gw
  by_cases e:l=l'
  .subst e;rw[fI m] at ot;cases ot;trivial
  .rw[iL e] at ot;refine(hh.box l' B L' ot gw).carry st.ext hh.len λb hb=>⟨rfl,λo=>?_⟩
   have i:b≠d:=λD=>e (hh.gg l l' _ L' n gw b (by grind) hb)
   grind
theorem AK.freeze(t l:Nat){E:ar}{cs:List A}{cc:List C}(b:look φ t=.e (.one (.ptr l 0)))(hl:fw l σ=aa (.cells E cs))(a:gn cs=aa cc)
  (kk:AK X N Qf (.code c::K) .normal ((t,.e (.one (.c (.rp cc))))::φ) (ef.rJ l .dead σ)):AK X N Qf (.code c::K) .normal φ σ:=by
 grind [kC,AK.ghost,cx.freeze]
def AK.one{all rest:List aw}{o:aw}{x:D}{σ':List aV}(h:OA X N all o φ σ x σ')(a:gy N o.dst=ab)(k:AK X N Qf (.ops all rest::K) .normal (lC o.dst x φ) σ'):AK X N Qf (.ops all (o::rest)::K) .normal φ σ :=
 jB.tg h (il a) k
end
end
structure Ec (d:TypeDesc)(es:Array MapEntry)(k:ak)(a:Option (Nat×ak)):Prop where
 key:MapKept.IsKey d k
 now:Instr.findNow d k es.toList 0=aa a
 no:a=af->∀ e∈es.toList,e.key≠k
 yes:∀ j v,a=aa (j,v)->∃ e,es[j]?=aa e/\e.key=k/\e.val=v
def yq{d:TypeDesc}{es:Array MapEntry}{k:ak}(g:MapKept.IsKey d k)(h:∀ e∈es.toList,MapKept.IsKey d e.key):∃ a,Ec d es k a:=by
 rcases MapKept.findNow_spec g es.toList 0 h with⟨b,i⟩|⟨j,e,b,i,m⟩
 .exact⟨af,g,b,λ_=>i,by simp⟩
 .refine⟨_,g,b,by simp,λn v l=>?_⟩
  grind
section
variable {P:aq}{w:az}{t c f:ar}{d:TypeDesc}{r:Nat}{es:Array MapEntry}{clock:Nat}{k:ak}{ok:Bool}
def F1(a:P.underlying c=aa d):(underlying c).run P w=.ok d w:=by simp[underlying,a]
def mE(e:P.underlying c=aa d)(a:MapKept.IsKey d k)(b:Bool)(evs:Array Event):(Instr.checkKey b 10000 c k).events P w evs=evs:=by
 show (Instr.checkKey b (9999+1) c k).events P w evs=evs;unfold Instr.checkKey;simp only[aO,F1 e,aU,events_underlying];cases d <;> cases k <;> first|exact a.elim|simp
def n7{l:List MapEntry}{a:Option (Nat×ak)}(b:P.underlying c=aa d)(h:Instr.findNow d k l 0=aa a)(evs:Array Event):(Instr.findKey c k l).events P w evs=evs:=by
 simp[Instr.findKey,F1 b,h]
def kE(a:w.heap[r]?=aa (.map es clock))(evs:Array Event):(getObj r).events P w evs=evs.push ⟨.obj r,ae,ae⟩:=by
 simp only[getObj,Sem.events,Sem.runT,a];rfl
def qn(a:w.heap[r]?=aa (.map es clock)){es':Array MapEntry}{b:Nat}(evs:Array Event):(setObj r (.map es' b)).events P w evs=evs.push ⟨.obj r,ab,ae⟩:=by
 simp only[setObj,Sem.events,Sem.runT,a];rfl
def qo(e:P.underlying c=aa d)(a:MapKept.IsKey d k)(b:Bool):(Instr.checkKey b 10000 c k).run P w=.ok () w:=MapKept.run_checkKey e a b 9999
def tU(m:P.underlying t=aa (.map c f))(h:P.underlying c=aa d)(g:w.heap[r]?=aa (.map es clock)){a:Option (Nat×ak)}(e:Ec d es k a){z:ak}(l:a=af->(zeroValue f).run P w=.ok z w) :
  (Instr.lookup t (.map (aa r)) k ok).run P w=.ok (match a with
   |some (_,v)=>if ok=ab then .tuple #[v,.bool ab] else v
   |none=>if ok=ab then .tuple #[z,.bool ae] else z) w/\(Instr.lookup t (.map (aa r)) k ok).events P w #[]=#[⟨.obj r,ae,ae⟩]:=by
 have i:(underlying t).run P w=.ok (.map c f) w:=by simp[underlying,m]
 have j:=qo (w:=w) h e.key es.isEmpty;have b:(Instr.findKey c k es.toList).run P w=.ok a w:=MapKept.run_findKey h e.now;cases a with
 |some jv =>
  constructor
  .simp only[Instr.lookup,bY,i,b9,MapKept.run_getObj_map g,cY,j,b]
  .simp only[Instr.lookup,aO,i,aU,MapKept.run_getObj_map g,cY,Sem.events_pure,j,b,events_underlying,kE g,mE h e.key,n7 h e.now];rfl
 |none =>
  constructor
  .simp only[Instr.lookup,bY,i,b9,MapKept.run_getObj_map g,cY,j,b,l rfl]
  .simp only[Instr.lookup,aO,i,aU,MapKept.run_getObj_map g,cY,Sem.events_pure,j,b,events_underlying,kE g,mE h e.key,n7 h e.now,l rfl,events_zeroValue];rfl
def tV(s:P.underlying t=aa (.map c f))(i:P.underlying c=aa d)(b:w.heap[r]?=aa (.map es clock)){a:Option (Nat×ak)}{x:ak}(g:Ec d es k a) :
  (Instr.mapUpdate t (.map (aa r)) k x).run P w=.ok () { w with heap:=w.heap.setIfInBounds r (match a with
   |some (j,_)=>.map (es.modify j λe=>{ key:=k,val:=x,born:=e.born }) clock
   |none=>.map (es.push { key:=k,val:=x,born:=clock }) (clock+1)) } /\
  (Instr.mapUpdate t (.map (aa r)) k x).events P w #[]=#[⟨.obj r,ae,ae⟩,⟨.obj r,ab,ae⟩]:=by
 have p:(underlying t).run P w=.ok (.map c f) w:=by simp[underlying,s]
 have o:=qo (w:=w) i g.key ae;have h:(Instr.findKey c k es.toList).run P w=.ok a w:=MapKept.run_findKey i g.now;cases a with
 |some jv =>
  obtain⟨j,v⟩:=jv;obtain⟨e,n,m,_⟩:=g.yes j v rfl;have l:(Instr.keyThatStays k k).run P w=.ok k w:=MapKept.run_keyThatStays g.key;have q:∀ evs,(Instr.keyThatStays k k).events P w evs=evs:=λevs=>by simp[Instr.keyThatStays,MapKept.sameBits_self g.key]
  constructor
  .simp only[Instr.mapUpdate,bY,p,b9,MapKept.run_getObj_map b,o,h,n,j9,fJ,m,l,MapKept.run_setObj_map _ b]
  .simp only[Instr.mapUpdate,aO,p,aU,MapKept.run_getObj_map b,o,h,n,j9,fJ,m,l,q,events_underlying,kE b,qn b,mE i g.key,n7 i g.now];rfl
 |none =>
  constructor
  .simp only[Instr.mapUpdate,bY,p,b9,MapKept.run_getObj_map b,o,h,MapKept.run_setObj_map _ b]
  .simp only[Instr.mapUpdate,aO,p,aU,MapKept.run_getObj_map b,o,h,events_underlying,kE b,qn b,mE i g.key,n7 i g.now];rfl
end
def aJ.ld{σ:List aV}{s:St}(h:aJ σ s){l:Nat}{H H':ak->(Nat->Option Obj)->Prop}{L L':Loc}(A:σ[l]?=aa (.dD H))(x:s.β[l]?=aa L){w':az}(Q:L'.v=L.v)
  (t:s.w.heap.size<=w'.heap.size) (E:∀ b,b<s.w.heap.size->b∉L.bs->w'.heap[b]?=s.w.heap[b]?) (k:∀ b∈L'.bs,b∈L.bs∨(s.w.heap.size<=b/\b<w'.heap.size))
  (hb:∃ ch,H' L'.v ch/\(∀ (b:Nat) (o:Obj),ch b=aa o->w'.heap[b]?=aa o)/\(∀ b,b∈L'.bs↔(ch b).isSome=ab)) (J:w'.os=s.w.os) (P:w'.tape=s.w.tape) (K:w'.output=s.w.output) :
  aJ (σ.set l (.dD H')) ⟨s.β.set l L',s.M,w',s.own⟩/\Step σ s (σ.set l (.dD H')) ⟨s.β.set l L',s.M,w',s.own⟩:=by
 have r:l<σ.length:=(cr.1 A).1;have C:l<s.β.length:=by rw[h.len];exact r
 obtain⟨I,_,_,_,y⟩:=h.box l _ L A x;have n:∀ b∈L'.bs,∀ o,s.M b o=af:=by
  intro b i o;rcases k b i with h1|⟨h1,_⟩
  .exact y b h1 o
  .cases u:s.M b o with
   |none=>rfl
   |some v=>have:=h.block u;omega
 have st:Step σ s (σ.set l (.dD H')) ⟨s.β.set l L',s.M,w',s.own⟩:=by
  refine⟨t,?_,λ_ _ _ h=>h,λ_ _ _ _=>rfl,?_,?_,J,P,K,rfl⟩
  .grind
  .grind
  .intro l' B c a f
   by_cases e:l=l'
   .subst e;rw[A] at a;cases a;rw[x] at f;cases f;exact⟨.dD H',L',by rw[fI r],by grind,Q⟩
   .exact⟨B,c,by rw[iL e];exact a,by grind,.refl _ _⟩
 have g:∀ (l':Nat) (c:Loc),(s.β.set l L')[l']?=aa c->(l'=l/\c=L')∨(l≠l'/\s.β[l']?=aa c):=by
  grind
 refine⟨⟨?_,by simp[h.len],?_,?_,?_,?_⟩,st⟩
 .intro b o v u;have z:=h.block u;have D:b∉L.bs:=λm=>by rw[y b m o] at u;cases u
  rw[<-h.mem b o v u];simp only[a9];rw[E b z D]
 .intro l' B c a f;rcases g l' c f with⟨rfl,rfl⟩|⟨e,h2⟩
  .rw[fI r] at a;cases a;obtain⟨ch,k1,N,G⟩:=hb;exact⟨ch,k1,N,G,n⟩
  .rw[iL e] at a;refine(h.box l' B c a h2).carry st.ext h.len λb i=>⟨E b (h.lt c (bU h2) b i) λm=>e (h.gg l l' L c x h2 b m i),λ_=>rfl⟩
 .intro O F L1 c h1 h2 b j d;rcases g O L1 h1 with⟨rfl,rfl⟩|⟨e1,p⟩ <;> rcases g F c h2 with⟨rfl,rfl⟩|⟨e2,q⟩
  .rfl
  .rcases k b j with m|m
   .exact h.gg _ _ L c x q b m d
   .have:=h.lt c (bU q) b d;omega
  .rcases k b d with m|m
   .exact h.gg _ _ L1 L p x b j m
   .have:=h.lt L1 (bU p) b j;omega
  .exact h.gg _ _ L1 c p q b j d
 .intro c f b d;rcases List.mem_or_eq_of_mem_set f with h1|h1
  .exact cG (h.lt c h1 b d) t
  .subst h1;rcases k b d with h2|h2
   .exact cG (h.lt L (bU x) b h2) t
   .exact h2.2
 .intro b hb;obtain⟨S,R⟩:=h.own b hb
  grind
section
variable {H H':ak->(Nat->Option Obj)->Prop}{s:St}
end
def b6.tj{fn:Func}{a:Nat}{res:D}{σ':List aV}{φ:Fr}{σ:List aV}(ks:List Nat){ps:List Prop}(h:zJ fn.results.toList ks φ res=aa ps)(d:ag ps)(e:kL ks σ=aa σ')(b:lg σ'=ab)(hn:eg ks=ab)(c:∀ j,j<a->ks[j]?=aa j) :
  b6 fn a res σ' .normal φ σ:=by
 refine⟨.inr rfl,ks,?_⟩;unfold zJ at h
 grind
def AK.QV{P:aq}{X:Cx P}{N:Nat}{Qf:Post}{K:List It}{φ:Fr}{σ:List aV}{all rest:List aw}{o:aw}{m:an}{xs:Array an}{d:Array ar}{f:aW}{cap:List C}{a:List D}{c σ1:List aV}{res:D}(e:Ev X f a c res σ1)(ks:List Nat)
  (l:o.guard=af) (q:o.op=.call { callee:=.value m,args:=xs,argTypes:=d }) (p:eQ (b5 φ m)=aa (f,cap)) (b:ou (xs.toList.map (b5 φ)++fY cap)=iX ks a) (j:oF ks.length a=ab)
  (h:kL ks σ=aa c) (r:cX c=ab) (g:cX σ1=ab) (hn:eg ks=ab) (i:bo ks.length σ1.length=ab) (n:gy N o.dst=ab)
  (k:AK X N Qf (.ops all rest::K) .normal (lC o.dst (jA (ks++mU σ.length (σ1.length-ks.length)) res) φ) (ef ks σ1 σ)):AK X N Qf (.ops all (o::rest)::K) .normal φ σ :=
 jB.call (λ_ _ _ _=>dv l) q p ks e b j h r g hn (db i) o.dst rfl (il n) k
def AK.u9{P:aq}{ι:Type}{X:Cx P}{N:Nat}{Qf:Post}{K:List It}{φ:Fr}{σ:List aV}{all rest:List aw}{o:aw}{n:an}{xs:Array an}{d:Array ar}{f:aW}{cap:List C}{a:List D}{c:List aV}{σ1:ι->List aV}{res:ι->D}(e:cM X f a c res σ1)(ks:List Nat)
  (m:o.guard=af) (r:o.op=.call { callee:=.value n,args:=xs,argTypes:=d }) (q:eQ (b5 φ n)=aa (f,cap)) (b:ou (xs.toList.map (b5 φ)++fY cap)=iX ks a) (l:oF ks.length a=ab)
  (h:kL ks σ=aa c) (s:cX c=ab) (g:∀ j,cX (σ1 j)=ab) (hn:eg ks=ab) (i:∀ j,bo ks.length (σ1 j).length=ab) (p:gy N o.dst=ab)
  (k:∀ j,AK X N Qf (.ops all rest::K) .normal (lC o.dst (jA (ks++mU σ.length ((σ1 j).length-ks.length)) (res j)) φ) (ef ks (σ1 j) σ)):AK X N Qf (.ops all (o::rest)::K) .normal φ σ :=
 jB.PI (λ_ _ _ _=>dv m) r q ks e b l h s g hn (λj=>db (i j)) o.dst rfl (il p) k
def AK.cQ{P:aq}{X:Cx P}{N:Nat}{Qf:Post}{K:List It}{φ:Fr}{σ:List aV}{all rest:List aw}{o:aw}{s:an}{xs:Array an}{q:Array ar}{f:aW}{cap:List C}{n:List D}{p σ1:List aV}{res:D}(r:Ev X f n p res σ1)(ks:List Nat)
  (h:(o.guard,o.op,eQ (b5 φ s),ou (xs.toList.map (b5 φ)++fY cap),oF ks.length n,kL ks σ,cX p,cX σ1,eg ks,bo ks.length σ1.length,gy N o.dst)=(af,.call { callee:=.value s,args:=xs,argTypes:=q },aa (f,cap),iX ks n,ab,aa p,ab,ab,ab,ab,ab))
  (k:AK X N Qf (.ops all rest::K) .normal (lC o.dst (jA (ks++mU σ.length (σ1.length-ks.length)) res) φ) (ef ks σ1 σ)):AK X N Qf (.ops all (o::rest)::K) .normal φ σ:=by
 simp only[k8] at h;obtain⟨a,b,c,d,e,f,g,i,j,l,m⟩:=h;exact AK.QV r ks a b c d e f g i j l m k
def AK.cP{P:aq}{ι:Type}{X:Cx P}{N:Nat}{Qf:Post}{K:List It}{φ:Fr}{σ:List aV}{all rest:List aw}{o:aw}{r:an}{xs:Array an}{n:Array ar}{f:aW}{cap:List C}{i:List D}{l:List aV}{σ1:ι->List aV}{res:ι->D}(p:cM X f i l res σ1)(ks:List Nat)
  (h:(o.guard,o.op,eQ (b5 φ r),ou (xs.toList.map (b5 φ)++fY cap),oF ks.length i,kL ks σ,cX l,eg ks,gy N o.dst)=(af,.call { callee:=.value r,args:=xs,argTypes:=n },aa (f,cap),iX ks i,ab,aa l,ab,ab,ab)) (q:∀ j,(cX (σ1 j),bo ks.length (σ1 j).length)=(ab,ab))
  (k:∀ j,AK X N Qf (.ops all rest::K) .normal (lC o.dst (jA (ks++mU σ.length ((σ1 j).length-ks.length)) (res j)) φ) (ef ks (σ1 j) σ)):AK X N Qf (.ops all (o::rest)::K) .normal φ σ:=by
 simp only[k8] at h q;obtain⟨a,b,c,d,e,f,g,j,m⟩:=h;exact AK.u9 p ks a b c d e f g (λj=>(q j).1) j (λj=>(q j).2) m k
def xE:List D->List D->Option (List Prop)
 |[],[]=>aa []
 |a::al,b::bs=>match Dt a b with
  |some p=>match xE al bs with
   |some q=>aa (ko p q)
   |none=>af
  |none=>af
 |_,_=>af
def uY{σ:List aV}{s:St}:∀ {vs:List ak}{xs ys:List D}{ps:List Prop},xE xs ys=aa ps->ag ps->cz σ s vs xs->cz σ s vs ys
 |[],[],[],_,_,_,_=>trivial
 |_::_,[],_,_,_,_,h=>h.elim
 |[],_::_,_,_,_,_,h=>h.elim
 |[],[],_::_,_,h,_,_=>by simp[xE] at h
 |_::_,_::_,[],_,h,_,_=>by simp[xE] at h
 |v::vs,a::al,b::bs,ps,h,d,f=>by
  simp only[xE] at h;cases c:Dt a b with
  |none=>simp[c] at h
  |some p =>
   cases e:xE al bs with
   |none=>simp[c,e] at h
   |some q =>
    simp[c,e] at h;subst h;rw[ag.cat] at d;exact⟨qA c d.1 f.1,uY e d.2 f.2⟩
def AK.mr{P:aq}{ι:Type}{X:Cx P}{N:Nat}{Qf:Post}{K:List It}{φ:Fr}{σ:List aV}{all rest:List aw}{o:aw}{q:an}{xs:Array an}{d:Array ar}{f:aW}{cap:List C}{a:List D}{c:List aV}{σ1:ι->List aV}{res:ι->D}(e:cM X f a c res σ1)(ks:List Nat)
  (p:o.guard=af) (u:o.op=.call { callee:=.value q,args:=xs,argTypes:=d }) (t:eQ (b5 φ q)=aa (f,cap)) {ps:List Prop} (b:xE (xs.toList.map (b5 φ)++fY cap) (iX ks a)=aa ps) (l:ag ps) (n:oF ks.length a=ab)
  (i:kL ks σ=aa c) (v:cX c=ab) (g:∀ j,cX (σ1 j)=ab) (hn:eg ks=ab) (m:∀ j,bo ks.length (σ1 j).length=ab) (r:gy N o.dst=ab)
  (k:∀ j,AK X N Qf (.ops all rest::K) .normal (lC o.dst (jA (ks++mU σ.length ((σ1 j).length-ks.length)) (res j)) φ) (ef ks (σ1 j) σ)):AK X N Qf (.ops all (o::rest)::K) .normal φ σ :=
 jB.PH (λ_ _ _ _=>dv p) u t ks e (λs vs h=>uY b l h) n i v g hn (λj=>db (m j)) o.dst rfl (il r) k
section
open Go.Conc (G)
def J4{a:Act}{d:Nat}{v:ak}(h:d<a.tmps.size):(a.put (aa d) v).tmps.getD d aj=v:=by
 simp[Act.put,dG,vn h]
def lT{P:aq}{f:aW}{fn:Func}{e:Array ak->Sem ak}(b:P.funcs[f]?=aa fn)(a:(fn.name== "runtime.NumGoroutine")=ae)
  (c:fn.body.isNone=ab) (j:Extern.findNext fn=af) (d:Extern.find fn=aa e) (args:Array ak) (g:cO P (e args)) (w:az) (es:Array Event) :
  (callFunc f args).events P w es=es.push ⟨.mark (.extern f),ae,ab⟩:=by
 have h:fn.name≠ "runtime.NumGoroutine":=by simpa using a
 have i:fn.body=af:=by simpa using c
 simp[callFunc,b,h,i,j,d];rw[g w]
section
variable {P:aq}{X:Cx P}{N:Nat}{Qf:Post}{K:List It}{φ:Fr}{σ:List aV}{all rest:List aw}{o:aw}
def AK.hand{ι:Type}(x:ι->D)(σ':ι->List aV)(C:o.guard=af)(y:gy N o.dst=ab)
  (h:∀ s a,cx N σ s φ a->aJ σ s->∃ i e s' v,(ay a.eval o).run P s.w=.ok e s'.w/\(e=.value v∨(e=.skip/\v=aj))/\dc (σ' i) s' v (x i)/\aJ (σ' i) s'/\Step σ s (σ' i) s'/\eZ s ((ay a.eval o).events P s.w #[]))
  (k:∀ i,AK X N Qf (.ops all rest::K) .normal (lC o.dst (x i) φ) (σ' i)):AK X N Qf (.ops all (o::rest)::K) .normal φ σ:=by
 intro s a f hh b kk cs S idx hb jH hQ;cases idx with
 |nil=>exact jH.elim
 |cons j idx =>
 refine zV hb jH.1 (dv C) λA d=>?_
 have c:=hh.rely d;have l:=f.rely d hh;obtain⟨i,e,s',v,h1,h2,r,p,n,B⟩:=h A a l c;have g:=n.oG c;refine⟨e,s',v,h1,h2,⟨⟨σ,σ' i,c,p,n⟩,B⟩,?_⟩;refine k i s' _ ?_ p b kk cs S idx hb jH.2 λm σ2 s2 a2 q z h2 st=>hQ m σ2 s2 a2 q z h2 ((d.stepW.trans g).trans st)
 cases u:o.dst with
 |none=>exact l.mono g c.len
 |some t=>exact(l.mono g c.len).put (il y t u) r
def AK.law{x:D}{σ':List aV}(h:bH P o (b5 φ) σ x σ')(b:o.guard=af)(a:gy N o.dst=ab)
  (k:AK X N Qf (.ops all rest::K) .normal (lC o.dst x φ) σ'):AK X N Qf (.ops all (o::rest)::K) .normal φ σ :=
 AK.one (.md (λ_ _ _ _=>dv b) h) a k
def FF(all:List aw)(φ:Fr)(o:aw):Bool:=match o.guard with
 |none=>ab
 |some (j,b)=>match zR φ all j with
  |some (aa ab)=>b
  |some (aa ae)=>!b
  |_=>ae
def vB{all:List aw}{o:aw}{φ:Fr}(h:FF all φ o=ab):∀ σ s a,cx N σ s φ a->bj o (yielded all.toArray a.tmps)=ab:=by
 intro σ s a f;unfold FF at h;split at h
 .rename_i d;exact dv d
 .rename_i j b d
  split at h
  .rename_i c
   simp only[bj,d,pW c f,h];rfl
  .rename_i c
   simp only[bj,d,pW c f];cases b
   .rfl
   .cases h
  .cases h
end
end
inductive qW where
 |nil (a:Option Addr)
 |row (b cap:Nat)
def lD(bf:qW)(n:Nat):ak:=match bf with
 |.nil a=>.slice a 0 0
 |.row b cap=>.slice (aa ⟨b,0,af⟩) n cap
def Nx(xs:List ak):Nat->List C:=λi=>[.val (xs.getD i aj)]
section
variable {P:aq}{X:Cx P}{N:Nat}{Qf:Post}{K:List It}{φ:Fr}{σ:List aV}{all rest:List aw}{o:aw}
def AW.QQ{ι:Type}{c:Code}{Q:Post}{d:ι->Fr}{σ':ι->List aV}(h:∀ s a,cx N σ s φ a->aJ σ s->∃ (i:ι)(s':St),s'.w=s.w/\cx N (σ' i) s' (d i) a/\aJ (σ' i) s'/\Step σ s (σ' i) s')(k:∀ i,AW X N c Q (d i) (σ' i)):AW X N c Q φ σ:=by
 intro s a m hh b kk cs S hb hQ;obtain⟨i,s',p,l,g,st⟩:=h s a m hh;have f:=st.oG hh;refine .ghost (.of hh g p f) ?_;exact k i s' a l g b kk cs S hb λe j σ2 s2 a2 q n h2 oB=>hQ e j σ2 s2 a2 q n h2 (f.trans oB)
end
section
open Go.Conc (G)
def vu:C->Bool
 |.int _ _|.bool _|.str _|.km|.nV|.zA|.val _=>ab
 |_=>ae
def vv:A->Bool
 |.c x=>vu x
 |.any=>ab
 |_=>ae
def Nv:List A->Bool
 |[]=>ab
 |a::r=>match vv a with|true=>Nv r|false=>ae
def Jn:E1->Bool
 |.one a=>vv a
 |.agg cs=>Nv cs
def FB:List E1->Bool
 |[]=>ab
 |a::r=>match Jn a with|true=>FB r|false=>ae
def QO:D->Bool
 |.e x=>Jn x
 |.eK xs=>FB xs
 |.any=>ab
section
variable {σ σ':List aV}{s s':St}
theorem rG{M M':Mem}{v:ak}{c:C}(h:vu c=ab)(r:Rd M v c):Rd M' v c:=by
 cases r <;> first|(simp[vu] at h;done)|skip
 case int h1=>exact .int h1
 case bool=>exact .bool
 case str h1 h2=>exact .str h1 h2
 case km=>exact .km
 case nV=>exact .nV
 case zA=>exact .zA
 case val h1=>exact .val h1
def FC{v:ak}{a:A}(h:vv a=ab)(r:gx σ s v a):gx σ' s' v a:=by
 cases a with
 |c x=>exact rG h r
 |any=>exact r
 |_=>simp[vv] at h
def FD:∀ {vs:List ak}{cs:List A},Nv cs=ab->dW σ s vs cs->dW σ' s' vs cs
 |[],[],_,_=>trivial
 |[],_::_,_,r=>r.elim
 |_::_,[],_,r=>r.elim
 |v::vs,c::cs,h,r=>by
  simp only[Nv] at h;cases a:vv c with
  |false=>grind
  |true=>simp only[a] at h;exact⟨FC a r.1,FD h r.2⟩
def zB{v:ak}{x:E1}(h:Jn x=ab)(r:mY σ s v x):mY σ' s' v x:=by
 cases x with
 |one a=>exact FC h r
 |agg cs=>obtain⟨vs,b,c⟩:=r;exact⟨vs,b,FD h c⟩
def Bt:∀ {vs:List ak}{cs:List E1},FB cs=ab->gJ σ s vs cs->gJ σ' s' vs cs
 |[],[],_,_=>trivial
 |[],_::_,_,r=>r.elim
 |_::_,[],_,r=>r.elim
 |v::vs,c::cs,h,r=>by
  simp only[FB] at h;cases a:Jn c with
  |false=>grind
  |true=>simp only[a] at h;exact⟨zB a r.1,Bt h r.2⟩
def Nw{v:ak}{d:D}(h:QO d=ab)(r:dc σ s v d):dc σ' s' v d:=by
 cases d with
 |e x=>exact zB h r
 |eK xs=>obtain⟨vs,a,b⟩:=r;exact⟨vs,a,Bt h b⟩
 |any=>trivial
end
def DN:List aV->Bool
 |[]=>ab
 |.dD _::r=>DN r
 |.dead::r=>DN r
 |_=>ae
def Bu:∀ {l:List aV},DN l=ab->∀ B∈l,(∃ H,B=.dD H)∨B=.dead
 |[],_,B,a=>by grind
 |b::r,h,B,a=>by
  have c:((∃ H,b=.dD H)∨b=.dead)/\DN r=ab:=by cases b <;> simp_all [DN]
  rcases fb.1 a with rfl|a
  .exact c.1
  .exact Bu c.2 B a
def jr(σ:List aV)(a:Nat)(u:ak)(k n:Nat)(es:Nat->List C):Prop :=
 ∀ s,aJ σ s->∃ (L:Loc) (M':Mem),s.β[a]?=aa L/\(∀ b o v,s.M b o=aa v->M' b o=aa v)/\(∀ b,b∉L.bs->∀ o,M' b o=s.M b o)/\(∀ b o v,M' b o=aa v->s.w.cell? ⟨b,o,af⟩=aa v) /\
  (∀ b∈L.bs,∀ o,s.M b o=af)/\Rd M' u (.sl ae k n es)
section
variable {P:aq}{X:Cx P}{N:Nat}{Qf:Post}{K:List It}{φ:Fr}{σ:List aV}{all rest:List aw}{o:aw}
def cz.setAt{σ:List aV}{s:St}{d:D}:∀ {vs:List ak}{ds:List D}{p:Nat}{v:ak},cz σ s vs ds->vs[p]?=aa v->dc σ s v d->cz σ s vs (ds.set p d)
 |[],[],_,_,_,h,_=>by grind
 |[],_::_,_,_,h,_,_=>h.elim
 |_::_,[],_,_,h,_,_=>h.elim
 |u::vs,e::ds,0,v,h,a,b=>by simp at a;subst a;exact⟨b,h.2⟩
 |u::vs,e::ds,p+1,v,h,a,b=>⟨h.1,cz.setAt (p:=p) h.2 (by grind) b⟩
def nW(σ:List aV)(ds FE:List D):Prop :=
 ∀ s vs,aJ σ s->cz σ s vs ds->∃ (B:Nat->Prop) (M':Mem),(∀ b,B b->∃ L∈s.β,b∈L.bs)/\(∀ b o v,s.M b o=aa v->M' b o=aa v)/\(∀ b,¬B b->∀ o,M' b o=s.M b o) /\
  (∀ b o v,M' b o=aa v->s.w.cell? ⟨b,o,af⟩=aa v)/\(∀ b,B b->∀ o,s.M b o=af)/\cz σ { s with M:=M' } vs FE
def nW.refl(σ:List aV)(ds:List D):nW σ ds ds:=λs vs hh hr=>⟨λ_=>False,s.M,λ_ h=>h.elim,λ_ _ _ h=>h,λ_ _ _=>rfl,hh.mem,λ_ h=>h.elim,hr⟩
def nW.step{σ:List aV}{ds FE:List D}(h:nW σ ds FE)(p z:Nat){u:ak}{k n:Nat}{es:Nat->List C}(r:FE[p]?=aa (.e (.one (.v u))))(hl:jr σ z u k n es):nW σ ds (FE.set p (.e (.one (.c (.sl ae k n es))))):=by
 classical
 intro s vs hh hr;obtain⟨B,M1,A,t,I,H,F,m⟩:=h s vs hh hr;obtain⟨L,a,j,J,G,O,E,w⟩:=hl s hh;have h1:∀ b o v,M1 b o=aa v->(M1 b o).or (a b o)=aa v:=λb o v d=>by grind
 have h2:∀ b o v,a b o=aa v->(M1 b o).or (a b o)=aa v:=λb o v d=>by
  cases e:M1 b o with
  |none=>grind
  |some v' =>
   grind
 refine⟨λb=>B b∨b∈L.bs,λb o=>(M1 b o).or (a b o),?_,λb o v d=>h1 b o v (t b o v d),?_,?_,?_,?_⟩
 .grind
 .grind
 .intro b o v d;cases e:M1 b o with
  |none=>grind
  |some v'=>grind
 .grind
 .have e1:Ext σ { s with M:=M1 } σ { s with M:=λb o=>(M1 b o).or (a b o) }:=⟨h1,λl B L x j=>⟨B,L,x,j,.refl _ _⟩⟩
  have q:=m.mono e1 hh.len;obtain⟨y,f⟩:=cz.get m;have g:p<vs.length:=by grind
  have i:vs[p]?=aa u:=by
   have:=f p;rw[r,br g] at this;have:=Rd.fZ (show Rd M1 vs[p] (.val u) from this)
   grind
  exact q.setAt i (show dc σ { s with M:=λb o=>(M1 b o).or (a b o) } u (.e (.one (.c (.sl ae k n es)))) from Rd.mono h2 w)
def AK.GV [X.jr] {ι:Type}{fo:an}{xs:Array an}{ats:Array ar}{f:aW}{cap:List C}{r:List D}{res:ι->D}{σ1:ι->List aV}(Nm:cM X f r [] res σ1){FE:List D}
  (hgd:FF all φ o=ab) (ho:o.op=.call { callee:=.value fo,args:=xs,argTypes:=ats }) (hf:eQ (b5 φ fo)=aa (f,cap)) (hl:nW σ (xs.toList.map (b5 φ)++fY cap) FE)
  {ps:List Prop} (TS:xE FE (iX [] r)=aa ps) (hps:ag ps) (hin:oF 0 r=ab) (yi:∀ j,QO (res j)=ab) (mo:∀ j,DN (σ1 j)=ab) (hN:gy N o.dst=ab)
  (kk:∀ j,AK X N Qf (.ops all rest::K) .normal (lC o.dst (res j) φ) (σ++σ1 j)):AK X N Qf (.ops all (o::rest)::K) .normal φ σ:=by
 intro s a Z hh b kx cs S idx hb jH hQ;cases idx with
 |nil=>exact jH.elim
 |cons i idx =>
 obtain⟨hi,jH⟩:=jH;have ZE:=dX Z fo;unfold eQ at hf;split at hf
 case h_2=>cases hf
 case h_1 f' Jc he =>
  cases hf;rw[he] at ZE;have R:=fy ZE;generalize F:a.eval fo=fv at R;cases R with
  |fn fs mc hlf WL f1 f2 h1 h2 r1 r2 =>
   have WM:fs=[]:=hZ hlf;subst WM;have V:cz σ s mc (fY cap):=lP (λj c hj=>⟨f2 j,h2 j (by grind),r2 j c hj⟩) WL
   have J:cz σ s (xs.toList.map a.eval++mc) (xs.toList.map (b5 φ)++fY cap):=(nQ (dX Z) xs.toList).append V;generalize IZ:xs.toList.map a.eval++mc=vs at J;obtain⟨⟨fn,TT,QP,TU⟩,U⟩:=Nm;have vA:∀ w,(ay a.eval o).run P w=.ok (.enter f vs.toArray) w:=λw=>by grind [gM]
   have WN:∀ w,(ay a.eval o).events P w #[]=#[]:=λw=>(gM ho TT QP TU F w).2
   refine .next rfl λm Tc=>?_
   have hr:=X.ik Tc;have e:=hh.rely hr;have Y:=Z.rely hr hh;have TV:cz σ m vs (xs.toList.map (b5 φ)++fY cap):=J.mono hr.stepW.ext hh.len;obtain⟨B,M',hBL,m1,m2,m3,m4,m5⟩:=hl m vs e TV
   let sc:St:={ m with β:=[],M:=M',own:=λb=>m.own b∨∃ L∈m.β,b∈L.bs }
   have hhc:aJ [] sc:=by
    refine⟨m3,rfl,by simp,by grind,by grind,λb hb=>⟨?_,by grind⟩⟩
    rcases hb with hb|⟨L',p,hb⟩
    .exact(e.own b hb).1
    .exact e.lt L' p b hb
   have hg1:eR m sc:=by
    refine⟨rfl,m1,λb hb o=>m2 b (λQ=>by grind) o,m3,λb hb=>?_⟩
    grind
   have G:cz [] sc vs r:=by
    have a3:=uY TS hps m5;exact(cz.sub (ks:=[]) (σ:=σ) (σ':=[]) (s:={ m with M:=M' }) (β':=[]) rfl rfl a3 hin).mono (σ:=[]) (s:={ m with β:=[],M:=M' }) (σ':=[]) (s':=sc) ⟨λ_ _ _ h=>h,λl B L Q hL=>by grind⟩ rfl
   refine⟨_,m,_,oS hi (vB hgd _ _ _ Y) hb (vA m.w),⟨⟨σ,σ,e,e,.refl _ _⟩,eZ.seen (by rw[WN];exact .nil)⟩,.ghost hg1 (U sc vs G hhc S _ λj fr v s2 GQ mQ Dr oB=>?_)⟩
   refine pM (cs:=cs) (c:=b.aT a (.inRegion all.toArray (i::idx)::kx)) Dr GQ λy Td=>?_
   have u:=Dr.rely Td;have n:=oB.trans Td.stepW;have W:=mQ.mono Td.stepW.ext Dr.len
   classical
   let O:Mem:=λb o=>if B b then m.M b o else y.M b o
   have x:∀ b,(m.own b∨∃ L∈m.β,b∈L.bs)->y.own b:=λb hb=>by rw[n.own];exact hb
   have ZF:mR y { y with M:=O }:=by
    refine⟨rfl,rfl,rfl,λb o v F=>?_,λb o v F=>?_⟩
    .grind
    grind
   refine .forget Cx.jr.ok ZF ?_;have ZG:∀ b o v,O b o=aa v->y.M b o=aa v:=ZF.less
   let s5:St:={ y with M:=O,β:=m.β++y.β,own:=m.own }
   have ZH:∀ b o v,m.M b o=aa v->O b o=aa v:=λb o v F=>by
    by_cases d:B b
    .grind
    .simp only[O,d,cd];exact n.mem b o v (m1 b o v F)
   have ZI:∀ b,b<m.w.heap.size->∀ o,O b o=m.M b o:=λb hb o=>by
    by_cases d:B b
    .grind
    .simp only[O,d,cd];rw[n.jz b hb (by grind) o];grind
   have TX:y.β.length=(σ1 j).length:=u.len;have ex:Ext σ m (σ++σ1 j) s5:=by
    refine⟨ZH,λl B L Q hL=>⟨B,L,?_,?_,.refl _ _⟩⟩
    .grind
    grind
   have Ds:m.w.heap.size<=y.w.heap.size:=n.size;have z:∀ (l:Nat) (L':Loc),(m.β++y.β)[l]?=aa L'->(l<m.β.length/\m.β[l]?=aa L')∨(m.β.length<=l/\y.β[l-m.β.length]?=aa L'):=λl L' h=>by
    grind
   have hh5:aJ (σ++σ1 j) s5:=by
    refine⟨λb o v F=>u.mem b o v (ZG b o v F),by simp[s5,e.len,TX],?_,?_,?_,?_⟩
    .intro l B L' Q p;rcases z l L' p with⟨sV,h1⟩|⟨Te,h1⟩
     .rw[jD (by rw[<-e.len];exact sV)] at Q
      exact(e.box l B L' Q h1).carry ex e.len λg d=>⟨n.eN g (.inr ⟨L',bU h1,d⟩),ZI g (e.lt L' (bU h1) g d)⟩
     .rw[gk (by rw[<-e.len];exact Te),<-e.len] at Q
      have hbx:=u.box _ B L' Q h1;rcases Bu (mo j) B (bU Q) with⟨H,rfl⟩|rfl
      .obtain⟨ch,c1,c2,c3,c4⟩:=hbx;refine⟨ch,c1,c2,c3,λg d o=>?_⟩
       grind
      .trivial
    .intro l l' L1 L2 hL1 hL2 g E I;rcases z l L1 hL1 with⟨sV,h1⟩|⟨Te,h1⟩ <;> rcases z l' L2 hL2 with⟨abJ,h2⟩|⟨abK,h2⟩
     .exact e.gg l l' L1 L2 h1 h2 g E I
     .exact absurd I ((u.own g (x g (.inr ⟨L1,bU h1,E⟩))).2 L2 (bU h2))
     .exact absurd E ((u.own g (x g (.inr ⟨L2,bU h2,I⟩))).2 L1 (bU h1))
     .have:=u.gg _ _ L1 L2 h1 h2 g E I;omega
    .intro L' p g d;rcases gC.1 p with h|h
     .exact cG (e.lt L' h g d) Ds
     .exact u.lt L' h g d
    .intro g d;refine⟨cG (e.own g d).1 Ds,λL' p=>?_⟩
     rcases gC.1 p with h|h
     .exact(e.own g d).2 L' h
     .exact(u.own g (x g (.inl d))).2 L' h
   have hg5:eR { y with M:=O } s5:=by
    refine⟨rfl,λ_ _ _ h=>h,λ_ _ _=>rfl,λb o v F=>u.mem b o v (ZG b o v F),λg d=>?_⟩
    grind
   have T:cD σ m (σ++σ1 j) s5:=by
    refine⟨Ds,λg d=>n.eN g (.inl d),ZH,λg d _ o=>ZI g d o,λL' p g d=>?_,ex.box,n.os,n.tape,n.output,rfl⟩
    rcases gC.1 p with h|h
    .grind
    .rcases n.xC L' h g d with h1|⟨L0,h1,_⟩
     .grind
     grind
   refine .ghost hg5 ?_;have A:=kg (b:=b) (a:=a) (k:=kx) all.toArray i idx v;rw[hi] at A;simp only[nF] at A;rw[A];refine kk j s5 _ ?_ hh5 b kx cs S idx hb jH λφ2 σ2 s6 a2 q f2 h2 st=>hQ φ2 σ2 s6 a2 q f2 h2 ((hr.stepW.trans T).trans st)
   cases hd:o.dst with
   |none=>exact Y.mono T e.len
   |some t=>exact(Y.mono T e.len).put (il hN t hd) (Nw (yi j) W)
def AK.Jo [X.jr] {ι:Type}{t:an}{xs:Array an}{g:Array ar}{f:aW}{cap:List C}{a:List D}{res:ι->D}{σ1:ι->List aV}(h:cM X f a [] res σ1)(r p:Nat){u:ak}{k n:Nat}{es:Nat->List C}
  (q:FF all φ o=ab) (y:o.op=.call { callee:=.value t,args:=xs,argTypes:=g }) (w:eQ (b5 φ t)=aa (f,cap)) (z:(xs.toList.map (b5 φ)++fY cap)[p]?=aa (.e (.one (.v u)))) (hl:jr σ r u k n es)
  {ps:List Prop} (b:xE ((xs.toList.map (b5 φ)++fY cap).set p (.e (.one (.c (.sl ae k n es))))) (iX [] a)=aa ps) (l:ag ps) (m:oF 0 a=ab) (d:∀ j,QO (res j)=ab) (i:∀ j,DN (σ1 j)=ab) (x:gy N o.dst=ab)
  (kk:∀ j,AK X N Qf (.ops all rest::K) .normal (lC o.dst (res j) φ) (σ++σ1 j)):AK X N Qf (.ops all (o::rest)::K) .normal φ σ :=
 AK.GV h q y w ((nW.refl _ _).step p r z hl) b l m d i x kk
end
end
def hU(E:ar)(k:Nat)(bf:qW)(n:Nat)(xs:List ak):ak->(Nat->Option Obj)->Prop:=λv a=>v=.nilFunc/\(∀ x∈xs,cZ x=ab)/\xs.length=n*k/\match bf with
 |.nil _=>n=0/\a=λ_=>af
 |.row b cap=>n<=cap/\cap<=9223372036854775807/\∃ c,(xs++c).length=cap*k/\a=λd=>if d=b then aa (.cells (xs++c).toArray E (0,0)) else af
def sX(k:Nat)(xs:List ak):Nat->List C:=λi=>((xs.drop (i*k)).take k).map .val
def Bv{k n i:Nat}{xs:List ak}(a:xs.length=n*k)(hi:i<n):(sX k xs i).length=k:=by
 have:i*k+k<=n*k:=by rw[<-k9];exact et _ hi
 simp[sX,a];omega
def Bw{k i j:Nat}{xs:List ak}{c:C}(h:(sX k xs i)[j]?=aa c):∃ u,xs[i*k+j]?=aa u/\c=.val u:=by
 simp only[sX,nE,gQ,nH] at h
 grind
def hU.lookup{E:ar}{k b cap n:Nat}{xs:List ak}{v:ak}{ch:Nat->Option Obj}(h:hU E k (.row b cap) n xs v ch):∃ a,(xs++a).length=cap*k/\ch b=aa (.cells (xs++a).toArray E (0,0))/\∀ c,(ch c).isSome=ab↔c=b:=by
 obtain⟨_,_,_,_,_,a,h1,h2⟩:=h
 grind
def Rd.TY{M:Mem}{b cap k n:Nat}{xs:List ak}(e:∀ x∈xs,cZ x=ab)(hl:xs.length=n*k)(hn:n<=cap)(d:cap<=9223372036854775807)(f:∀ o,M b o=xs[o]?):Rd M (.slice (aa ⟨b,0,af⟩) n cap) (.sl ae k n (sX k xs)):=by
 refine Rd.qw (M:=M) (k:=k) (n:=n) (es:=sX k xs) (vs:=xs) (a:=aa ⟨b,0,af⟩) (b:=b) (off:=0) (cap:=cap) (t:=ae) ⟨hl,λi hi=>Bv hl hi,λi hi j c hj=>?_⟩ (λ_=>rfl) hn d (by simp) (λp u g=>by grind)
 obtain⟨u,h1,rfl⟩:=Bw hj;exact⟨u,h1,.val (e u (bU h1))⟩
section
variable {P:aq}{X:Cx P}{N:Nat}{Qf:Post}{K:List It}{φ:Fr}{σ:List aV}{all rest:List aw}{o:aw}
def hU.FG{E:ar}{k n f:Nat}{bf:qW}{xs:List ak}(hl:σ[f]?=aa (.dD (hU E k bf n xs)))(es:Nat->List C)(w:∀ i,i<n->(es i).length=k/\∀ M j c x,(es i)[j]?=aa c->xs[i*k+j]?=aa x->Rd M x c):jr σ f (lD bf n) k n es:=by
 intro s hh;have J:f<σ.length:=(cr.1 hl).1;have m:f<s.β.length:=by rw[hh.len];grind
 have z:=br m;generalize s.β[f]=L at z;obtain⟨ch,G,d,F,e⟩:=hh.box f _ L hl z;cases bf with
 |nil a0 =>
  obtain⟨_,_,_,rfl,_⟩:=G;exact⟨L,s.M,z,λ_ _ _ h=>h,λ_ _ _=>rfl,hh.mem,e,Rd.jJ⟩
 |row b cap =>
  obtain⟨V,O,y,I⟩:=G.lookup;obtain⟨R,B,r,q,D,_⟩:=G;have H:b∈L.bs:=(F b).2 (by grind)
  have l:=d b _ y;obtain⟨c1,c2⟩:=hh.zv (b:=b) (vs:=xs) (e b H) (λo v T=>by
   simp only[a9,l]
   grind)
  refine⟨L,λA o=>if A=b then xs[o]? else s.M A o,z,c2,λA S o=>aY (by grind),c1.mem,e,?_⟩
  refine Rd.qw (k:=k) (n:=n) (es:=es) (vs:=xs) (a:=aa ⟨b,0,af⟩) (b:=b) (off:=0) (cap:=cap) (t:=ae) ⟨r,λi hi=>(w i hi).1,λi hi j c hj=>?_⟩ (λ_=>rfl) q D (by simp) (λp u U=>by grind)
  have Q:j<k:=by grind
  have g:i*k+j<xs.length:=by
   rw[r];have:i*k+k<=n*k:=by rw[<-k9];exact et _ hi
   omega
  exact⟨xs[i*k+j],br g,(w i hi).2 _ j c _ hj (br g)⟩
def AK.DO{k:Nat}{x y:an}{E:ar}{Y:TI}(h:mj P o x y E Y)(hs:Y.size=k){d:Nat}(hd:o.dst=aa d)(hg:o.guard=af)(hN:gy N o.dst=ab){l:Nat}{bf:qW}{xs:List ak}{n:Nat}(hx:b5 φ x=.e (.one (.v (lD bf n))))
  (hl:σ[l]?=aa (.dD (hU E k bf n xs))) {tx:Bool} {es':Nat->List C} (hy:b5 φ y=.e (.one (.c (.sl tx k 1 es')))) {xv:List ak} (hxv:xv.length=k) (hcx:∀ (M:Mem) (v:ak) (j:Nat) (c:C),(es' 0)[j]?=aa c->Rd M v c->xv[j]?=aa v/\cZ v=ab) (hb:(n+1)*Y.bytes<=140737488355328)
  (kk:∀ m:qW,AK X N Qf (.ops all rest::K) .normal ((d,.e (.one (.v (lD m (n+1)))))::φ) (σ.set l (.dD (hU E k m (n+1) (xs++xv))))):AK X N Qf (.ops all (o::rest)::K) .normal φ σ:=by
 refine AK.hand (ι:=qW) (λm=>.e (.one (.v (lD m (n+1))))) (λm=>σ.set l (.dD (hU E k m (n+1) (xs++xv)))) hg hN ?_ λm=>by rw[hd];exact kk m
 intro s a hf hh;obtain⟨t,t2,i,i2,ho,hi,G,J,F⟩:=h.op;have QH:l<σ.length:=(cr.1 hl).1;have QI:l<s.β.length:=by rw[hh.len];grind
 have hL:=br QI;generalize s.β[l]=L at hL;obtain⟨ch,Z,T,TG,WO⟩:=hh.box l _ L hl hL;have W:=bU hL;have S:=dX hf x;rw[hx] at S;have S:=Rd.fZ S;have hw:=dX hf y;rw[hy] at hw;have hw:=fy hw;have Q:=Z.2.1;have R:=Z.2.2.1;have nM:∀ b,s.w.heap.size<=b->∀ o,s.M b o=af:=λb hb o=>by
  cases hm:s.M b o with
  |none=>rfl
  |some v=>have:=hh.block hm;omega
 have mk:∀ (M':Mem) (a0:Option Addr) (cap:Nat),lD bf n=.slice a0 n cap->cap<n+1->aJ (σ.map λ_=>.dead) { s with M:=M' }->(∀ g o v,s.M g o=aa v->M' g o=aa v) ->
   Rd M' (.slice a0 n cap) (.sl ae k n (sX k xs))->(∀ {es},eZ { s with M:=M' } es->eZ s es) ->
   ∃ i nx s' v,(ay a.eval o).run P s.w=.ok nx s'.w/\(nx=.value v∨(nx=.skip/\v=aj))/\dc (σ.set l (.dD (hU E k i (n+1) (xs++xv)))) s' v (.e (.one (.v (lD i (n+1)))))/\aJ (σ.set l (.dD (hU E k i (n+1) (xs++xv)))) s'/\Step σ s (σ.set l (.dD (hU E k i (n+1) (xs++xv)))) s'/\eZ s ((ay a.eval o).events P s.w #[]):=by
  intro M' a0 cap hsl GW QL hMM hR VZ;have H:Rd ({ s with M:=M' }:St).M (a.eval y) (.sl tx Y.size 1 es'):=by rw[hs];exact hw.mono hMM
  have ZK:Rd ({ s with M:=M' }:St).M (.slice a0 n cap) (.sl ae Y.size n (sX k xs)):=by grind
  obtain⟨vs,p,B,D,f2,f3,f4,f5⟩:=im (P:=P) (s:={ s with M:=M' }) (ty:=o.type) hi G J F h.elem QL ZK H GW hb h.bytes;have f6:=iV (P:=P) (s:={ s with M:=M' }) (ty:=o.type) hi G J F h.elem QL ZK H GW hb h.bytes;rw[hs] at D f4;have PF:vs.length=(n+1)*k:=D.len;have M6:xs.length+k=(n+1)*k:=by grind
  have hk0:0<k:=by have:=h.size;omega
  have Tf:∀ j,j<k->∃ v,vs[n*k+j]?=aa v/\xv[j]?=aa v/\cZ v=ab:=λj hj=>by
   have QR:=D.width n (by omega)
   have hwn:cR n (sX k xs) es' n=es' 0:=by simp[cR]
   rw[hwn] at QR;obtain⟨v,v1,v2⟩:=D.rd n (by omega) j ((es' 0)[j]'(by omega)) (by grind)
   grind
  have IZ:vs=xs++xv:=by
   apply iM
   intro q
   by_cases e:q<xs.length
   .have hi:q / k<n:=pE (by grind)
    have TE:q / k*k+q % k=q:=pG q k;have hwl:=Bv (k:=k) R hi;have hap:cR n (sX k xs) es' (q / k)=sX k xs (q / k):=by simp[cR,hi]
    have hjl:q % k<(sX k xs (q / k)).length:=by rw[hwl];exact jG _ hk0
    obtain⟨v,v1,v2⟩:=D.rd (q / k) (by omega) (q % k) ((sX k xs (q / k))[q % k]) (by grind)
    obtain⟨u,u1,u2⟩:=Bw (br hjl)
    grind [Rd.fZ]
   grind
  subst IZ;have WQ:∀ x∈xv,cZ x=ab:=λx hx=>by
   grind [List.getElem_of_mem]
  let w':az:=s.w.drew.alloc (.cells (xs++xv++p).toArray E)
  have Jj:w'.heap[s.w.heap.size]?=aa (.cells (xs++xv++p).toArray E (0,0)):=dx s.w.drew _;have Ds:w'.heap.size=s.w.heap.size+1:=by show (s.w.drew.heap.push _).size=_;simp
  obtain⟨t1,V⟩:=hh.ld (l:=l) (H':=hU E k (.row s.w.heap.size B) (n+1) (xs++xv)) (L':=⟨L.v,[s.w.heap.size]⟩) (w':=w') hl hL rfl (by omega)
   (λb hb _=>cK s.w.drew _ hb) (λb hb=>by grind)
   ⟨λg=>if g=s.w.heap.size then aa (.cells (xs++xv++p).toArray E (0,0)) else af,⟨Z.1,λx hx=>by
    grind,by grind,f2,f3,p,by rw[f4],rfl⟩,λb o hb=>by
    grind,λb=>by by_cases e:b=s.w.heap.size <;> simp[e]⟩ rfl rfl rfl
  refine⟨.row s.w.heap.size B,.value (.slice (aa ⟨s.w.heap.size,0,af⟩) (n+1) B),_,_,?_,.inl rfl,Rd.val rfl,t1,V,?_⟩
  .rw[c6 ho,S,hsl];simp only[bY,cY];have f5':(Builtin.append_ #[t,t2] o.type #[.slice a0 n cap,a.eval y]).run P s.w=_:=f5;rw[f5'];rfl
  grind [c6,ey]
 cases bf with
 |nil a0 =>
  obtain⟨_,_,_,rfl,_⟩:=Z;refine mk s.M a0 0 rfl (by simp) (by have:=hh.lE;exact⟨this.mem,this.len,this.box,this.gg,this.lt,this.own⟩) (λ_ _ _ h=>h) Rd.jJ (λh=>h)
 |row b cap =>
  obtain⟨p,WR,QS,TZ⟩:=Z.lookup;obtain⟨PG,_,_,GW,No,_⟩:=Z;have I:b∈L.bs:=(TG b).2 (by grind)
  have z:=T b _ QS;have ZL:=WO b I;have WT:b<s.w.heap.size:=hh.lt L W b I;have PE:∀ o v,xs[o]?=aa v->s.w.cell? ⟨b,o,af⟩=aa v:=by
   intro o v ho;simp only[a9,z]
   grind
  obtain⟨c1,c2⟩:=hh.zv (b:=b) (vs:=xs) ZL PE;have VZ:∀ {es:Array Event},eZ { s with M:=λg o=>if g=b then xs[o]? else s.M g o } es->eZ s es:=λhe =>
   he.vp (b:=b) W I c2 λg o v S=>by
    grind
  have hR:=Rd.TY (M:=λg o=>if g=b then xs[o]? else s.M g o) (b:=b) (cap:=cap) (xs:=xs) Q R GW No (λo=>by simp)
  by_cases r:n+1<=cap
  .have H:Rd ({ s with M:=λg o=>if g=b then xs[o]? else s.M g o }:St).M (a.eval y) (.sl tx Y.size 1 es'):=by rw[hs];exact hw.mono c2
   obtain⟨f,D,f2⟩:=kh (P:=P) (s:={ s with M:=λg o=>if g=b then xs[o]? else s.M g o }) (ty:=o.type) (n:=n) (b:=b) (cap:=cap) hi G J F h.elem c1 z (by grind) H r
   have f6:=lQ (P:=P) (s:=s) (ty:=o.type) (n:=n) (b:=b) (cap:=cap) hi G J F h.elem hh z (by grind) (x:=a.eval y) (tx:=tx) (es':=es') (by grind) r W I (λo _=>ZL o)
   rw[hs] at D f2;have TC:f.length=k:=by have:=D.len;omega
   have hw0:=D.width 0 (by omega)
   have Tf:∀ j,j<k->∃ v,f[j]?=aa v/\xv[j]?=aa v/\cZ v=ab:=λj hj=>by
    obtain⟨v,v1,v2⟩:=D.rd 0 (by omega) j ((es' 0)[j]'(by omega)) (br (by omega))
    grind
   have O:f=xv:=by
    apply iM
    grind
   subst O;have WQ:∀ x∈f,cZ x=ab:=λx hx=>by
    grind [List.getElem_of_mem]
   have hfk:n*k+k<=cap*k:=by rw[<-k9];exact et _ r
   have hzk:k<=p.length:=by grind
   have U:((xs++p).take (n*k)++f++(xs++p).drop (n*k+f.length))=xs++f++p.drop k:=by
    rw[<-R,TC];simp[List.drop_append]
   rw[U] at f2;have QE:(s.w.setRow b (xs++f++p.drop k).toArray).heap[b]?=aa (.cells (xs++f++p.drop k).toArray E (0,0)):=setRow_heap s.w b _ _ E _ z;have DQ:∀ g,g≠b->(s.w.setRow b (xs++f++p.drop k).toArray).heap[g]?=s.w.heap[g]?:=λg A=>setRow_other s.w b g _ A
   obtain⟨t1,V⟩:=hh.ld (l:=l) (H':=hU E k (.row b cap) (n+1) (xs++f)) (L':=L) (w':=s.w.setRow b (xs++f++p.drop k).toArray) hl hL rfl (by simp)
    (λg A hn=>DQ g (by grind)) (λg A=>.inl A)
    ⟨λg=>if g=b then aa (.cells (xs++f++p.drop k).toArray E (0,0)) else af,⟨PG,λx hx=>by
     grind,by grind,r,No,p.drop k,by grind,rfl⟩,λg o A=>by
     grind,λg=>by
     grind⟩ rfl rfl rfl
   refine⟨.row b cap,.value (.slice (aa ⟨b,0,af⟩) (n+1) cap),_,_,?_,.inl rfl,Rd.val rfl,t1,V,?_⟩
   .rw[c6 ho,S];simp only[bY,cY,lD];have f2':(Builtin.append_ #[t,t2] o.type #[.slice (aa ⟨b,0,af⟩) n cap,a.eval y]).run P s.w=_:=f2;rw[f2'];rfl
   .rw[c6 ho,S];exact ey f6
  .exact mk _ (aa ⟨b,0,af⟩) cap rfl (by omega) c1 c2 hR VZ
def AK.Ny(t:Nat)(E:ar)(k:Nat){i:Nat}{es:Nat->List C}{c:Code}(j:look φ t=.e (.one (.c (.sl ab i 0 es))))
  (kk:∀ bf:qW,AK X N Qf (.code c::K) .normal ((t,.e (.one (.v (lD bf 0))))::φ) (σ++[.dD (hU E k bf 0 [])])):AK X N Qf (.code c::K) .normal φ σ:=by
 refine AW.QQ (λs a d hh=>?_) kk
 have f:=d.slot t;rw[j] at f;obtain⟨a0,cap,vs,g,_,_,b,_,_⟩:=(fy f).flat;have b:=b rfl;subst b;obtain⟨h,g2⟩:=hh.gT (B:=.dD (hU E k (.nil a0) 0 [])) (L:=⟨.nilFunc,[]⟩) (.refl _ _) rfl hh ⟨λ_=>af,⟨rfl,by simp,by simp,rfl,rfl⟩,by simp,by simp,by simp⟩ (by simp)
 refine⟨.nil a0,{ s with β:=s.β++[⟨.nilFunc,[]⟩] },rfl,⟨d.size,d.defers.imp λ_ h1=>h1.mono g2.ext,λu=>?_⟩,h,g2⟩
 simp only[look];cases hb:aG t u with
 |false=>exact(d.slot u).mono g2.ext hh.len
 |true =>
  have e:=bX hb;subst e;show Rd _ _ _;rw[g];exact Rd.val rfl
def AK.DR(t l:Nat){E:ar}{k n:Nat}{bf:qW}{xs:List ak}(es:Nat->List C){c:Code}(z:look φ t=.e (.one (.v (lD bf n))))(hl:σ[l]?=aa (.dD (hU E k bf n xs)))(g:∀ i,i<n->(es i).length=k/\∀ M j c x,(es i)[j]?=aa c->xs[i*k+j]?=aa x->Rd M x c)
  (kk:AK X N Qf (.code c::K) .normal ((t,.e (.one (.c (.sl ae k n es))))::φ) (σ.set l .dead)):AK X N Qf (.code c::K) .normal φ σ:=by
 refine AK.ghost (λs a f hh=>?_) kk
 obtain⟨L,M',r,p,q,w,F,A⟩:=hU.FG hl es g s hh;have d:l<σ.length:=(cr.1 hl).1;have m:=f.slot t;rw[z] at m;have D:=Rd.fZ m;have ex:Ext σ s (σ.set l .dead) { s with M:=M' }:=by
  refine⟨p,λl' B L' ot gw=>?_⟩
  by_cases e:l=l'
  .subst e;rw[hl] at ot;cases ot;exact⟨.dead,L',by grind,gw,rfl⟩
  .exact⟨B,L',by grind,gw,.refl _ _⟩
 have st:Step σ s (σ.set l .dead) { s with M:=M' }:=by
  refine⟨bg _,λ_ _ _=>rfl,p,λb _ hn o=>q b (hn L (bU r)) o,λL h b hb=>.inr ⟨L,h,hb⟩,ex.box,rfl,rfl,rfl,rfl⟩
 refine⟨{ s with M:=M' },rfl,⟨f.size,f.defers.imp λ_ h1=>h1.mono st.ext,λu=>?_⟩,⟨w,by simp[hh.len],?_,hh.gg,hh.lt,hh.own⟩,st⟩
 .simp only[look];cases hb:aG t u with
  |false=>exact(f.slot u).mono st.ext hh.len
  |true =>
   have e:=bX hb;subst e;show Rd _ _ _
   grind
 .intro l' B L' ot gw
  by_cases e:l=l'
  .subst e;rw[fI d] at ot;cases ot;trivial
  .rw[iL e] at ot;exact(hh.box l' B L' ot gw).carry ex hh.len λb hb=>⟨rfl,q b λy=>e (hh.gg l l' L L' r gw b y hb)⟩
end
section
open Go.Conc (G)
structure ee (k n:Nat)(es:Nat->List C)(xs:List ak):Prop where
 len:xs.length=n*k
 wid:∀ i,i<n->(es i).length=k
 at':∀ i,i<n->∀ j c,(es i)[j]?=aa c->∃ x,xs[i*k+j]?=aa x/\∀ M,Rd M x c
def ee.rd{k n:Nat}{es:Nat->List C}{xs:List ak}(h:ee k n es xs):∀ i,i<n->(es i).length=k/\∀ M j c x,(es i)[j]?=aa c->xs[i*k+j]?=aa x->Rd M x c:=λi hi =>
 ⟨h.wid i hi,λM j c x hj hx=>by obtain⟨y,h1,h2⟩:=h.at' i hi j c hj;grind⟩
def P7(v:ak):A->A
 |.vec 0 _ _ _=>.v v
 |a=>a
def Ks(v:ak):E1->E1
 |.one a=>.one (P7 v a)
 |e=>e
def Eg(v:ak):List E1->List E1
 |[]=>[]
 |a::r=>Ks v a::Eg v r
def P8(v:ak):D->D
 |.e x=>.e (Ks v x)
 |.eK xs=>.eK (Eg v xs)
 |.any=>.any
def n9(n:Nat):A->Bool
 |.vec 0 _ b _=>aG b n
 |a=>vv a
def sh(n:Nat):E1->Bool
 |.one a=>n9 n a
 |e=>Jn e
def pg(n:Nat):List E1->Bool
 |[]=>ab
 |a::r=>match sh n a with|true=>pg n r|false=>ae
def Ah(n:Nat):D->Bool
 |.e x=>sh n x
 |.eK xs=>pg n xs
 |.any=>ab
section
variable {σ':List aV}{s s':St}{E:ar}{k n:Nat}{es:Nat->List C}{L:Loc}
def Kt(i:s.β[0]?=aa L){v:ak}{a:A}(h:n9 n a=ab)(r:gx [aV.vec E k n es] s v a):gx σ' s' v (P7 L.v a):=by
 cases a with
 |c x=>exact rG h r
 |any=>exact r
 |vec l k' n' es' =>
  cases l with
  |zero =>
   obtain⟨g,_,b⟩:=r;have b:=b E k n es rfl;have e:=bX h;obtain⟨L',d,f⟩:=b.2 e.symm;rw[i] at d;cases d;show Rd _ _ _;rw[f];exact .val (f▸g.cell)
  |succ l=>simp[n9,vv] at h
 |ptr=>simp[n9,vv] at h
 |ref=>simp[n9,vv] at h
 |bp=>simp[n9,vv] at h
def B9(b:s.β[0]?=aa L){v:ak}{x:E1}(h:sh n x=ab)(r:mY [aV.vec E k n es] s v x):mY σ' s' v (Ks L.v x):=by
 cases x with
 |one a=>exact Kt b h r
 |agg cs=>exact zB (x:=.agg cs) h r
def yz(b:s.β[0]?=aa L):∀ {vs:List ak}{cs:List E1},pg n cs=ab->gJ [aV.vec E k n es] s vs cs->gJ σ' s' vs (Eg L.v cs)
 |[],[],_,_=>trivial
 |[],_::_,_,r=>r.elim
 |_::_,[],_,r=>r.elim
 |v::vs,c::cs,h,r=>by
  simp only[pg] at h;cases a:sh n c with
  |false=>grind
  |true=>simp only[a] at h;exact⟨B9 b a r.1,yz b h r.2⟩
def Ca(a:s.β[0]?=aa L){v:ak}{d:D}(h:Ah n d=ab)(r:dc [aV.vec E k n es] s v d):dc σ' s' v (P8 L.v d):=by
 cases d with
 |e x=>exact B9 a h r
 |eK xs=>obtain⟨vs,b,c⟩:=r;exact⟨vs,b,yz a h c⟩
 |any=>trivial
end
def vf:List ResultVar->Bool
 |[]=>ab
 |.tmp _::r=>vf r
 |.cell _ _::_=>ae
def tZ{P:aq}{a:Act}:∀ {rs:List ResultVar},vf rs=ab->∃ vs,(∀ w,(rs.mapM (fU a)).run P w=Result.ok vs w)/\cO P (rs.mapM (fU a))
 |[],_=>⟨[],by simp,by rw[List.mapM_nil];exact .pure⟩
 |.tmp t::r,h=>by
  obtain⟨vs,b,c⟩:=tZ (P:=P) (a:=a) (rs:=r) h;refine⟨a.tmps.getD t aj::vs,λw=>?_,?_⟩
  .simp only[lA,bY,fU,cY,b9,b]
  .rw[lA];exact .bind .pure λ_=>.bind c λ_=>.pure
def ux.tmp{P:aq}{f:aW}{fn:Func}{fr:aR}{v:ak}{s s':St}(h:ux P f fr v s)(x:P.funcs[f]?=aa fn)(t:vf fn.results.toList=ab)(l:∀ b o u,s.M b o=aa u->s.w.cell? ⟨b,o,af⟩=aa u):ux P f fr v s':=by
 obtain⟨h1,h2,g,j,c,i,p⟩:=h;have e:c=fn:=by grind
 subst e
 let a:Act:={ tmps:=fr.tmps,defers:=[] }
 obtain⟨vs,k1,m⟩:=tZ (P:=P) (a:=a) t;have e1:∀ w,(c.results.mapM (fU a)).run P w=Result.ok vs.toArray w:=λw=>by
  grind [Array.mapM_eq_mapM_toList,Sem.run_map,Go.Result.andThen_ok]
 have e2:∀ w,(results c fr.tmps).run P w=.ok (if h:vs.toArray.size=1 then vs.toArray[0] else .tuple vs.toArray) w:=λw=>by
  unfold results;rw[bY];refine(du (λr=>Result.andThen r _) (e1 w)).trans ?_
  simp
 have e3:cO P (results c fr.tmps):=by
  unfold results;have e:cO P (c.results.mapM (fU a)):=by
   rw[qv];exact .map m
  exact .bind e λ_=>.pure
 have d:=(p s.w l).1;rw[e2] at d;cases d;exact⟨h1,h2,g,j,c,i,λw _=>⟨e2 w,λe q=>by rw[e3 w #[]] at q;grind⟩⟩
def Ev.thaw{P:aq}{X:Cx P} [X.jr] {f:aW}{args:List D}{res:D}{E:ar}{k n:Nat}{es:Nat->List C}(h:Ev X f args [] res [.vec E k n es]){fn:Func}(hf:P.funcs[f]?=aa fn)(ht:vf fn.results.toList=ab)(K:Ah n res=ab)
  (T:∀ i,i<n->(es i).length=k/\∀ c∈es i,vu c=ab) :
  cM (ι:={ q:qW×List ak // ee k n es q.2 }) X f args [] (λq=>P8 (lD q.1.1 n) res) (λq=>[.dD (hU E k q.1.1 n q.1.2)]):=by
 refine⟨h.1,λs vs hr hh S cs hS=>h.2 s vs hr hh S cs λfr v s' hl mQ lb st=>?_⟩
 have hβ0:s.β=[]:=hZ hh.len;have hlen:s'.β.length=1:=lb.len;obtain⟨L,Q⟩:∃ L,s'.β=[L]:=by
  match hq:s'.β with
  |[L]=>grind
  |[]=>grind
  |_::_::_=>grind
 have hL:s'.β[0]?=aa L:=by grind
 obtain⟨ZZ,ZX⟩:=lb.box 0 _ L rfl hL;rcases ZX with⟨⟨TG,WE⟩,t⟩|⟨b,cap,cells,Z,H,V,yi⟩
 .subst WE;obtain⟨a,cap,vs0,hv,GW,No,Y,_⟩:=t.flat;have F:cap=0:=Y rfl;subst F
  let y:St:={ s' with β:=[⟨.nilFunc,[]⟩] }
  have hg:eR s' y:=⟨rfl,λ_ _ _ h=>h,λ_ _ _=>rfl,lb.mem,λb hb=>by
   grind⟩
  have z:ee k 0 es []:=⟨by simp,λi hi=>by omega,λi hi=>by omega⟩
  refine .ghost hg (hS ⟨(.nil a,[]),z⟩ fr v y (hl.tmp hf ht lb.mem) ?_ ?_ ?_)
  .have:=Ca (σ':=[aV.dD (hU E k (.nil a) 0 [])]) (s':=y) hL K mQ;rw[hv] at this;exact this
  .refine⟨lb.mem,rfl,λl B L' hB gw=>?_,?_,by grind,λb hb=>⟨(lb.own b hb).1,by grind⟩⟩
   .cases l with
    |zero=>cases hB;cases gw;exact⟨λ_=>af,⟨rfl,by simp,by simp,rfl,rfl⟩,by simp,by simp,by simp⟩
    |succ l=>grind
   grind
  .refine⟨st.size,st.eN,st.mem,st.jz,λL' gw b hb=>?_,λl B L' hB=>by grind,st.os,st.tape,st.output,st.own⟩
   grind
 .subst Z;have N:b∈(⟨.slice (aa ⟨b,0,af⟩) n cap,[b]⟩:Loc).bs:=by simp
  have aap:s.w.heap.size<=b:=by
   rcases st.xC _ (by grind) b N with h1|⟨L0,h1,_⟩
   .exact h1
   grind
  have WT:b<s'.w.heap.size:=lb.lt _ (by grind) b N
  obtain⟨a1,ac4,m,WV,r,J,_,hF,hm⟩:=ZZ.flat;cases WV;have O:m.length=n*k:=hF.len;have ac5:∀ p u,m[p]?=aa u->cells[p]?=aa u:=λp u hp=>by
   obtain⟨b1,ac6,e,XW⟩:=hm p u hp;cases e;have:=lb.mem _ _ _ XW;simp only[a9,H] at this;simpa using this
  have hnk:n*k<=cells.length:=by rw[V];exact et _ r
  have P1:cells.take (n*k)=m:=by
   apply iM
   grind
  have QF:m++cells.drop (n*k)=cells:=by grind [List.take_append_drop]
  have z:ee k n es m:=by
   refine⟨O,λi hi=>(T i hi).1,λi hi j c hj=>?_⟩
   obtain⟨u,u1,u2⟩:=hF.rd i hi j c hj
   grind [rG]
  have G:∀ x∈m,cZ x=ab:=λx hx=>by
   obtain⟨p,hp,rfl⟩:=dH hx;have hk:0<k:=by
    grind
   have hi:p / k<n:=pE (by grind)
   have TE:p / k*k+p % k=p:=pG p k;have hj:p % k<(es (p / k)).length:=by rw[(T _ hi).1];exact jG _ hk
   obtain⟨u,u1,u2⟩:=z.at' _ hi _ _ (br hj);rw[TE,br hp] at u1;cases u1;exact(u2 s.M).cell
  have A:∀ d o v',s.M d o=aa v'->d≠b:=λd o v' hm' e=>by
   have:=hh.block hm';omega
  let R:Mem:=λd o=>if d=b then af else s'.M d o
  let s1:St:={ s' with β:=[],own:=λx=>s'.own x∨x=b }
  let s2:St:={ s1 with M:=R }
  let y:St:={ s' with β:=[⟨.nilFunc,[b]⟩],M:=R }
  have I:∀ d o v',R d o=aa v'->s'.M d o=aa v':=λd o v' h'=>by
   grind
  have W:eR s' s1:=⟨rfl,λ_ _ _ h=>h,λ_ _ _=>rfl,lb.mem,λd g=>by
   rcases g with(g|g)|⟨L',gw,_⟩
   .grind
   .exact .inr ⟨_,by rw[Q];simp;rfl,by grind⟩
   grind⟩
  have V2:mR s1 s2:=⟨rfl,rfl,rfl,I,λd o v' h'=>by
   grind⟩
  have U:eR s2 y:=⟨rfl,λ_ _ _ h=>h,λ_ _ _=>rfl,λd o v' h'=>lb.mem _ _ _ (I _ _ _ h'),λd g=>by
   grind⟩
  refine .ghost W (.forget Cx.jr.ok V2 (.ghost U (hS ⟨(.row b cap,m),z⟩ fr v y (hl.tmp hf ht lb.mem) ?_ ?_ ?_)))
  .exact Ca (L:=⟨.slice (aa ⟨b,0,af⟩) n cap,[b]⟩) hL K mQ
  .refine⟨λd o v' h'=>lb.mem _ _ _ (I _ _ _ h'),rfl,λl B L' hB gw=>?_,?_,λL' gw d g=>?_,λd g=>⟨(lb.own d g).1,λL' gw=>?_⟩⟩
   .cases l with
    |zero =>
     cases hB;cases gw;refine⟨λd=>if d=b then aa (.cells (m++cells.drop (n*k)).toArray E (0,0)) else af,⟨rfl,G,O,r,J,cells.drop (n*k),?_,rfl⟩,λd o g=>?_,λd=>?_,λd g o=>?_⟩
     .grind
     .grind
     .by_cases e:d=b <;> simp[e]
     grind
    |succ l=>grind
   .grind
   .grind
   .simp[y] at gw;subst gw;have:=(lb.own d g).2 _ (by rw[Q];simp;rfl)
    grind
  .refine⟨st.size,st.eN,λd o v' h'=>?_,λd g hn o=>?_,λL' gw d g=>?_,λl B L' hB=>by grind,st.os,st.tape,st.output,st.own⟩
   .simp only[y,R,aY (A d o v' h')];exact st.mem _ _ _ h'
   .have:d≠b:=by omega
    simp only[y,R,aY this];exact st.jz d g hn o
   grind
section
variable {P:aq}{X:Cx P}{N:Nat}{Qf:Post}{K:List It}{φ:Fr}{σ:List aV}{all rest:List aw}{o:aw}
def AK.Jp{p:Prop}(h:∀ s,aJ σ s->p)(k:p->AK X N Qf (.ops all rest::K) .normal φ σ):AK X N Qf (.ops all rest::K) .normal φ σ :=
 λs a b hh=>k (h s hh) s a b hh
def hU.len{E:ar}{k n l:Nat}{bf:qW}{xs:List ak}(hl:σ[l]?=aa (.dD (hU E k bf n xs)))(s:St)(hh:aJ σ s):xs.length=n*k/\n<=9223372036854775807/\(0<n->∃ b cap,bf=.row b cap)/\∀ a,bf=.nil a->n=0:=by
 have c:l<s.β.length:=by rw[hh.len];grind
 obtain⟨ch,e,_⟩:=hh.box l _ _ hl (br c);cases bf with
 |nil a=>obtain⟨_,_,f,rfl,_⟩:=e;grind
 |row b cap=>obtain⟨_,_,f,h,g,_⟩:=e;grind
def rH:List A->Bool
 |[]=>ab
 |.c x::r=>match vu x with|true=>rH r|false=>ae
 |_=>ae
def mS(vs:List ak)(cs:List A):Prop:=vs.length=cs.length/\∀ (j:Nat)(c:C),cs[j]?=aa (A.c c)->∃ v,vs[j]?=aa v/\∀ M,Rd M v c
theorem mS.of{σ:List aV}{s:St}:∀ {vs:List ak}{cs:List A},rH cs=ab->dW σ s vs cs->mS vs cs
 |[],[],_,_=>⟨rfl,λj c h=>by grind⟩
 |[],_::_,_,r=>r.elim
 |_::_,[],_,r=>r.elim
 |v::vs,.c x::cs,h,r=>by
  simp only[rH] at h;cases a:vu x with
  |false=>grind
  |true =>
   simp only[a] at h;obtain⟨h1,h2⟩:=mS.of h r.2;refine⟨by grind,λj c hj=>?_⟩
   cases j with
   |zero=>simp at hj;subst hj;exact⟨v,rfl,λM=>rG a r.1⟩
   |succ j=>grind
 |_::_,.ptr _ _::_,h,_=>by simp[rH] at h
 |_::_,.vec _ _ _ _::_,h,_=>by simp[rH] at h
 |_::_,.ref _::_,h,_=>by simp[rH] at h
 |_::_,.bp _ _::_,h,_=>by simp[rH] at h
 |_::_,.any::_,h,_=>by simp[rH] at h
theorem dW.cZ{σ:List aV}{s:St}:∀ {vs:List ak}{cs:List A},dW σ s vs cs->∀ v∈vs,AM.cZ v=ab
 |[],[],_,v,h=>by grind
 |[],_::_,r,_,_=>r.elim
 |_::_,[],r,_,_=>r.elim
 |u::vs,c::cs,r,v,h=>by
  rcases fb.1 h with rfl|h
  .exact gx.cell r.1
  .exact dW.cZ r.2 v h
def AK.DS{T:List (Nat×TI)}(hT:dg P T)(l:Nat){t:ar}{x y:an}{E:ar}{k n b cap off:Nat}{xs:List ak}{new:List A}{i:TI}(h:o.op=.store t x y)(hi:bF T t=aa i)(hx:b5 φ x=.e (.one (.v (.pointer (aa ⟨b,off,af⟩)))))(hy:mT (b5 φ y)=aa new)(Jj:new.length=i.size)(ZM:rH new=ab)
  (hl:σ[l]?=aa (.dD (hU E k (.row b cap) n xs))) (T1:off+new.length<=xs.length) (hg:o.guard=af) (hN:gy N o.dst=ab)
  (kk:∀ vs,mS vs new->AK X N Qf (.ops all rest::K) .normal (lC o.dst .any φ) (σ.set l (.dD (hU E k (.row b cap) n (xs.take off++vs++xs.drop (off+vs.length)))))):AK X N Qf (.ops all (o::rest)::K) .normal φ σ:=by
 refine AK.hand (ι:={ vs:List ak // mS vs new }) (λ_=>.any) (λvs=>σ.set l (.dD (hU E k (.row b cap) n (xs.take off++vs.1++xs.drop (off+vs.1.length))))) hg hN (λs a hf hh=>?_) λvs=>kk vs.1 vs.2
 have S:=dX hf x;rw[hx] at S;have S:=Rd.fZ S;have z:=m6 hy (dX hf y);have QH:l<σ.length:=(cr.1 hl).1;have G:l<s.β.length:=by rw[hh.len];grind
 have V:=br G;generalize s.β[l]=L at V;obtain⟨ch,hH,B,Z,WO⟩:=hh.box l _ L hl V;obtain⟨f,WR,U,TZ⟩:=hU.lookup hH;obtain⟨PG,W,hxl,J,Y,_⟩:=hH;have Q:b∈L.bs:=(Z b).2 (by grind)
 have m:=B b _ U
 let vs:=(a.eval y).cells.toList
 have R:mS vs new:=mS.of ZM z;have PF:vs.length=new.length:=R.1;have q:off+0+vs.length<=(xs++f).toArray.size:=by grind
 have D:=run_storeCells_at P b off E vs 0 (xs++f).toArray s.w m q z.cell;simp only[iO] at D;have F:(xs++f).take off++vs++(xs++f).drop (off+vs.length)=(xs.take off++vs++xs.drop (off+vs.length))++f:=by
  have e1:off-xs.length=0:=by omega
  have e2:off+vs.length-xs.length=0:=by omega
  grind [List.take_append]
 rw[F] at D;have abW:(xs.take off++vs++xs.drop (off+vs.length)).length=xs.length:=by
  simp only[bR,List.length_take,me];omega
 have QE:=setRow_heap s.w b (xs++f).toArray ((xs.take off++vs++xs.drop (off+vs.length))++f).toArray E (0,0) m;have M:∀ c,c≠b->(s.w.setRow b ((xs.take off++vs++xs.drop (off+vs.length))++f).toArray).heap[c]?=s.w.heap[c]?:=λc p=>setRow_other s.w b c _ p
 obtain⟨t1,t2⟩:=hh.ld (l:=l) (H':=hU E k (.row b cap) n (xs.take off++vs++xs.drop (off+vs.length))) (L':=L) (w':=s.w.setRow b ((xs.take off++vs++xs.drop (off+vs.length))++f).toArray) hl V rfl (by simp)
  (λc p hn=>M c (by grind)) (λc p=>.inl p)
  ⟨λc=>if c=b then aa (.cells ((xs.take off++vs++xs.drop (off+vs.length))++f).toArray E (0,0)) else af,⟨PG,λx hx=>by
   grind [dW.cZ],by grind,J,Y,f,by grind,rfl⟩,λc o p=>by
   simp_all,λc=>by
   simp_all⟩ rfl rfl rfl
 have H:(a.eval y).cells.size=i.size:=by grind
 refine⟨⟨vs,R⟩,.skip,_,aj,?_,.inr ⟨rfl,rfl⟩,av,t1,t2,?_⟩
 .have I:(storeCells ⟨b,off,af⟩ (a.eval y).cells.toList).run P s.w=_:=D;simp[ay,h,S,Instr.storeAt,Instr.sureAddr,storeVar,(hT t i hi).run_sizeOf,H,I]
 .intro ev g;have e:ay a.eval o=(do storeVar t ⟨b,off,af⟩ (a.eval y);pure .skip):=by simp[ay,h,S,Instr.storeAt,Instr.sureAddr]
  rw[e] at g;have O:ev∈(storeCells ⟨b,off,af⟩ (a.eval y).cells.toList).events P s.w #[]:=by
   simp only[storeVar,aO,(hT t i hi).run_sizeOf,H,aU,events_sizeOf,cW,fu,cd,bY,b9,Sem.events_pure] at g;generalize (storeCells ⟨b,off,af⟩ (a.eval y).cells.toList).run P s.w=r at g;cases r with
   |ok v w'=>simpa using g
   |halt x w'=>simpa using g
  rcases eE (a.eval y).cells.toList 0 (xs++f).toArray s.w #[] m q z.cell ev O with QL|⟨j,_,_,rfl⟩
  .grind
  .exact mn (bU V) Q (WO b Q _)
def AK.swap(i j:Nat){H1 H2:ak->(Nat->Option Obj)->Prop}{c:Code}(J:i≠j)(hi:σ[i]?=aa (.dD H1))(hj:σ[j]?=aa (.dD H2))(h1:∀ v ch,H1 v ch->v=.nilFunc)(h2:∀ v ch,H2 v ch->v=.nilFunc)
  (kk:AK X N Qf (.code c::K) .normal φ ((σ.set i (.dD H2)).set j (.dD H1))):AK X N Qf (.code c::K) .normal φ σ:=by
 refine AK.ghost (λs a E hh=>?_) kk
 have H:i<σ.length:=(cr.1 hi).1;have F:j<σ.length:=(cr.1 hj).1;have z:i<s.β.length:=by rw[hh.len];grind
 have A:j<s.β.length:=by rw[hh.len];grind
 obtain⟨r,x⟩:∃ L,s.β[i]?=aa L:=⟨_,br z⟩;obtain⟨p,w⟩:∃ L,s.β[j]?=aa L:=⟨_,br A⟩;have I:=hh.box i _ r hi x;have G:=hh.box j _ p hj w;have Q:r.v=.nilFunc:=by obtain⟨ch,M,_⟩:=I;grind
 have R:p.v=.nilFunc:=by obtain⟨ch,M,_⟩:=G;grind
 let s':St:={ s with β:=(s.β.set i p).set j r }
 have t:∀ l,((σ.set i (.dD H2)).set j (.dD H1))[l]?=if l=j then aa (.dD H1) else if l=i then aa (.dD H2) else σ[l]?:=λl=>by
  grind
 have m:∀ l,s'.β[l]?=if l=j then aa r else if l=i then aa p else s.β[l]?:=λl=>by
  grind
 have D:∀ L∈s'.β,L∈s.β:=λL f=>by
  grind
 have ex:Ext σ s ((σ.set i (.dD H2)).set j (.dD H1)) s':=by
  refine⟨λ_ _ _ h=>h,λl B L g f=>?_⟩
  rw[t,m]
  by_cases e:l=j
  .subst e;rw[hj] at g;cases g;rw[w] at f;cases f;exact⟨.dD H1,r,by simp,by simp,by show r.v=_;grind⟩
  .by_cases y:l=i
   .subst y;rw[hi] at g;cases g;rw[x] at f;cases f;exact⟨.dD H2,p,by simp[e],by simp[e],by show p.v=_;grind⟩
   .exact⟨B,L,by grind,by grind,.refl _ _⟩
 have st:Step σ s ((σ.set i (.dD H2)).set j (.dD H1)) s':=by
  exact⟨bg _,λ_ _ _=>rfl,λ_ _ _ h=>h,λ_ _ _ _=>rfl,λL h b hb=>.inr ⟨L,D L h,hb⟩,ex.box,rfl,rfl,rfl,rfl⟩
 refine⟨s',rfl,⟨E.size,E.defers.imp λ_ h1=>h1.mono ex,λu=>(E.slot u).mono ex hh.len⟩,⟨hh.mem,by simp[s',hh.len],?_,?_,λL f b hb=>hh.lt L (D L f) b hb,λb hb=>⟨(hh.own b hb).1,λL f=>(hh.own b hb).2 L (D L f)⟩⟩,st⟩
 .intro l B L g f;rw[t] at g;rw[m] at f;split at g
  .rename_i e
   rw[bd e] at f;cases g;cases f;exact I
  .rename_i e
   rw[aY e] at f;split at g
   .rename_i y
    rw[bd y] at f;cases g;cases f;exact G
   .rename_i y
    rw[aY y] at f;exact(hh.box l B L g f).carry ex hh.len λb hb=>⟨rfl,λ_=>rfl⟩
 .intro l l' L1 L2 q1 q2 b hb oO;rw[m] at q1 q2;have key:∀ l L,(if l=j then aa r else if l=i then aa p else s.β[l]?)=aa L->s.β[if l=j then i else if l=i then j else l]?=aa L:=λl L q=>by
   grind
  have:=hh.gg _ _ L1 L2 (key l L1 q1) (key l' L2 q2) b hb oO
  by_cases e1:l=j <;> by_cases e2:l'=j <;> by_cases e3:l=i <;> by_cases O:l'=i <;> simp_all
def AK.Jq{T:List (Nat×TI)}(W:dg P T){t:ar}{x y:an}{i p:TI}{E:ar}{n:Nat}{S J:IntKind}(h:o.op=.makeSlice t x y)(hi:bF T t=aa i)(hd:i.desc=.slice E)(hE:bF T E=aa p)
  (hx:b5 φ x=.e (.one (.c (.int S n)))) (hy:b5 φ y=.e (.one (.c (.int J n)))) (hb:n*p.bytes<=140737488355328) (abX:n<=140737488355328) (hg:o.guard=af) (hN:gy N o.dst=ab)
  (kk:∀ b xs,AK X N Qf (.ops all rest::K) .normal (lC o.dst (.e (.one (.v (lD (.row b n) n)))) φ) (σ++[.dD (hU E p.size (.row b n) n xs)])):AK X N Qf (.ops all (o::rest)::K) .normal φ σ:=by
 refine AK.hand (ι:=Nat×List ak) (λq=>.e (.one (.v (lD (.row q.1 n) n)))) (λq=>σ++[.dD (hU E p.size (.row q.1 n) n q.2)]) hg hN (λs a Z hh=>?_) λq=>kk q.1 q.2
 have j:=dX Z x;rw[hx] at j;have j:=fy j;generalize G:a.eval x=vx at j;cases j;have m:=dX Z y;rw[hy] at m;have m:=fy m;generalize F:a.eval y=vy at m;cases m;have l:=(W t i hi).Tg;rw[hd] at l;obtain⟨f,z,H,z2,z3,V,Y,z6,z7⟩:=(W E p hE).info;have g:(f.bytes:Int)*(n:Int)<=281474976710656:=by
  grind
 have r:=run_make (P:=P) (w:=s.w) t E f z l H V S J n n (by omega) (Int.le_refl _) g (by omega)
 simp only[bA] at r
 let xs:=(madeCells z.cells (n*f.size)).toList
 have R:xs.length=n*p.size:=by
  grind [size_madeCells]
 have ZD:∀ v∈z.cells.toList,cZ v=ab:=dW.cZ (kK (σ:=σ) (s:=s) Y);have WR:z.cells.toList.length=p.size:=by
  have:=du List.length Y
  grind
 have Q:∀ v∈xs,cZ v=ab:=by
  intro v hv;simp only[xs,madeCells,Array.toList_map,lB] at hv
  grind [Nat.mod_lt]
 have hB:eP (σ++[.dD (hU E p.size (.row s.w.heap.size n) n xs)]) { s with w:=s.w.alloc (.cells xs.toArray E),β:=s.β++[⟨.nilFunc,[s.w.heap.size]⟩] } (.dD (hU E p.size (.row s.w.heap.size n) n xs)) ⟨.nilFunc,[s.w.heap.size]⟩:=by
  refine⟨λB=>if B=s.w.heap.size then aa (.cells (xs++[]).toArray E (0,0)) else af,⟨rfl,Q,R,bg _,by omega,[],by grind,rfl⟩,λB o g=>?_,λB=>?_,λB g o=>?_⟩
  .by_cases e:B=s.w.heap.size
   .subst e;simp only[cu] at g;grind [dx]
   grind
  .by_cases e:B=s.w.heap.size <;> simp[e]
  .simp at g;subst g;cases L:s.M s.w.heap.size o with
   |none=>rfl
   |some v=>have:=hh.block L;omega
 have D:aJ σ { s with w:=s.w.alloc (.cells xs.toArray E) }/\Step σ s σ { s with w:=s.w.alloc (.cells xs.toArray E) } :=
  hh.grow (by simp) (λb hb=>cK s.w _ hb) (λb hb o=>rfl) (λb hb o v L=>by
   have:=hh.block L;omega) rfl rfl rfl
 obtain⟨g1,g2⟩:=D.1.gT D.2 rfl hh hB (λb hb=>by
   simp_all)
 refine⟨(s.w.heap.size,xs),.value (.slice (aa ⟨s.w.heap.size,0,af⟩) n n),_,_,?_,.inl rfl,Rd.val rfl,g1,g2,?_⟩
 .simp[ay,h,G,F,r,xs]
 .have e:ay a.eval o=(do pure (.value (<-Instr.makeSlice t (.int S n) (.int J n)))):=by simp[ay,h,G,F]
  rw[e];refine ey ?_;intro e A;have hu:∀ u,(underlying t).run P u=.ok (.slice E) u:=λu=>by simp[underlying,l]
  have U:∀ u,(typeInfo E).run P u=.ok f u:=λu=>by simp[typeInfo,H]
  have I:∀ u,(zeroValue E).run P u=.ok z u:=λu=>by simp[zeroValue,typeInfo,H,V]
  have O:∀ u,(sizeOf E).run P u=.ok f.size u:=λu=>by simp[sizeOf,typeInfo,H]
  have wl:IntKind.i64.wrap (n:Int)=n:=by grind [IntKind.wrap_i64]
  have n1:¬(n:Int)<0:=by omega
  have n2:¬(281474976710656<(f.bytes:Int)*n):=by omega
  simp[Instr.makeSlice,hu,U,O,asInt,asIntOf,wl,n1,n2] at A;rw[I] at A;simp only[aU,(cO.newRow (P:=P)) _ _,ite_self] at A;unfold askRoom at A;split at A
  .have:e=⟨.mark .noRoom,ae,ab⟩:=by simpa using A
   rw[this];exact .inl rfl
  .simp at A
end
section
variable {σ σ':List aV}{s s':St}{k n d:Nat}{es:Nat->List C}{u:ak}
end
def uz{α:Type}{xs vs:List α}{a:Nat}(h:a+vs.length<=xs.length)(p:Nat):(xs.take a++vs++xs.drop (a+vs.length))[p]?=if a<=p/\p<a+vs.length then vs[p-a]? else xs[p]?:=by
 have b:(xs.take a).length=a:=by grind
 grind
def ee.eX{k n:Nat}{es es':Nat->List C}{xs vs:List ak}{new:List A}(h:ee k n es xs)(i j:Nat)(hi:i<n)(p:mS vs new)(r:j+new.length<=k)(B:∀ a,a<n->a≠i->es' a=es a)(hl:(es' i).length=k)
  (hn:∀ (q:Nat) (c:C),(es' i)[q]?=aa c->(j<=q/\q<j+new.length/\new[q-j]?=aa (A.c c))∨(¬(j<=q/\q<j+new.length)/\(es i)[q]?=aa c)):ee k n es' (xs.take (i*k+j)++vs++xs.drop (i*k+j+vs.length)):=by
 have y:i*k+k<=n*k:=by rw[<-k9];exact et _ hi
 have z:=p.1;have v:=h.len;have f:i*k+j+vs.length<=xs.length:=by omega
 refine⟨by grind,λa b=>?_,λa b q c x=>?_⟩
 .by_cases e:a=i
  .grind
  .rw[B a b e];exact h.wid a b
 .rw[uz f]
  by_cases e:a=i
  .subst e;rcases hn q c x with⟨h1,h2,t⟩|⟨h1,h2⟩
   .rw[bd (by omega),show a*k+q-(a*k+j)=q-j by omega]
    exact p.2 _ c t
   .rw[aY (by omega)];exact h.at' a b q c h2
  .have m:(es a)[q]?=aa c:=by grind
   have w:q<k:=by rw[<-h.wid a b];grind
   rw[aY ?_]
   .exact h.at' a b q c m
   .rcases Nat.lt_or_gt_of_ne e with g|l
    .have:a*k+k<=i*k:=by rw[<-k9];exact et _ g
     omega
    .have:i*k+k<=a*k:=by rw[<-k9];exact et _ l
     omega
def ee.snoc{k n:Nat}{es es':Nat->List C}{xs vs:List ak}(h:ee k n es xs)(l:∀ i,i<n->es' i=es i)(hl:(es' n).length=k)(j:vs.length=k)(m:∀ (q:Nat)(c:C),(es' n)[q]?=aa c->∃ v,vs[q]?=aa v/\∀ M,Rd M v c):ee k (n+1) es' (xs++vs):=by
 have f:=h.len;refine⟨by grind,λi hi=>?_,λi hi q c p=>?_⟩
 .by_cases e:i=n
  .grind
  .rw[l i (by omega)];exact h.wid i (by omega)
 .by_cases e:i=n
  .grind
  .have a:i<n:=by omega
   have b:(es i)[q]?=aa c:=by grind
   have g:q<k:=by rw[<-h.wid i a];grind
   have:i*k+k<=n*k:=by rw[<-k9];exact et _ a
   rw[jD (by omega)]
   exact h.at' i a q c b
def zH(T:List (Nat×TI))(φ:Fr):List ResultVar->Option (List D)
 |[]=>aa []
 |.tmp t::r=>match zH T φ r with
  |some q=>aa (look φ t::q)
  |none=>af
 |.cell ad t::r=>match zH T φ r with
  |some q=>match look φ ad with
   |.e (.one (.c (.rp cs)))=>match bF T t with
    |some i=>match m8 i (cs.map A.c) with
     |some e=>aa (.e e::q)
     |none=>af
    |none=>af
   |_=>af
  |none=>af
def zI{P:aq}{T:List (Nat×TI)}(Q:dg P T){N:Nat}{σ:List aV}{s:St}{φ:Fr}{a:Act}(f:cx N σ s φ a):∀ {rs:List ResultVar}{ds:List D},zH T φ rs=aa ds ->
  ∃ vs,cz σ s vs ds/\∀ w,(∀ b o u,s.M b o=aa u->w.cell? ⟨b,o,af⟩=aa u)->(rs.mapM (fU a)).run P w=Result.ok vs w/\∀ es,∀ e∈(rs.mapM (fU a)).events P w es,e∈es∨∃ b o u,e=⟨.cell ⟨b,o,af⟩,ae,ae⟩/\s.M b o=aa u
 |[],ds,h=>by cases h;exact⟨[],av,λw _=>⟨by simp,λes e l=>.inl (by simpa using l)⟩⟩
 |.tmp t::r,ds,h=>by
  simp only[zH] at h;cases G:zH T φ r with
  |none=>grind
  |some q =>
   simp[G] at h;subst h;obtain⟨vs,h1,Z⟩:=zI Q f G;refine⟨a.tmps.getD t aj::vs,⟨f.slot t,h1⟩,λw p=>?_⟩
   obtain⟨k1,V⟩:=Z w p;refine⟨by simp only[lA,bY,fU,cY,b9,k1],λes e l=>V es e ?_⟩
   simpa[lA,fU,k1] using l
 |.cell ad t::r,ds,h=>by
  simp only[zH] at h;cases G:zH T φ r with
  |none=>grind
  |some q =>
   simp only[G] at h;have hs:=f.slot ad;generalize look φ ad=x at h hs;split at h
   case h_2=>cases h
   rename_i cs
   cases hi:bF T t with
   |none=>grind
   |some i =>
    simp only[hi] at h;cases k:m8 i (cs.map A.c) with
    |none=>grind
    |some e0 =>
     simp[k] at h;subst h;obtain⟨vs,h1,Z⟩:=zI Q f G;have F:=fy hs;generalize R:a.tmps.getD ad aj=vx at F;cases F
     rename_i b off g U PK
     let y:=(bh cs.length).map g
     have z:dW σ s y (cs.map A.c):=by
      have key:∀ (n:Nat) (ds:List C),(∀ j c,ds[j]?=aa c->Rd s.M (g (n+j)) c)->dW σ s ((bh ds.length).map λj=>g (n+j)) (ds.map A.c):=by
       intro n ds
       induction ds generalizing n with
       |nil=>intro _;trivial
       |cons d ds ih =>
        intro hd;rw[fa,zn];refine⟨hd 0 d rfl,?_⟩;have:=ih (n+1) (λj c m=>by have:=hd (j+1) c (by grind);grind)
        grind [Function.comp_def]
      have:=key 0 cs (by grind)
      grind
     have J:∀ (j:Nat) (v:ak),y[j]?=aa v->s.M b (off+j)=aa v:=λj v m=>by
      simp only[y,nE] at m
      by_cases O:j<cs.length
      .simp[O] at m;subst m;exact U j cs[j] (br O)
      grind
     let w0:az:={ s.w with heap:=s.w.heap }
     have B:∃ v,mY σ s v e0/\∀ w,(∀ b o u,s.M b o=aa u->w.cell? ⟨b,o,af⟩=aa u)->(loadVar t ⟨b,off,af⟩).run P w=.ok v w:=by
      have hg:=Q t i hi;cases Y:i.agg <;> simp only[m8,Y] at k
      .cases L:fw 0 (cs.map A.c) with
       |none=>grind
       |some a0 =>
        simp[L] at k;subst k;obtain⟨v,hv,S⟩:=z.get (dz L);refine⟨v,S,λw p=>?_⟩
        have:=p _ _ _ (J 0 v hv);simp only[loadVar,bY,hg.ki,b9,Y]
        grind [run_load]
      .cases L:ov i.size (cs.map A.c) with
       |none=>grind
       |some r0 =>
        simp[L] at k;subst k;obtain⟨q1,q2⟩:=m9 L;have E:=z.take i.size;rw[<-q1] at E;have hl:(y.take i.size).length=i.size:=by grind
        refine⟨.agg (y.take i.size).toArray,⟨y.take i.size,rfl,E⟩,λw p=>?_⟩
        have H:=run_loadCells_list (P:=P) w ⟨b,off,af⟩ (y.take i.size) (λj v m=>by
         grind [dj])
        rw[hl] at H;simp only[loadVar,bY,hg.ki,b9,Y];simp[hg.run_sizeOf,H]
     obtain⟨v,WV,W⟩:=B;refine⟨v::vs,⟨WV,h1⟩,λw p=>?_⟩
     obtain⟨k1,V⟩:=Z w p;have I:(fU a (.cell ad t))=loadVar t ⟨b,off,af⟩:=by
      simp[fU,R,asAddr]
     refine⟨by grind [Go.Sem.run_bind,Go.Sem.run_pure,Go.Result.andThen_ok],λes e l=>?_⟩
     rw[lA,I] at l;simp only[aO,W w p,aU,k1,Sem.events_pure] at l;rcases V _ e l with l|l
     .rcases DH l with l|l
      .grind
      .obtain⟨j,m,rfl⟩:=kl (Q t i hi) (w:=w) (n:=cs.length) (λj m=>⟨g j,p _ _ _ (U j cs[j] (br m))⟩) (by have:=rM k;grind) e l
       exact .inr ⟨b,off+j,g j,rfl,U j cs[j] (br m)⟩
     grind
theorem BC.V0{P:aq}{T:List (Nat×TI)}(i:dg P T){fn:Func}{φ:Fr}{ds:List D}{d:D}(h:zH T φ fn.results.toList=aa ds)(hj:rL ds=aa d):BC P fn φ d:=by
 intro N σ s a f;obtain⟨vs,h1,h2⟩:=zI i f h;refine⟨_,BA hj h1,λw k=>?_⟩
 obtain⟨k1,j⟩:=h2 w k;have e1:(fn.results.mapM (fU a)).run P w=Result.ok vs.toArray w:=by
  grind [Array.mapM_eq_mapM_toList,Sem.run_map,Go.Result.andThen_ok]
 have e2:∀ es,∀ e∈(fn.results.mapM (fU a)).events P w es,e∈es∨∃ b o u,e=⟨.cell ⟨b,o,af⟩,ae,ae⟩/\s.M b o=aa u:=by
  rw[qv];intro es e c;exact j es e (by simpa using c)
 constructor
 .unfold results;rw[bY];refine(du (λr=>Result.andThen r _) (Eq.trans ?_ e1)).trans ?_
  .congr 2
  .simp
 .intro e c;have g:e∈(fn.results.mapM (fU a)).events P w #[]:=by
   unfold results at c;rw[aO] at c
   change e∈((fn.results.mapM (fU a)).run P w).evThen ((fn.results.mapM (fU a)).events P w #[]) _ at c
   rw[e1] at c;simpa using c
  grind
section
variable {P:aq}{X:Cx P}{N:Nat}{K:List It}{φ:Fr}{σ:List aV}
def NA(T:List (Nat×TI))(rs:List ResultVar)(ks:List Nat)(φ:Fr)(res:D):Option (List Prop) :=
 match zH T φ rs with
 |some ds=>match rL ds with
  |some d=>match u7 ks.length res with
   |true=>Dt d (jA ks res)
   |false=>af
  |none=>af
 |none=>af
def AK.iR{T:List (Nat×TI)}(d:dg P T){fn:Func}{a:Nat}{res:D}{σ':List aV}(ks:List Nat){ps:List Prop}(h:NA T fn.results.toList ks φ res=aa ps)(e:ag ps)(f:kL ks σ=aa σ')(b:lg σ'=ab)(hn:eg ks=ab)(c:∀ j,j<a->ks[j]?=aa j) :
  AK X N (BD P fn a res σ') (.code .ret::K) .normal φ σ:=by
 refine AK.ret ⟨.inl rfl,ks,?_⟩;unfold NA at h
 grind [BC.V0]
def Ev.ga{f:aW}{fn:Func}{c:Code}{args:List D}{σ σ':List aV}{res:D}(d:P.funcs[f]?=aa fn)(a:(fn.name== "runtime.NumGoroutine")=ae)(hb:fn.body=aa c)(b:bo args.length fn.ntmps=ab)
  (h:Fits args σ->AK X fn.ntmps (BD P fn σ.length res σ') [.code c] .normal (js 0 args) σ):Ev X f args σ res σ':=by
 refine⟨⟨fn,d,a,by grind⟩,λs vs hr hh=>?_⟩
 have:=cM.Jt (X:=X) (ι:=Unit) (σ':=λ_=>σ') (res:=λ_=>res) d a hb (db b) (AW.mono (AK.of_code (h ⟨s,vs,hr,hh⟩)) λ_ _ _ q=>⟨(),q⟩)
 exact this.uA.2 s vs hr hh
def b6.mk{fn:Func}{a:Nat}{res:D}{σ':List aV}(ks:List Nat){ps:List Prop}(h:zJ fn.results.toList ks φ res=aa ps)(d:ag ps)(e:kL ks σ=aa σ')(b:lg σ'=ab)(hn:eg ks=ab)(c:∀ j,j<a->ks[j]?=aa j):b6 fn a res σ' .ret φ σ:=by
 refine⟨.inl rfl,ks,?_⟩;unfold zJ at h
 grind
end
def GN{P:aq}{ι:Type}{X:Cx P}{S:au->St->Prop}{b:aR}{k:List Item}{cs:List aR}{a:Act}{s:St}{ops:Array aw}{i:Nat}{rest:List Nat}{o:aw}{σ:List aV}{σ1:ι->List aV}{f:aW}{d:List D}{res:ι->D}{vs:List ak}
  (C:b.kind≠.early) (z:ops[i]?=aa o) (E:bj o (yielded ops a.tmps)=ab) (A:aJ σ s) (q:∀ w,(ay a.eval o).run P w=.ok (.enter f vs.toArray) w) (p:∀ w,(ay a.eval o).events P w #[]=#[])
  (r:cM X f d σ res σ1) (m:cz σ s vs d)
  (h:∀ j v s',dc (σ1 j) s' v (res j)->aJ (σ1 j) s'->cD σ s (σ1 j) s'->ft X S (G (b.aT (a.put o.dst v) (.inRegion ops rest::k)) cs) s') :
  ft X S (G (b.aT a (.inRegion ops (i::rest)::k)) cs) s:=by
 obtain⟨_,l⟩:=r;refine .next rfl λx t=>?_
 have u:=X.ik t;have g:=A.rely u;have e:cz σ x vs d:=m.mono u.stepW.ext A.len;refine⟨_,x,_,oS z E C (q x.w),?_,l _ vs e g S _ λj F v s2 hl mQ Dr oB=>?_⟩
 .refine⟨⟨σ,σ,g,g,.refl _ _⟩,eZ.seen ?_⟩;rw[p];exact .nil
 refine pM (cs:=cs) (c:=b.aT a (.inRegion ops (i::rest)::k)) Dr hl λB n=>?_
 have y:=kg (b:=b) (a:=a) (k:=k) ops i rest v;rw[z] at y;simp only[nF] at y;rw[y];exact h j v B (mQ.mono n.stepW.ext Dr.len) (Dr.rely n) (u.stepW.trans (oB.trans n.stepW))
def AK.nP{P:aq}{ι:Type}{X:Cx P}{N:Nat}{Qf:Post}{K:List It}{φ:Fr}{σ:List aV}{all rest:List aw}{o:aw}{y:an}{xs:Array an}{H:Array ar}{f:aW}{cap:List C}{d:List D}{σ1:ι->List aV}{res:ι->D}(r:cM X f d σ res σ1)
  (E:o.guard=af) (M:o.op=.call { callee:=.value y,args:=xs,argTypes:=H }) (z:eQ (b5 φ y)=aa (f,cap)) {ps:List Prop} (m:xE (xs.toList.map (b5 φ)++fY cap) d=aa ps) (B:ag ps) (T:gy N o.dst=ab)
  (k:∀ j,AK X N Qf (.ops all rest::K) .normal (lC o.dst (res j) φ) (σ1 j)):AK X N Qf (.ops all (o::rest)::K) .normal φ σ:=by
 intro s a g hh b kk cs S idx hb jH hQ;cases idx with
 |nil=>exact jH.elim
 |cons i idx =>
 obtain⟨hi,jH⟩:=jH;have x:=dX g y;unfold eQ at z;split at z
 case h_2=>cases z
 case h_1 f' Jc he =>
  cases z;rw[he] at x;have l:=fy x;generalize O:a.eval y=fv at l;cases l with
  |fn fs mc hl Bl f1 f2 h1 h2 r1 r2 =>
   have F:fs=[]:=hZ hl;subst F;have n:cz σ s mc (fY cap):=lP (λj c hj=>⟨f2 j,h2 j (by grind),r2 j c hj⟩) Bl
   have u:cz σ s (xs.toList.map a.eval++mc) d:=uY m B ((nQ (dX g) xs.toList).append n);obtain⟨fn,p,h,e⟩:=r.1;refine GN hb hi (dv E) hh (λw=>(gM M p h e O w).1) (λw=>(gM M p h e O w).2) r u λj v s' hr lb st=>?_
   refine k j s' _ ?_ lb b kk cs S idx hb jH λL J Q a3 q U R I=>hQ L J Q a3 q U R (st.trans I)
   have G:=il T;cases A:o.dst with
   |none=>exact g.mono st hh.len
   |some t=>exact(g.mono st hh.len).put (G t A) hr
def F7{α:Type}{l:Nat}{x:α}:∀ {ks:List Nat}{a r:List α},kL ks a=aa r->l∉ks->kL ks (a.set l x)=aa r
 |[],a,r,h,_=>h
 |k::ks,a,r,h,c=>by
  simp only[fb,not_or] at c;simp only[kL,e9] at h ⊢;rw[iL c.1];cases d:a[k]? with
  |none=>simp[d] at h
  |some y =>
   simp only[d] at h ⊢;cases b:kL ks a with
   |none=>simp[b] at h
   |some q=>rw[F7 b c.2];simp only[b] at h;exact h
def B8{k:Nat}{l:List Nat}(h:fK k l=ae):k∉l:=λa=>by rw[rI a] at h;cases h
def oR:Option (Tmp×E1)->List ResultVar
 |none=>[]
 |some q=>[.tmp q.1]
def oD(cs:List A):Option (Tmp×E1)->D
 |none=>.e (.agg cs)
 |some q=>.eK [.agg cs,q.2]
def Kq(T:List (Nat×TI))(fn:Func)(a:Nat)(res:D)(σ':List aV):Post:=λe φ σ1 =>
 (e=.ret∨e=.normal)/\∃ ks l E cs t ty it ps,∃ o:Option (Tmp×E1),(∀ q,o=aa q->look φ q.1=.e q.2)/\fn.results.toList=.cell t ty::oR o/\bF T ty=aa it/\it.agg=ab/\cs.length=it.size/\look φ t=.e (.one (.ptr l 0))/\σ1[l]?=aa (.cells E cs)/\l∉ks /\
  Dt (oD cs o) (jA ks res)=aa ps/\ag ps/\u7 ks.length res=ab/\kL ks σ1=aa σ'/\lg σ'=ab/\eg ks=ab/\(∀ j,j<a->ks[j]?=aa j)
def cM.Rx{P:aq}{ι:Type}{X:Cx P}{T:List (Nat×TI)}(hT:dg P T){f:aW}{fn:Func}{c:Code}{args:List D}{σ:List aV}{σ':ι->List aV}{res:ι->D}(hf:P.funcs[f]?=aa fn)(QP:(fn.name== "runtime.NumGoroutine")=ae)(hb:fn.body=aa c)(hlen:args.length<=fn.ntmps)
  (h:∀ s a,cx fn.ntmps σ s (js 0 args) a->aJ σ s->∀ (b:aR) (k:List Item) (cs:List aR) (S:au->St->Prop),b.kind≠.early->b.roundOf=af ->
  (∀ e J σ1 s' a',(∃ j,Kq T fn σ.length (res j) (σ' j) e J σ1)->cx fn.ntmps σ1 s' J a'->aJ σ1 s'->cD σ s σ1 s'->ends X S b k cs e a' s')->ft X S (G (b.aT a (.code c::k)) cs) s):cM X f args σ res σ':=by
 refine⟨⟨fn,hf,QP,by rw[hb];rfl⟩,λs vs hr hh S cs hS=>?_⟩
 obtain⟨hl,hg⟩:=cz.get hr
 let b:aR:={ fn:=f,tmps:=#[],todo:=[],defers:=[],mode:=.run,kind:=.normal,roundOf:=af }
 have I:Frame.enter P f vs.toArray .normal=b.aT { tmps:=vs.toArray++Array.replicate (fn.ntmps-vs.toArray.size) aj,defers:=[] } [.code c]:=by
  simp[Frame.enter,Frame.aT,hf,hb,b]
 rw[I];refine h s { tmps:=vs.toArray++Array.replicate (fn.ntmps-vs.toArray.size) aj,defers:=[] } ⟨by simp;omega,⟨[],av⟩,λt=>?_⟩ hh b [] cs S (by simp[b]) rfl ?_
 .rw[nY];simp only[gD,cu,mh];have:=hg t;rcases cJ t vs.length with sV|Te
  .have e:(vs.toArray++Array.replicate (fn.ntmps-vs.toArray.size) aj).getD t aj=(vs[t]?).getD aj:=by
    simp only[dG]
    grind
   rw[e];exact this
  .rw[q8 (by omega)]
   trivial
 .rintro e J σ0 s0 a1 ⟨jj,he,ks,l,E,rcs,t,ty,it,ps,o,q0,q1,q2,q3,q4,q5,q6,q7,h3,h4,h5,h6',h7',h8,h9⟩ f0 W Xy;obtain⟨h7,h7n⟩:=yp h7';have A:=f0.slot t;rw[q5] at A;obtain⟨_,L,bb,p,Wj,XT⟩:=A;obtain⟨b2,d,Xa,R,hrv,hM⟩:=W.box l _ L q6 p;subst Xa;cases Wj
  let M':Mem:=λm o=>if m=bb then d[o]? else s0.M m o
  have aak:∀ o v,d[o]?=aa v->s0.w.cell? ⟨bb,o,af⟩=aa v:=λo v ho=>by simpa[a9,R] using ho
  have Z:∀ m o v,s0.M m o=aa v->M' m o=aa v:=λm o v hv=>by
   grind
  have hcM:∀ m o v,M' m o=aa v->s0.w.cell? ⟨m,o,af⟩=aa v:=λm o v hv=>by
   by_cases e:m=bb
   .grind
   .simp only[M',e,cd] at hv;exact W.mem m o v hv
  obtain⟨h',F⟩:=W.iP (M':=M') (w':=s0.w) (B':=.dead) (L':=⟨.pointer (aa ⟨bb,0,af⟩),[]⟩) q6 p rfl (bg _) (λ_ _ _=>rfl) (λm _ Q o=>by
   grind) Z hcM (by simp) rfl rfl rfl av
  have Wd:eR s0 ⟨s0.β.set l ⟨.pointer (aa ⟨bb,0,af⟩),[]⟩,M',s0.w,s0.own⟩:=⟨rfl,Z,λm Q o=>by
   have:m≠bb:=by rintro rfl;exact Q _ (bU p) (by simp)
   simp only[M',this,cd],hcM,λm Q=>by
   grind⟩
  have f':cx fn.ntmps (σ0.set l .dead) ⟨s0.β.set l ⟨.pointer (aa ⟨bb,0,af⟩),[]⟩,M',s0.w,s0.own⟩ J a1:=⟨f0.size,f0.defers.imp λ_ h1=>h1.mono F.ext,λu=>(f0.slot u).mono F.ext W.len⟩
  have h6:=F7 (x:=aV.dead) h6' q7;have XU:dW (σ0.set l .dead) ⟨s0.β.set l ⟨.pointer (aa ⟨bb,0,af⟩),[]⟩,M',s0.w,s0.own⟩ d rcs:=hrv.mono F.ext W.len;have st:=Xy.trans (F.oG W)
  let V:ak:=match o with|none=>.agg d.toArray|some q=>.tuple #[.agg d.toArray,a1.tmps.getD q.1 aj]
  have N:∀ w,(∀ b o u,M' b o=aa u->w.cell? ⟨b,o,af⟩=aa u)->(results fn a1.tmps).run P w=.ok V w/\∀ e∈(results fn a1.tmps).events P w #[],∃ b o u,e=⟨.cell ⟨b,o,af⟩,ae,ae⟩/\M' b o=aa u:=by
   intro w hw;have U:=hT ty it q2;have hrl:d.length=it.size:=by rw[hrv.length,q4]
   have Tf:∀ j v,d[j]?=aa v->w.cell? ⟨bb,0+j,af⟩=aa v:=λj v hj=>hw _ _ _ (by grind)
   have V5:=run_loadCells_list (P:=P) w ⟨bb,0,af⟩ d (λj v hj=>by rw[dj];exact Tf j v hj)
   rw[hrl] at V5;have GQ:(loadVar ty ⟨bb,0,af⟩).run P w=.ok (.agg d.toArray) w:=by
    simp only[loadVar,bY,U.ki,b9,q3];simp[U.run_sizeOf,V5]
   have Y:fn.results=(ResultVar.cell t ty::oR o).toArray:=by apply Array.ext';simpa using q1
   have K:asAddr (a1.tmps[t]?.getD aj)=(pure ⟨bb,0,af⟩:Sem Addr):=by rw[<-dG,XT];rfl
   refine⟨by cases o <;> simp[results,Y,K,GQ,V,oR],λe he=>?_⟩
   have QN:e∈(loadVar ty ⟨bb,0,af⟩).events P w #[]:=by
    cases o <;> simpa[results,Y,K,GQ,oR] using he
   obtain⟨j,hj,rfl⟩:=kl U (w:=w) (n:=d.length) (λj hj=>⟨_,Tf j d[j] (br hj)⟩) (by rw[q3,hrl];simp) e QN
   exact⟨bb,0+j,d[j],rfl,by grind⟩
  have fin:∀ (fr:aR) s2,cj (⟨s0.β.set l ⟨.pointer (aa ⟨bb,0,af⟩),[]⟩,M',s0.w,s0.own⟩:St) s2->fr.fn=f->fr.tmps=a1.tmps->fr.defers=a1.defers->fr.mode=.returning->fr.kind=.normal->ft X S (G fr cs) s2:=by
   intro fr s2 sO e1 e2 e3 e4 e5;have f2:=f'.rely sO h';have r:=h'.rely sO;have g:=st.trans sO.stepW;have r2:dc (σ0.set l .dead) s2 V (oD rcs o):=by
    have Td:=XU.mono sO.stepW.ext h'.len;cases o with
    |none=>exact⟨d,rfl,Td⟩
    |some q =>
     have hx:=f2.slot q.1;rw[q0 q rfl] at hx;exact⟨[.agg d.toArray,a1.tmps.getD q.1 aj],rfl,⟨d,rfl,Td⟩,hx,av⟩
   obtain⟨i,H⟩:=zC (l':=s2.β) h6 r.len;have r4:=(qA h3 h4 r2).sub h6 H h5;obtain⟨c1,c2⟩:=iC h6;obtain⟨d1,d2⟩:=iC H;have O:∀ L∈i,L∈s2.β:=zG H;have P3:aJ (σ' jj) { s2 with β:=i }:=by
    obtain⟨g1,_⟩:=r.sub h6 H h7 h8;refine⟨g1.mem,g1.len,λj B L hB p=>?_,g1.gg,g1.lt,λb hb=>⟨(r.own b hb).1,λL p=>(r.own b hb).2 L (O L p)⟩⟩
    exact eP.plain (σ:=σ' jj) (s:={ s2 with β:=i,own:=zF s2 i }) (s':={ s2 with β:=i }) rfl rfl (kM h7 B (bU hB)) (g1.box j B L hB p)
   have Ux:cD σ s (σ' jj) { s2 with β:=i }:=by
    refine⟨g.size,g.eN,g.mem,g.jz,λL p b hb=>g.xC _ (O L p) b hb,λl B L hB p=>?_,g.os,g.tape,g.output,g.own⟩
    have hl:l<σ.length:=(cr.1 hB).1;obtain⟨B',L',p1,p2,p3⟩:=g.box l B L hB p
    grind
   obtain⟨ls,Rn⟩:=f2.defers;refine qD ls fr s2 _ r.lE (by grind) e4 (by rw[e3];exact Rn.taken r) λs3 z=>?_
   have C:cj { s2 with β:=i } { s3 with β:=i }:=by
    refine⟨rfl,z.M,z.own,z.size,λb hb=>z.eN b (hb.imp id ?_),z.mem,z.os,z.tape,z.output⟩
    rintro⟨L,p,hb⟩;obtain⟨j,hj,rfl⟩:=dH p;have hj':j<ks.length:=by rw[<-d1];exact hj
    obtain⟨y,y1,y2⟩:=d2 j _ (br hj');obtain⟨x,x1,x2⟩:=c2 j _ (br hj');rw[br hj] at y1;cases y1;refine⟨_,_,y2,λhc=>?_,hb⟩
    rw[Rn.BW _ hc] at x2;cases x2;exact na h7n _ (bU x1) rfl
   have hG:eR s3 { s3 with β:=i }:=⟨rfl,λ_ _ _ h=>h,λ_ _ _=>rfl,λb o v hv=>z.mem b o v (by rw[<-z.M];exact hv),λb hb=>hb.imp id λ⟨L,p,hb⟩=>⟨L,by rw[z.β];exact O L p,hb⟩⟩
   have XV:s2.M=M':=sO.M;refine .ghost hG (hS jj _ V _ ⟨e1,e4,rfl,e5,fn,by grind,λw hw=>?_⟩ (r4.mono C.stepW.ext P3.len) (P3.rely C) (Ux.trans C.stepW))
   show (results fn fr.tmps).run P w=_/\∀ e∈(results fn fr.tmps).events P w #[],_;rw[e2];have hw':∀ b o u,M' b o=aa u->w.cell? ⟨b,o,af⟩=aa u:=λb o u h=>hw b o u (by show s3.M b o=aa u;rw[z.M,XV];exact h)
   refine⟨(N w hw').1,λe he=>?_⟩
   obtain⟨b,o,u,q1,q2⟩:=(N w hw').2 e he;exact⟨b,o,u,q1,by show s3.M b o=aa u;rw[z.M,XV];exact q2⟩
  rcases he with rfl|rfl
  .intro pre;exact .ghost Wd (.ctl h' rfl (λ_=>DI rfl) λs2 sO=>fin _ s2 sO rfl rfl (k7 _) rfl rfl)
  .exact .ghost Wd (.ctl h' rfl (λ_=>DJ rfl) λs2 sO=>fin _ s2 sO rfl rfl (k7 _) rfl rfl)
def cM.ga{P:aq}{ι:Type}{X:Cx P}{T:List (Nat×TI)}(n:dg P T){f:aW}{fn:Func}{c:Code}{args:List D}{σ:List aV}{σ':ι->List aV}{res:ι->D}(i:P.funcs[f]?=aa fn)(d:(fn.name== "runtime.NumGoroutine")=ae)(hb:fn.body=aa c)(g:bo args.length fn.ntmps=ab)
  (h:Fits args σ->AK X fn.ntmps (λe φ σ1=>∃ j,Kq T fn σ.length (res j) (σ' j) e φ σ1) [.code c] .normal (js 0 args) σ):cM X f args σ res σ':=by
 refine⟨⟨fn,i,d,by rw[hb];rfl⟩,λs0 vs hr QL=>?_⟩
 have:=cM.Rx (X:=X) (σ':=σ') (res:=res) n i d hb (db g) λs a f hh b k cs S m _ l=>(show AW X fn.ntmps c _ (js 0 args) σ from AK.of_code (h ⟨s0,vs,hr,QL⟩)) s a f hh b k cs S m l
 exact this.2 s0 vs hr QL
def dW.set{σ:List aV}{s:St}{a:A}{v:ak}:∀ {vs:List ak}{cs:List A}{j:Nat},dW σ s vs cs->vs[j]?=aa v->gx σ s v a->dW σ s vs (cs.set j a)
 |[],[],_,_,h,_=>by simp at h
 |[],_::_,_,h,_,_=>h.elim
 |_::_,[],_,h,_,_=>h.elim
 |u::vs,c::cs,0,h,b,d=>by
  simp at b;subst b;exact⟨d,h.2⟩
 |u::vs,c::cs,j+1,h,b,d=>⟨h.1,dW.set h.2 (by simpa using b) d⟩
section
variable {P:aq}{X:Cx P}{N:Nat}{Qf:Post}{K:List It}{φ:Fr}{σ:List aV}{c:Code}
def AK.gm(l j:Nat)(E k:Nat)(es':Nat->List C){E0:ar}{cs:List A}{k':Nat}{D:Nat->List C}(hl:fw l σ=aa (.cells E0 cs))(hj:fw j cs=aa (.c (.sl ab k' 0 D)))
  (kk:AK X N Qf (.code c::K) .normal φ ((σ++[aV.vec E k 0 es']).set l (.cells E0 (cs.set j (.vec σ.length k 0 es'))))):AK X N Qf (.code c::K) .normal φ σ:=by
 refine AK.ghost (λs a z hh=>?_) kk
 have H:=dz hl;have R:=dz hj;have p:l<σ.length:=(cr.1 H).1;have g:l<s.β.length:=by rw[hh.len];exact p
 have x:=br g;generalize s.β[l]=L at x;obtain⟨b,vs,q,d,n,O⟩:=hh.box l _ L H x;obtain⟨v,S,I⟩:=n.get R;have h1:Rd s.M v (.sl ab k 0 es'):=(Rd.uX (k:=k') (k':=k) (.inr rfl) I).DF λi hi=>by omega
 have t:eP (σ++[aV.vec E k 0 es']) { s with β:=s.β++[⟨v,[]⟩] } (.vec E k 0 es') ⟨v,[]⟩:=⟨h1.loose,.inl ⟨⟨rfl,rfl⟩,h1⟩⟩;obtain⟨G,g2⟩:=hh.gT (.refl _ _) rfl hh t (by simp)
 have r:(σ++[aV.vec E k 0 es'])[l]?=aa (.cells E0 cs):=by grind
 have F:(s.β++[(⟨v,[]⟩:Loc)])[l]?=aa L:=by grind
 have o:(s.β++[(⟨v,[]⟩:Loc)]).set l L=s.β++[⟨v,[]⟩]:=by
  apply iM
  grind
 have y:ij (.cells E0 cs) L (.cells E0 (cs.set j (.vec σ.length k 0 es'))) L:=rfl;have J:σ.length≠l:=by omega
 have f:eP ((σ++[aV.vec E k 0 es']).set l (.cells E0 (cs.set j (.vec σ.length k 0 es')))) ⟨(s.β++[(⟨v,[]⟩:Loc)]).set l L,s.M,s.w,s.own⟩ (.cells E0 (cs.set j (.vec σ.length k 0 es'))) L:=by
  rw[o];refine⟨b,vs,q,d,?_,O⟩;have ex:Ext (σ++[aV.vec E k 0 es']) { s with β:=s.β++[⟨v,[]⟩] } ((σ++[aV.vec E k 0 es']).set l (.cells E0 (cs.set j (.vec σ.length k 0 es')))) { s with β:=s.β++[⟨v,[]⟩] }:=by
   refine⟨λ_ _ _ h=>h,λi B L' ot gw=>?_⟩
   by_cases e:l=i
   .grind
   .exact⟨B,L',by rw[iL e];exact ot,gw,.refl _ _⟩
  have m:dW (σ++[aV.vec E k 0 es']) { s with β:=s.β++[⟨v,[]⟩] } vs cs:=n.mono g2.ext hh.len;refine dW.set (m.mono ex G.len) S ?_;refine⟨h1.loose,by simp,λE2 k2 n2 Nl h=>?_⟩
  rw[iL (by omega),gk (by omega),rv] at h
  cases h;refine⟨bg _,λ_=>⟨⟨v,[]⟩,?_,rfl⟩⟩
  simp[<-hh.len]
 obtain⟨Q,T⟩:=G.iP (M':=s.M) (w':=s.w) (L':=L) r F y (bg _) (λ_ _ _=>rfl) (λ_ _ _ _=>rfl) (λ_ _ _ h=>h) hh.mem (λb hb=>⟨.inl hb,hh.lt L (bU x) b hb⟩) rfl rfl rfl f
 have st:=g2.trans T;exact⟨⟨(s.β++[(⟨v,[]⟩:Loc)]).set l L,s.M,s.w,s.own⟩,rfl,⟨z.size,z.defers.imp λ_ h1=>h1.mono st.ext,λu=>(z.slot u).mono st.ext hh.len⟩,Q,st⟩
end
section
variable {P:aq}{X:Cx P}{N:Nat}{Qf:Post}{K:List It}{φ:Fr}{σ:List aV}{c:Code}
def AK.RE(t:Nat)(E k:Nat)(es':Nat->List C){k':Nat}{d:Nat->List C}(h:look φ t=.e (.one (.c (.sl ab k' 0 d))))
  (kk:AK X N Qf (.code c::K) .normal ((t,.e (.one (.bp σ.length (.sl 0 k 0 0))))::φ) (σ++[.buf E k 0 es'])):AK X N Qf (.code c::K) .normal φ σ:=by
 refine AK.ghost (λs a b hh=>?_) kk
 have f:=b.slot t;rw[h] at f;obtain⟨g,g2⟩:=hh.gT (B:=.buf E k 0 es') (L:=⟨.slice af 0 0,[]⟩) (.refl _ _) rfl hh (.inl ⟨rfl,rfl⟩) (by simp)
 refine⟨{ s with β:=s.β++[⟨.slice af 0 0,[]⟩] },rfl,⟨b.size,b.defers.imp λ_ h1=>h1.mono g2.ext,λu=>?_⟩,g,g2⟩
 simp only[look];cases hb:aG t u with
 |false=>exact(b.slot u).mono g2.ext hh.len
 |true =>
  have e:=bX hb;subst e;exact uZ (E:=E) (es:=es') (fy f) (by simp) (by simp[<-hh.len])
def AK.nn(l j:Nat)(E k:Nat)(es':Nat->List C){E0:ar}{cs:List A}{k':Nat}{F:Nat->List C}(hl:fw l σ=aa (.cells E0 cs))(hj:fw j cs=aa (.c (.sl ab k' 0 F)))
  (kk:AK X N Qf (.code c::K) .normal φ ((σ++[aV.buf E k 0 es']).set l (.cells E0 (cs.set j (.bp σ.length (.sl 0 k 0 0)))))):AK X N Qf (.code c::K) .normal φ σ:=by
 refine AK.ghost (λs a D hh=>?_) kk
 have I:=dz hl;have T:=dz hj;have J:l<σ.length:=(cr.1 I).1;have m:l<s.β.length:=by rw[hh.len];grind
 have y:=br m;generalize s.β[l]=L at y;obtain⟨b,vs,t,f,p,R⟩:=hh.box l _ L I y;obtain⟨v,U,Q⟩:=p.get T
 let d:Loc:=⟨.slice af 0 0,[]⟩
 obtain⟨H,g2⟩:=hh.gT (B:=.buf E k 0 es') (L:=d) (.refl _ _) rfl hh (.inl ⟨rfl,rfl⟩) (by grind)
 have x:(σ++[aV.buf E k 0 es'])[l]?=aa (.cells E0 cs):=by grind
 have G:(s.β++[d])[l]?=aa L:=by grind
 have q:(s.β++[d]).set l L=s.β++[d]:=by
  apply iM
  grind
 have z:ij (.cells E0 cs) L (.cells E0 (cs.set j (.bp σ.length (.sl 0 k 0 0)))) L:=rfl;have g:eP ((σ++[aV.buf E k 0 es']).set l (.cells E0 (cs.set j (.bp σ.length (.sl 0 k 0 0))))) ⟨(s.β++[d]).set l L,s.M,s.w,s.own⟩ (.cells E0 (cs.set j (.bp σ.length (.sl 0 k 0 0)))) L:=by
  rw[q];refine⟨b,vs,t,f,?_,R⟩;have ex:Ext (σ++[aV.buf E k 0 es']) { s with β:=s.β++[d] } ((σ++[aV.buf E k 0 es']).set l (.cells E0 (cs.set j (.bp σ.length (.sl 0 k 0 0))))) { s with β:=s.β++[d] }:=by
   refine⟨λ_ _ _ h=>h,λi B L O r=>?_⟩
   by_cases e:l=i
   .grind
   .exact⟨B,L,by grind,r,.refl _ _⟩
  have o:dW (σ++[aV.buf E k 0 es']) { s with β:=s.β++[d] } vs cs:=p.mono g2.ext hh.len;exact dW.set (o.mono ex H.len) U (uZ (E:=E) (es:=es') Q (by grind) (by simp[<-hh.len,d]))
 obtain⟨S,V⟩:=H.iP (M':=s.M) (w':=s.w) (L':=L) x G z (bg _) (λ_ _ _=>rfl) (λ_ _ _ _=>rfl) (λ_ _ _ h=>h) hh.mem (λb hb=>⟨.inl hb,hh.lt L (bU y) b hb⟩) rfl rfl rfl g
 have st:=g2.trans V;exact⟨⟨(s.β++[d]).set l L,s.M,s.w,s.own⟩,rfl,⟨D.size,D.defers.imp λ_ h1=>h1.mono st.ext,λu=>(D.slot u).mono st.ext hh.len⟩,S,st⟩
end
def uB:Nat->(Nat->List C)->Nat->List C
 |0,es=>es
 |o+1,es=>jL (o+1) es
def va(o:Nat)(es:Nat->List C)(i:Nat):uB o es i=es (o+i):=by cases o <;> simp[uB,jL]
def Aj(l k n:Nat)(es:Nat->List C)(a:A):Option (A×List Prop):=match GX l a with
 |true=>aa (a,[])
 |false=>match a with
  |.bp l' (.sl g k' o m)=>match aG l' l,aG k' k with
   |true,ab=>aa (.c (.sl ae k m (uB o es)),[g=n,o+m<=n])
   |_,_=>af
  |_=>af
def Ak(l k n:Nat)(es:Nat->List C):List A->Option (List A×List Prop)
 |[]=>aa ([],[])
 |a::r=>match Aj l k n es a with
  |some (a',p)=>match Ak l k n es r with
   |some (r',q)=>aa (a'::r',ko p q)
   |none=>af
  |none=>af
def wA(l k n:Nat)(es:Nat->List C):E1->Option (E1×List Prop)
 |.one a=>match Aj l k n es a with|some (a,p)=>aa (.one a,p)|none=>af
 |.agg cs=>match Ak l k n es cs with|some (cs,p)=>aa (.agg cs,p)|none=>af
def vg(l k n:Nat)(es:Nat->List C):List E1->Option (List E1×List Prop)
 |[]=>aa ([],[])
 |a::r=>match wA l k n es a with
  |some (a',p)=>match vg l k n es r with
   |some (r',q)=>aa (a'::r',ko p q)
   |none=>af
  |none=>af
def wB(l k n:Nat)(es:Nat->List C):D->Option (D×List Prop)
 |.e x=>match wA l k n es x with|some (x,p)=>aa (.e x,p)|none=>af
 |.eK xs=>match vg l k n es xs with|some (xs,p)=>aa (.eK xs,p)|none=>af
 |.any=>aa (.any,[])
section
variable {σ1:List aV}{s s2:St}{E k n:Nat}{es:Nat->List C}
structure l4 (σ1:List aV)(E k n:Nat)(es:Nat->List C)(s s2:St):Prop where
 eN:∀ v a,gx (σ1++[.buf E k n es]) s v a->GX σ1.length a=ab->gx σ1 s2 v a
 Jv:∀ v k' o m,gx (σ1++[.buf E k n es]) s v (.bp σ1.length (.sl n k' o m))->k'=k->o+m<=n->Rd s2.M v (.sl ae k m (uB o es))
def l4.a(h:l4 σ1 E k n es s s2){v:ak}{a a':A}{ps:List Prop}(b:Aj σ1.length k n es a=aa (a',ps))(e:ag ps)(r:gx (σ1++[.buf E k n es]) s v a):gx σ1 s2 v a':=by
 unfold Aj at b;split at b
 .rename_i d;cases b;exact h.eN v a r d
 .split at b
  .rename_i l' g k' o m _
   split at b
   .rename_i e1 e2
    cases b;have e1:=bX e1;have e2:=bX e2;subst e1 e2;obtain⟨rfl,h2⟩:g=n/\o+m<=n:=e;exact h.Jv v _ _ _ r rfl h2
   grind
  grind
def l4.l(h:l4 σ1 E k n es s s2):∀ {vs:List ak}{cs mc:List A}{ps:List Prop},Ak σ1.length k n es cs=aa (mc,ps)->ag ps->dW (σ1++[.buf E k n es]) s vs cs->dW σ1 s2 vs mc
 |[],[],_,_,b,_,_=>by cases b;trivial
 |[],_::_,_,_,_,_,r=>r.elim
 |_::_,[],_,_,_,_,r=>r.elim
 |v::vs,c::cs,mc,ps,b,d,r=>by
  simp only[Ak] at b;split at b
  .rename_i a' p h1
   split at b
   .rename_i r' q h2
    cases b;rw[ag.cat] at d;exact⟨h.a h1 d.1 r.1,h.l h2 d.2 r.2⟩
   grind
  grind
def l4.e(h:l4 σ1 E k n es s s2){v:ak}{x f:E1}{ps:List Prop}(b:wA σ1.length k n es x=aa (f,ps))(d:ag ps)(r:mY (σ1++[.buf E k n es]) s v x):mY σ1 s2 v f:=by
 cases x with
 |one a =>
  simp only[wA] at b;split at b
  .rename_i a' p h1;cases b;exact h.a h1 d r
  grind
 |agg cs =>
  simp only[wA] at b;split at b
  .rename_i a' p h1;cases b
   obtain⟨vs,g,i⟩:=r;exact⟨vs,g,h.l h1 d i⟩
  grind
def l4.es'(h:l4 σ1 E k n es s s2):∀ {vs:List ak}{cs mc:List E1}{ps:List Prop},vg σ1.length k n es cs=aa (mc,ps)->ag ps->gJ (σ1++[.buf E k n es]) s vs cs->gJ σ1 s2 vs mc
 |[],[],_,_,a,_,_=>by cases a;trivial
 |[],_::_,_,_,_,_,r=>r.elim
 |_::_,[],_,_,_,_,r=>r.elim
 |v::vs,c::cs,mc,ps,a,b,r=>by
  simp only[vg] at a;split at a
  .rename_i a' p h1
   split at a
   .rename_i r' q h2
    cases a;rw[ag.cat] at b;exact⟨h.e h1 b.1 r.1,h.es' h2 b.2 r.2⟩
   grind
  grind
def l4.d(h:l4 σ1 E k n es s s2){v:ak}{x f:D}{ps:List Prop}(a:wB σ1.length k n es x=aa (f,ps))(b:ag ps)(r:dc (σ1++[.buf E k n es]) s v x):dc σ1 s2 v f:=by
 cases x with
 |e x =>
  simp only[wB] at a;split at a
  .rename_i a' p h1;cases a;exact h.e h1 b r
  grind
 |eK xs =>
  simp only[wB] at a;split at a
  .rename_i a' p h1;cases a
   obtain⟨vs,g,i⟩:=r;exact⟨vs,g,h.es' h1 b i⟩
  grind
 |any=>cases a;trivial
def aJ.Jv(hh:aJ (σ1++[.buf E k n es]) s)(B:rN σ1.length σ1=ab) :
  ∃ s2:St,aJ σ1 s2/\eR s s2/\l4 σ1 E k n es s s2/\∀ {σ0:List aV} {s0:St},cD σ0 s0 (σ1++[.buf E k n es]) s->σ0.length<=σ1.length->cD σ0 s0 σ1 s2:=by
 have D:(σ1++[aV.buf E k n es])[σ1.length]?=aa (.buf E k n es):=by simp
 have J:s.β.length=σ1.length+1:=by rw[hh.len];simp
 have z:s.β[σ1.length]?=aa s.β[σ1.length]:=br (by omega)
 generalize s.β[σ1.length]=L at z;have p:=hh.box _ _ L D z;obtain⟨M',R,H,S,T⟩:∃ M':Mem,(∀ b o v,s.M b o=aa v->M' b o=aa v)/\(∀ b,b∉L.bs->∀ o,M' b o=s.M b o)/\(∀ b o v,M' b o=aa v->s.w.cell? ⟨b,o,af⟩=aa v) /\
   (∀ v k' o m,gx (σ1++[.buf E k n es]) s v (.bp σ1.length (.sl n k' o m))->k'=k->o+m<=n->Rd M' v (.sl ae k m (uB o es))):=by
  rcases p with⟨rfl,rfl⟩|⟨b,c0,vs,zs,rfl,Z,U,WK,W,G,hM⟩
  .refine⟨s.M,λ_ _ _ h=>h,λ_ _ _=>rfl,hh.mem,λv k' o m r e g=>?_⟩
   obtain⟨lv,⟨a,a0,cap,c0,l,h1,h2,Y,t,V⟩,_,O⟩:=r
   grind [Rd.jJ]
  .let M':Mem:=λd o=>if d=b then vs[o]? else s.M d o
   have I:∀ d o v,s.M d o=aa v->M' d o=aa v:=λd o v l=>by
    grind
   refine⟨M',I,λd oO o=>?_,λd o v l=>?_,λv k' o m r e g=>?_⟩
   .grind
   .by_cases e:d=b
    .subst e;simp only[M',cu] at l;simp only[a9,Z]
     grind
    .simp only[M',e,cd] at l;exact hh.mem d o v l
   .subst e;obtain⟨lv,⟨a,a0,cap,c1,l,h1,h2,Y,t,V⟩,_,O⟩:=r;obtain⟨L',f,y⟩:=(O _ _ _ _ D).2 rfl;rw[z] at f;cases f;rw[t] at y;cases y;rw[l];have x:∀ i,i<m->∀ j c,(uB o es i)[j]?=aa c->∃ u,vs[(o+i)*k'+j]?=aa u/\Rd s.M u c:=λi hi j c hj=>by
     rw[va] at hj;exact G.rd (o+i) (by omega) j c hj
    refine .sl b (o*k') (λi j=>(vs[(o+i)*k'+j]?).getD aj) h1 (by omega) (by simp) (λi hi=>by rw[va];exact G.width _ (by omega)) (λhm=>?_) (λi hi j c hj=>?_) (λi hi j c hj=>?_)
    .grind
    .grind
    .obtain⟨u,u1,u2⟩:=x i hi j c hj;rw[u1];exact u2.mono I
 have A:(σ1++[aV.buf E k n es]).set σ1.length .dead=σ1++[.dead]:=by simp
 obtain⟨Q,F⟩:=hh.iP (M':=M') (w':=s.w) (B':=.dead) (L':=⟨L.v,[]⟩) D z av (bg _) (λ_ _ _=>rfl) (λb _ hb o=>H b hb o) R S (by simp) rfl rfl rfl av
 rw[A] at Q F;have q3:=Q.drop (rest:=[.dead]) B;refine⟨_,q3,⟨rfl,R,λb hb o=>H b (hb L (bU z)) o,S,λb hb=>?_⟩,⟨λv a r q=>?_,λv k' o m r e g=>T v k' o m r e g⟩,λ{σ0 s0} st hle=>(st.trans (F.oG hh)).drop (rest:=[.dead]) hle⟩
 .rcases hb with hb|⟨L',f,hb⟩
  .exact .inl hb
  .have:=iK f
   grind
 .exact(r.mono F.ext hh.len).drop (rest:=[.dead]) q
end
def cM.iY{P:aq}{ι:Type}{X:Cx P}{f:aW}{args:List D}{σ:List aV}{res res':ι->D}{σ1:ι->List aV}{E k:Nat}{n:ι->Nat}{es:ι->Nat->List C}(h:cM X f args σ res (λi=>σ1 i++[.buf E k (n i) (es i)]))
  {ps:ι->List Prop} (e:∀ i,wB (σ1 i).length k (n i) (es i) (res i)=aa (res' i,ps i)) (g:∀ i,ag (ps i)) (b:∀ i,rN (σ1 i).length (σ1 i)=ab) (a:∀ i,σ.length<=(σ1 i).length):cM X f args σ res' σ1:=by
 refine⟨h.1,λs vs hr hh S cs hS=>h.2 s vs hr hh S cs λi fr v s' hl mQ lb st=>?_⟩
 obtain⟨s2,c1,c2,c3,c4⟩:=lb.Jv (b i);exact .ghost c2 (hS i fr v s2 (hl.mono c2.mem) (c3.d (e i) (g i) mQ) c1 (c4 st (a i)))
def Ev.iY{P:aq}{X:Cx P}{f:aW}{args:List D}{σ:List aV}{res res':D}{σ1:List aV}{E k n:Nat}{es:Nat->List C}(h:Ev X f args σ res (σ1++[.buf E k n es]))
  {ps:List Prop} (d:wB σ1.length k n es res=aa (res',ps)) (e:ag ps) (b:rN σ1.length σ1=ab) (a:σ.length<=σ1.length):Ev X f args σ res' σ1 :=
 (cM.iY (ι:=Unit) h.Bm (λ_=>d) (λ_=>e) (λ_=>b) (λ_=>a)).uA
section
variable {P:aq}{T:List (Nat×TI)}{o:aw}{d:an->D}{σ:List aV}
def zK{x:an}{t:ar}(h:o.op=.call { callee:=.builtin .clear,args:=#[x],argTypes:=#[t] })(ρ:an->ak) :
  ay ρ o=(do pure (.value (<-Builtin.clear_ #[t] o.type #[ρ x]))):=by
 simp[ay,h,resolve,invoke,builtin]
def Ju{M:Mem}{z:ak}{f:List C}{m k:Nat}(p:z.cells.toList.map qi=f.map aa)(r:f.length=k):Flat M k m (λ_=>f) (Builtin.zeroCells z.cells m).toList:=by
 have e:z.cells.size=k:=by have:=du List.length p;simp at this;omega
 have l:dW [] ⟨[],M,default,λ_=>False⟩ z.cells.toList (f.map A.c):=kK p
 refine⟨by simp[Builtin.zeroCells,e],λ_ _=>r,λi hi j c s=>?_⟩
 have u:j<k:=by grind
 obtain⟨v,v1,q⟩:=l.get (j:=j) (a:=A.c c) (by rw[nE,s];rfl)
 refine⟨v,?_,q⟩;have n:i*k+j<m*k:=by
  have:i*k+k<=m*k:=by rw[<-k9];exact et k hi
  omega
 have b:(i*k+j) % k=j:=by grind [Nat.add_comm,Nat.add_mul_mod_self_right,Nat.mod_eq_of_lt]
 have g:j<z.cells.size:=by omega
 have t:z.cells[j]=v:=by
  grind
 have h:z.cells[j]! = v:=by rw[getElem!_pos z.cells j g,t]
 simp[Builtin.zeroCells,e,n,b,h]
def bH.DV(Z:dg P T){x:an}{t:ar}(h:o.op=.call { callee:=.builtin .clear,args:=#[x],argTypes:=#[t] }){i c:TI}{E:ar}(hi:bF T t=aa i)(hd:i.desc=.slice E)(hE:bF T E=aa c)
  {l n q m:Nat} {K:ar} {es:Nat->List C} (hx:d x=.e (.one (.bp l (.sl n c.size q m)))) (hl:σ[l]?=aa (.buf K c.size n es)) (B:q+m<=n) :
  bH P o d σ .any (σ.set l (.buf K c.size n (oY q (q+m) c.zero es))):=by
 intro s ρ hh hr;have h1:=hr x;rw[hx] at h1
 change gx σ s (ρ x) (.bp l _) at h1
 obtain⟨lv,⟨a,a0,cap,c0,hv,V1,Tb,Wx,Q,S⟩,_,U⟩:=h1;obtain⟨L,X,y⟩:=(U _ _ _ _ hl).2 rfl;rw[Q] at y;have f:=(Z t i hi).Tg;rw[hd] at f;rw[zK h,hv]
 by_cases hm:m=0
 .subst hm;have hz:oY q (q+0) c.zero es=es:=by
   funext j
   simp only[oY];rw[aY (by omega)]
  have hs:σ.set l (.buf K c.size n es)=σ:=by
   apply iM
   grind
  rw[hz,hs];refine⟨.value (.tuple #[]),s,?_,av,hh,.refl _ _,?_⟩
  .cases a <;> simp[Builtin.clear_,run_underlying f]
  .intro N p;cases a <;> simp[Builtin.clear_,run_underlying f,aO] at p
 .obtain⟨b,rfl,rfl⟩:=S (by omega)
  rcases hh.box l _ L hl X with⟨_,rfl⟩|⟨b',c1,vs,G,rfl,g,V,O,Y,hF,hM⟩
  .cases y
  .cases y;obtain⟨inf,z,z1,z2,z3,z4,z5,z6,z7⟩:=(Z E c hE).info;have r:=Ju (M:=s.M) (m:=m) z5 z7;have hlen:(Builtin.zeroCells z.cells m).toList.length=m*c.size:=r.len;have PF:=hF.len;have hb:q*c.size+m*c.size<=n*c.size:=by rw[<-gR];exact et _ B
   have q2:=hF.Ty r B;have he:(λi=>if q<=i/\i<q+m then (λ_=>c.zero) (i-q) else es i)=oY q (q+m) c.zero es:=rfl
   rw[he] at q2;obtain⟨t1,t2⟩:=hh.ef hl X V O Y g q2 (by grind) hM
   have k:∀ v∈(Builtin.zeroCells z.cells m).toList,v.oneCell'=ab:=r.cell;have A:=run_storeCells_at P b (q*c.size) K (Builtin.zeroCells z.cells m).toList 0 (vs++G).toArray s.w g (by grind) k
   have H:((vs++G).toArray.toList.take (q*c.size+0)++(Builtin.zeroCells z.cells m).toList++(vs++G).toArray.toList.drop (q*c.size+0+(Builtin.zeroCells z.cells m).toList.length))=vs.take (q*c.size)++(Builtin.zeroCells z.cells m).toList++vs.drop (q*c.size+(Builtin.zeroCells z.cells m).toList.length)++G:=by
    grind
   rw[H] at A;have F:∀ u,(zeroValue E).run P u=.ok z u:=λu=>by simp[zeroValue,typeInfo,z1,z4]
   have W:∀ u es,(zeroValue E).events P u es=es:=λu es=>by simp[zeroValue,typeInfo,z1,z4,aO]
   obtain⟨J,rfl⟩:∃ J,m=J+1:=⟨m-1,by omega⟩
   refine⟨.value (.tuple #[]),_,?_,av,t1,t2,?_⟩
   .simp[Builtin.clear_,run_underlying f,F,A]
   .intro N p;have I:N∈(storeCells ⟨b,q*c.size,af⟩ (Builtin.zeroCells z.cells (J+1)).toList).events P s.w #[]:=by
     simp only[Builtin.clear_,aO,iJ,kX] at p;simpa[run_underlying f,F,W,A] using p
    rcases eE (Builtin.zeroCells z.cells (J+1)).toList 0 (vs++G).toArray s.w #[] g (by grind) k N I with R|⟨j,_,_,rfl⟩
    .simp at R
    .exact mn (bU X) (by simp) (hM _)
end
section
variable {P:aq}{X:Cx P}{N:Nat}{Qf:Post}{K:List It}{φ:Fr}{σ:List aV}{all rest:List aw}{o:aw}
def AK.Kb{c:Fr}{σ':List aV}(h:∀ s a,cx N σ s φ a->aJ σ s->∃ s':St,s'.w=s.w/\cx N σ' s' c a/\aJ σ' s'/\Step σ s σ' s')(k:AK X N Qf (.ops all rest::K) .normal c σ'):AK X N Qf (.ops all rest::K) .normal φ σ:=by
 intro s a i hh b kk cs S idx hb jH hQ;obtain⟨s',l,g,e,st⟩:=h s a i hh;have d:=st.oG hh;refine .ghost (.of hh e l d) ?_;exact k s' a g e b kk cs S idx hb jH λf σ2 s2 a2 q j h2 oB=>hQ f σ2 s2 a2 q j h2 (d.trans oB)
def AK.wm(t:Nat)(E k:Nat)(es':Nat->List C){k':Nat}{d:Nat->List C}(h:look φ t=.e (.one (.c (.sl ab k' 0 d))))
  (kk:AK X N Qf (.ops all rest::K) .normal ((t,.e (.one (.bp σ.length (.sl 0 k 0 0))))::φ) (σ++[.buf E k 0 es'])):AK X N Qf (.ops all rest::K) .normal φ σ:=by
 refine AK.Kb (λs a b hh=>?_) kk
 have f:=b.slot t;rw[h] at f;obtain⟨g,g2⟩:=hh.gT (B:=.buf E k 0 es') (L:=⟨.slice af 0 0,[]⟩) (.refl _ _) rfl hh (.inl ⟨rfl,rfl⟩) (by simp)
 refine⟨{ s with β:=s.β++[⟨.slice af 0 0,[]⟩] },rfl,⟨b.size,b.defers.imp λ_ h1=>h1.mono g2.ext,λu=>?_⟩,g,g2⟩
 simp only[look];cases hb:aG t u with
 |false=>exact(b.slot u).mono g2.ext hh.len
 |true =>
  have e:=bX hb;subst e;exact uZ (E:=E) (es:=es') (fy f) (by simp) (by simp[<-hh.len])
def AK.B4{T:List (Nat×TI)}(D:dg P T){t ty:ar}{x:an}{d g:Nat}(h:o.op=.binOp .eql t x (.const (.slice af d g)) ty){i:TI}{E:ar}(hi:bF T t=aa i)(B:i.desc=.slice E){tt:Bool}{k n:Nat}{es:Nat->List C}
  (A:b5 φ x=.e (.one (.c (.sl tt k n es)))) (I:o.guard=af) (H:gy N o.dst=ab)
  (kk:∀ b:Bool,(b=ab->n=0)->AK X N Qf (.ops all rest::K) .normal (lC o.dst (.e (.one (.c (.bool b)))) φ) σ):AK X N Qf (.ops all (o::rest)::K) .normal φ σ:=by
 refine AK.hand (ι:={ b:Bool // b=ab->n=0 }) (λb=>.e (.one (.c (.bool b.1)))) (λ_=>σ) I H (λs a z hh=>?_) λb=>kk b.1 b.2
 have m:=dX z x;rw[A] at m;obtain⟨ad,cap,vs,m,_,_,_,_,F⟩:=(fy m).flat;have j:=(D t i hi).Tg;rw[B] at j;have r:=fy (by have:=dX z x;rw[A] at this;exact this)
 have p:ad.isNone=ab->n=0:=by
  intro hn;rw[m] at r;cases r with
  |sl b off f v hb ht hk ha F u =>
   grind
 refine⟨⟨ad.isNone,p⟩,.value (.bool ad.isNone),s,.bool ad.isNone,?_,.inl rfl,Rd.bool,hh,.refl _ _,?_⟩
 .have u:(binOp .eql t (.slice ad n cap) (.slice af d g)).run P s.w=.ok (.bool ad.isNone) s.w:=Go.Lib.run_eql_slice_nil s.w t E ad n cap d g j;have l:∀ y,eqGuard .eql t x y (.slice ad n cap) (.slice af d g)=pure ():=λy=>by simp[eqGuard]
  have e1:a.eval (.const (.slice af d g))=.slice af d g:=rfl;simp only[ay,h,m,e1,l];simp[u]
 .have G:∀ es,(Op.equal t (.slice ad n cap) (.slice af d g)).events P s.w es=es:=λes=>by
   show (Op.equalIn (9999+1) t _ _).events P s.w es=es;unfold Op.equalIn;cases ad <;> simp[underlying,j]
  have u:(Op.equal t (.slice ad n cap) (.slice af d g)).run P s.w=.ok ad.isNone s.w:=by
   show (Op.equalIn (9999+1) t _ _).run P s.w=_
   grind [Go.Lib.run_equalIn_slice_nil]
  have l:∀ y,eqGuard .eql t x y (.slice ad n cap) (.slice af d g)=pure ():=λy=>by simp[eqGuard]
  have e1:a.eval (.const (.slice af d g))=.slice af d g:=rfl;intro J q;exfalso;simp only[ay,h,m,e1,l,binOp] at q;simp[u,G,aO] at q
end
end
end Go.AM
namespace Go.AM.R1
section
open Go.Proofs
open Go.Sort (swp insInner insOuter ltInt)
variable {X:Cx ah}
def My(n:Int):Ev X 233 [dI n] [] (dB ae) []:=by
 refine Ev.bQ Tryz.func233 rfl λa=>?_
 refine aX [(5,ae)] 100 rfl (by simp[ag]) (AK.bn rfl ?_)
 simp[ag]
abbrev VE:dk:=jZ aI (λ_=>dB ae) λ_=>[]
def Zh:dM X 233 VE:=.ox λn _=>My n
def Pj(x y:Int):Ev X 212 [dI x,dI y] [] (dB (ltInt x y)) []:=by
 have a:bD X [(233,VE)]:=.cons Zh .nil;refine Ev.bQ Tryz.func212 rfl λb=>?_
 refine aC a [] 100 rfl (by simp[ag]) (AK.bn rfl ?_)
 simp[ag,ltInt]
abbrev uv:dk:=p9 aI aI (λx y=>dB (ltInt x y)) λ_ _=>[]
def xo:dM X 212 uv:=.tm λx y _=>Pj x y
def eI(d:Array Int)(j:Nat):List C:=[.int .i64 d[j]!]
abbrev kF(n:Nat):D:=.e (.one (.bp 0 (.sl n 1 0 n)))
abbrev bI(n:Nat)(d:Array Int):aV:=.buf 3 1 n (eI d)
def g7:∀ j,j<1->([0]:List Nat)[j]?=aa j:=λj a=>by
 have:j=0:=by omega
 subst this;rfl
end
section
open Go.Proofs
open Go.Sort (swp insInner insOuter insertionSort ltInt)
variable {X:Cx ah}
def hI{d:Array Int}{i j n:Nat}(h:d.size=n)(hi:i<n)(g:j<n){f:Nat->List C}(a:aP n f (eI d)):aP n (ni j [.int .i64 d[i]!] (ni i [.int .i64 d[j]!] f)) (eI (swp d i j)):=by
 intro k b;have e:(swp d i j)[k]! = if k=j then d[i]! else if k=i then d[j]! else d[k]! := by
  unfold swp
  grind
 have c:=a k b;simp only[eI,ni] at c ⊢
 grind
theorem size_swp(d:Array Int)(i j:Nat):(swp d i j).size=d.size:=by simp[swp]
def A9{a j:Nat}{d:Array Int}(h:a<j)(b:ltInt d[j]! d[j-1]! = ab):insInner ltInt a j d=insInner ltInt a (j-1) (swp d j (j-1)):=by
 cases j with
 |zero=>omega
 |succ j =>
  simp only[pF] at b ⊢;rw[insInner,bd]
  grind
def sJ{a j:Nat}{d:Array Int}(h:a<j->ltInt d[j]! d[j-1]! = ae):insInner ltInt a j d=d:=by
 cases j with
 |zero=>rfl
 |succ j =>
  simp only[pF] at h;rw[insInner,aY]
  grind
theorem SY(n:Nat)(d:Array Int)(a b:Nat)(q:d.size=n)(w:b<=n)(t:a<=n)(u:n<=4000000) :
  Ev X 206 [kF n,dI a,dI b] [bI n d] (.eK []) [bI n (insertionSort ltInt d a b)]:=by
 have k:bD X [(212,uv)]:=.cons xo .nil;refine Ev.bQ Tryz.func206 rfl λv=>?_
 refine bk rfl (by simp[ag,bx];omega) ?_
 refine AK.bP 1 (λs:Nat×Array Int=>s.2.size=n/\a+1<=s.1/\s.1<=n+1/\insOuter ltInt a b s.1 s.2=insertionSort ltInt d a b) (λs=>[(0,kF n),(1,dI a),(2,dI b),(6,dI s.1)]) (λs=>[bI n s.2]) (λs=>b-s.1) (a+1,d) rfl ?_ rfl ?_ rfl ⟨q,by omega,by simp only;omega,rfl⟩ ?_
 .simp[ag.cat,ag,aP]
 .simp[ag.cat,ag,aP]
 rintro⟨i,d1⟩ ⟨o,hi,l,e⟩;simp only at o hi l e
 by_cases h:i<b
 .refine aX [(12,ab)] 100 rfl (by simp[ag];omega) ?_
  refine AK.bP 1 (λs:Nat×Array Int=>s.2.size=n/\s.1<=i/\insInner ltInt a s.1 s.2=insInner ltInt a i d1) (λs=>[(0,kF n),(1,dI a),(2,dI b),(6,dI i),(7,dI s.1)]) (λs=>[bI n s.2]) (λs=>s.1) (i,d1) rfl ?_ rfl ?_ rfl ⟨o,by simp,rfl⟩ ?_
  .simp[ag.cat,ag,aP]
  .simp[ag.cat,ag,aP]
  rintro⟨j,d2⟩ ⟨f,r,c⟩;simp only at f r c
  by_cases p:a<j
  .have m:((j:Int)-1).toNat=j-1:=by omega
   by_cases g:ltInt d2[j]! d2[j-1]! = ab
   .refine aC k [(18,ab),(29,ab)] 100 rfl ?_ ?_
    .simp[ag,bx,m,g];omega
    refine AK.aQ (j-1,swp d2 j (j-1)) rfl ?_ ?_ ?_ ?_
    .simp[ag.cat,ag];omega
    .simp only[ag.cat,ag,m,bt,bA,aE,aF];exact hI f (by omega) (by omega) (λ_ _=>rfl)
    .refine⟨by rw[size_swp];exact f,by omega,?_⟩
     rw[<-c,A9 p g]
    .simp;omega
   .refine aC k [(18,ab),(29,ae)] 100 rfl ?_ (AK.leaveD rfl rfl ?_)
    .simp[ag,bx,m,g];omega
    refine bk rfl ?_ (AK.aQ (i+1,d2) rfl ?_ ?_ ?_ ?_)
    .simp[ag,bx];omega
    .simp[ag.cat,ag]
    .simp[ag.cat,ag,aP]
    .refine⟨f,by omega,by simp only;omega,?_⟩
     simp only;rw[<-e,insOuter.eq_1 ltInt a b i,bd h,<-c,sJ λ_=>by simpa using g]
    .simp;omega
  .refine aC k [(18,ae)] 100 rfl ?_ (AK.leaveD rfl rfl ?_)
   .simp[ag,bx];omega
   refine bk rfl ?_ (AK.aQ (i+1,d2) rfl ?_ ?_ ?_ ?_)
   .simp[ag,bx];omega
   .simp[ag.cat,ag]
   .simp[ag.cat,ag,aP]
   .refine⟨f,by omega,by simp only;omega,?_⟩
    simp only;rw[<-e,insOuter.eq_1 ltInt a b i,bd h,<-c,sJ λx=>absurd x p]
   .simp;omega
 .refine aX [(12,ae)] 100 rfl (by simp[ag];omega) (AK.leaveD rfl rfl ?_)
  have:insertionSort ltInt d a b=d1:=by rw[<-e,insOuter,aY h]
  rw[this];exact b6.tj [0] rfl av rfl rfl rfl g7
end
section
open Go.Proofs
open Go.Sort (swp siftDown ltInt)
variable {X:Cx ah}
def MH{hi first root:Nat}{d:Array Int}(h:¬2*root+1<hi):siftDown ltInt hi first root d=d:=by
 rw[siftDown,dif_pos (by omega)]
theorem MI{hi first root:Nat}{d:Array Int}(h:2*root+1<hi)(b:2*root+1+1<hi->ltInt d[first+(2*root+1)]! d[first+(2*root+1)+1]! = ae)(a:ltInt d[first+root]! d[first+(2*root+1)]! = ab) :
  siftDown ltInt hi first root d=siftDown ltInt hi first (2*root+1) (swp d (first+root) (first+(2*root+1))):=by
 rw[siftDown.eq_1 ltInt hi first root d,dif_neg (by omega),aY (by grind),aY (by grind)]
theorem GF{hi first root:Nat}{d:Array Int}(h:2*root+1<hi)(b:2*root+1+1<hi->ltInt d[first+(2*root+1)]! d[first+(2*root+1)+1]! = ae)(a:ltInt d[first+root]! d[first+(2*root+1)]! = ae) :
  siftDown ltInt hi first root d=d:=by
 rw[siftDown.eq_1 ltInt hi first root d,dif_neg (by omega),aY (by grind),bd (by grind)]
theorem S1{hi first root:Nat}{d:Array Int}(h:2*root+1+1<hi)(b:ltInt d[first+(2*root+1)]! d[first+(2*root+1+1)]! = ab)(a:ltInt d[first+root]! d[first+(2*root+1+1)]! = ab) :
  siftDown ltInt hi first root d=siftDown ltInt hi first (2*root+1+1) (swp d (first+root) (first+(2*root+1+1))):=by
 rw[siftDown.eq_1 ltInt hi first root d,dif_neg (by omega),bd (by grind),aY (by grind),dif_pos (by omega)]
theorem Po{hi first root:Nat}{d:Array Int}(h:2*root+1+1<hi)(b:ltInt d[first+(2*root+1)]! d[first+(2*root+1+1)]! = ab)(a:ltInt d[first+root]! d[first+(2*root+1+1)]! = ae) :
  siftDown ltInt hi first root d=d:=by
 rw[siftDown.eq_1 ltInt hi first root d,dif_neg (by omega),bd (by grind),bd (by grind)]
def Pp(n:Nat)(d:Array Int)(lo hi first:Nat)(l:d.size=n)(t:first+hi<=n)(o:lo<=n)(p:n<=4000000) :
  Ev X 228 [kF n,dI lo,dI hi,dI first] [bI n d] (.eK []) [bI n (siftDown ltInt hi first lo d)]:=by
 have g:bD X [(212,uv)]:=.cons xo .nil;refine Ev.bQ Tryz.func228 rfl λq=>?_
 refine bk rfl av ?_;refine AK.bP 1 (λs:Nat×Array Int=>s.2.size=n/\s.1<=n/\siftDown ltInt hi first s.1 s.2=siftDown ltInt hi first lo d) (λs=>[(0,kF n),(1,dI lo),(2,dI hi),(3,dI first),(8,dI s.1)]) (λs=>[bI n s.2]) (λs=>hi-s.1) (lo,d) rfl ?_ rfl ?_ rfl ⟨l,o,rfl⟩ ?_
 .simp[ag.cat,ag,aP]
 .simp[ag.cat,ag,aP]
 rintro⟨root,d1⟩ ⟨j,m,f⟩;simp only at j m f
 by_cases h:2*root+1<hi
 .have c:((first:Int)+(2*(root:Int)+1)).toNat=first+(2*root+1):=by omega
  have e:((first:Int)+(2*(root:Int)+1)+1).toNat=first+(2*root+1+1):=by omega
  by_cases r:2*root+1+1<hi
  .by_cases i:ltInt d1[first+(2*root+1)]! d1[first+(2*root+1+1)]! = ab
   .have k:((first:Int)+(2*(root:Int)+1+1)).toNat=first+(2*root+1+1):=by omega
    have b:((first:Int)+(root:Int)).toNat=first+root:=by omega
    by_cases a:ltInt d1[first+root]! d1[first+(2*root+1+1)]! = ab
    .refine aC g [(16,ae),(20,ab),(35,ab),(51,ab)] 200 rfl ?_ (AK.aQ (2*root+1+1,swp d1 (first+root) (first+(2*root+1+1))) rfl ?_ ?_ ?_ ?_)
     .simp only[ag,bt,c,e,b,k,i,a,bx,ba,bM,aF,aE];and_intros <;> omega
     .simp only[ag.cat,ag,aF,aE];grind
     .simp only[ag.cat,ag,bt,c,e,b,k,aE,aF];exact hI j (by omega) (by omega) (λ_ _=>rfl)
     .grind [size_swp,S1]
     grind
    .rw[mf] at a;rw[show siftDown ltInt hi first lo d=d1 by grind [Po]]
     refine aC g [(16,ae),(20,ab),(35,ab),(51,ae)] 200 rfl ?_ (AK.eh (b6.mk [0] rfl av rfl rfl rfl g7));simp only[ag,bt,c,e,b,k,i,a,bx,ba,bM,aF,aE];and_intros <;> omega
   .rw[mf] at i;have b:((first:Int)+(root:Int)).toNat=first+root:=by omega
    by_cases a:ltInt d1[first+root]! d1[first+(2*root+1)]! = ab
    .refine aC g [(16,ae),(20,ab),(35,ae),(51,ab)] 200 rfl ?_ (AK.aQ (2*root+1,swp d1 (first+root) (first+(2*root+1))) rfl ?_ ?_ ?_ ?_)
     .simp only[ag,bt,c,e,b,i,a,bx,ba,bM,aF,aE];and_intros <;> omega
     .simp only[ag.cat,ag,aF,aE];grind
     .simp only[ag.cat,ag,bt,c,e,b,aE,aF];exact hI j (by omega) (by omega) (λ_ _=>rfl)
     .grind [size_swp,MI]
     grind
    .rw[mf] at a;rw[show siftDown ltInt hi first lo d=d1 by grind [GF]]
     refine aC g [(16,ae),(20,ab),(35,ae),(51,ae)] 200 rfl ?_ (AK.eh (b6.mk [0] rfl av rfl rfl rfl g7));simp only[ag,bt,c,e,b,i,a,bx,ba,bM,aF,aE];and_intros <;> omega
  .have i:True:=av;have b:((first:Int)+(root:Int)).toNat=first+root:=by omega
   by_cases a:ltInt d1[first+root]! d1[first+(2*root+1)]! = ab
   .refine aC g [(16,ae),(20,ae),(51,ab)] 200 rfl ?_ (AK.aQ (2*root+1,swp d1 (first+root) (first+(2*root+1))) rfl ?_ ?_ ?_ ?_)
    .simp only[ag,bt,c,e,b,a,bx,ba,bM,aF,aE];and_intros <;> omega
    .simp only[ag.cat,ag,aF,aE];grind
    .simp only[ag.cat,ag,bt,c,e,b,aE,aF];exact hI j (by omega) (by omega) (λ_ _=>rfl)
    .grind [size_swp,MI]
    grind
   .rw[mf] at a;rw[show siftDown ltInt hi first lo d=d1 by grind [GF]]
    refine aC g [(16,ae),(20,ae),(51,ae)] 200 rfl ?_ (AK.eh (b6.mk [0] rfl av rfl rfl rfl g7));simp only[ag,bt,c,e,b,a,bx,ba,bM,aF,aE];and_intros <;> omega
 .refine aX [(16,ab)] 100 rfl (by simp only[ag,bx,ba,aF,aE];and_intros <;> omega) (AK.leaveD rfl rfl ?_)
  rw[<-f,MH h];exact b6.tj [0] rfl av rfl rfl rfl g7
end
section
open Go.Proofs
open Go.Sort (swp order2 median medianAdjacent choosePivot Hint ltInt)
variable {X:Cx ah}
abbrev bN(k:Nat):aV:=.cells 3 [.c (.int .i64 k)]
abbrev Tu:D:=.e (.one (.ptr 1 0))
abbrev tII(a b:Nat):D:=.eK [.one (.c (.int .i64 a)),.one (.c (.int .i64 b))]
def GG:∀ j,j<2->([0,1]:List Nat)[j]?=aa j:=λj a=>by
 grind
def tJ(n:Nat)(d:Array Int)(a b sw:Nat)(g:a<n)(j:b<n)(k:n<=4000000)(f:sw<=1000) :
  Ev X 242 [kF n,dI a,dI b,Tu] [bI n d,bN sw] (tII (order2 ltInt d a b sw).1 (order2 ltInt d a b sw).2.1) [bI n d,bN (order2 ltInt d a b sw).2.2]:=by
 have c:bD X [(212,uv)]:=.cons xo .nil;refine Ev.bQ Tryz.func242 rfl λi=>?_
 by_cases h:ltInt d[b]! d[a]! = ab
 .have e:order2 ltInt d a b sw=(b,a,sw+1):=by simp[order2,h]
  rw[e];refine aC c [(18,ab)] 200 rfl ?_ (AK.dJ [0,1] rfl ?_ rfl rfl rfl GG)
  .simp only[ag,bt,bA,h,bx,aF,aE];and_intros <;> omega
  .simp[ag,ag.cat]
 .have e:order2 ltInt d a b sw=(a,b,sw):=by simp[order2,h]
  rw[e];rw[mf] at h;refine aC c [(18,ae)] 200 rfl ?_ (AK.dJ [0,1] rfl ?_ rfl rfl rfl GG)
  .simp only[ag,bt,bA,h,bx,aF,aE];and_intros <;> omega
  .simp[ag,ag.cat]
def nB{d:Array Int}{a b sw n:Nat}(c:a<n)(e:b<n):(order2 ltInt d a b sw).1<n/\(order2 ltInt d a b sw).2.1<n/\(order2 ltInt d a b sw).2.2<=sw+1:=by
 unfold order2;split <;> simp only <;> omega
def ze(n:Nat)(d:Array Int)(a b c sw:Nat)(g:a<n)(h:b<n)(i:c<n)(f:n<=4000000)(k:sw<=900) :
  Ev X 232 [kF n,dI a,dI b,dI c,Tu] [bI n d,bN sw] (dI (median ltInt d a b c sw).1) [bI n d,bN (median ltInt d a b c sw).2]:=by
 refine Ev.bQ Tryz.func232 rfl λl=>?_
 have e:=nB (d:=d) (sw:=sw) g h;have j:=nB (d:=d) (sw:=(order2 ltInt d a b sw).2.2) e.2.1 i;refine dY rfl av ?_;refine AK.cQ (tJ n d a b sw g h f (by omega)) [0,1] rfl ?_
 refine dY rfl av ?_;refine AK.cQ (tJ n d (order2 ltInt d a b sw).2.1 c (order2 ltInt d a b sw).2.2 e.2.1 i f (by omega)) [0,1] rfl ?_
 refine dY rfl av ?_;refine AK.cQ (tJ n d (order2 ltInt d a b sw).1 (order2 ltInt d (order2 ltInt d a b sw).2.1 c (order2 ltInt d a b sw).2.2).1 (order2 ltInt d (order2 ltInt d a b sw).2.1 c (order2 ltInt d a b sw).2.2).2.2 e.1 j.1 f (by omega)) [0,1] rfl ?_
 refine dY rfl av (AK.dJ [0,1] rfl ?_ rfl rfl rfl GG);simp[ag,ag.cat,median]
def ID{d:Array Int}{a b c sw n:Nat}(g:a<n)(i:b<n)(j:c<n):(median ltInt d a b c sw).1<n/\(median ltInt d a b c sw).2<=sw+3:=by
 have e:=nB (d:=d) (sw:=sw) g i;have h:=nB (d:=d) (sw:=(order2 ltInt d a b sw).2.2) e.2.1 j;have f:=nB (d:=d) (sw:=(order2 ltInt d (order2 ltInt d a b sw).2.1 c (order2 ltInt d a b sw).2.2).2.2) e.1 h.1;unfold median;exact⟨f.2.1,by simp only;omega⟩
def Ba(n:Nat)(d:Array Int)(a sw:Nat)(e:1<=a)(g:a+1<n)(c:n<=4000000)(b:sw<=900) :
  Ev X 231 [kF n,dI a,Tu] [bI n d,bN sw] (dI (medianAdjacent ltInt d a sw).1) [bI n d,bN (medianAdjacent ltInt d a sw).2]:=by
 refine Ev.bQ Tryz.func231 rfl λf=>?_
 obtain⟨a,rfl⟩:∃ a',a=a'+1:=⟨a-1,by omega⟩
 refine dY rfl (by simp only[ag,bx];and_intros <;> omega) ?_
 have key:∀ x y z:Int,x=(a:Int)->y=((a+1:Nat):Int)->z=((a+1+1:Nat):Int)->Ev X 232 [kF n,dI x,dI y,dI z,Tu] [bI n d,bN sw] (dI (median ltInt d a (a+1) (a+1+1) sw).1) [bI n d,bN (median ltInt d a (a+1) (a+1+1) sw).2]:=by
  rintro x y z rfl rfl rfl;exact ze n d a (a+1) (a+1+1) sw (by omega) (by omega) (by omega) c b
 refine AK.cQ (key (((a+1:Nat):Int)-1) _ (((a+1:Nat):Int)+1) (by omega) rfl (by omega)) [0,1] rfl ?_
 refine dY rfl av (AK.dJ [0,1] rfl ?_ rfl rfl rfl GG);simp[ag,ag.cat,medianAdjacent]
end
end Go.AM.R1
namespace Go.AM
section
open Go.Conc (G)
section
variable {P:aq}{X:Cx P}{N:Nat}{Qf:Post}{φ:Fr}{σ:List aV}
def AK.XO{c:Code}{K:List It}{a:Fr}{σ':List aV}(k:AK X N Qf (.code c::K) .normal a σ'){ps qs:List Prop}(h1:qF φ a=aa ps)(d:ag ps)(h2:tf σ σ'=aa qs)(b:ag qs):AK X N Qf (.code c::K) .normal φ σ :=
 AK.norm σ' h2 b (AW.le k (dh h1 d))
def tT:List It->List It
 |.blk _::K=>tT K
 |K=>K
def AK.tT:∀ {K:List It},AK X N Qf (tT K) .normal φ σ->AK X N Qf K .normal φ σ
 |[],h=>h
 |.blk _::K,h=>AK.tT (K:=K) h
 |.code _::_,h=>h
 |.ops _ _::_,h=>h
def AK.kQ{S S2:Type}{c c2:Code}(id:Nat){K e i:List It}(h2:kP id K=aa e)(j:Go.AM.tT e=.code c2::i)(O:S2->Prop)(mZ:S2->Fr)(a:S2->List aV)(n:Nat)(I:S->Prop)(fr:S->Fr)(st:S->List aV)(h:S->Nat)(x:S)
  {ps qs:List Prop} (b:qF φ (fr x)=aa ps) (f:ag ps) (d:tf σ (st x)=aa qs) (g:ag qs) (hn:σ.length=n) (l:I x)
  (round:(∀ (y:S2) {φ:Fr} {σ:List aV} {ps qs:List Prop},O y->qF φ (mZ y)=aa ps->ag ps->tf σ (a y)=aa qs->ag qs->AK X N Qf e .normal φ σ) ->
   ∀ x,I x->AK X N (lZ X N Qf K I fr st h n x) [.code c] .normal (fr x) (st x))
  (after:∀ y,O y->AK X N Qf (.code c2::i) .normal (mZ y) (a y)):AK X N Qf (.code (.loop c)::K) .normal φ σ :=
 AK.bP n I fr st h x b f d g hn l (round λy _ _ _ _ k h1 f h2 g=>AK.tT (by rw[j];exact(after y k).XO h1 f h2 g))
end
end
end Go.AM
namespace Go.AM.R1
section
open Go.Proofs
open Go.Sort (swp order2 median medianAdjacent choosePivot Hint ltInt)
variable {X:Cx ah}
def nA:Hint->Int|.unknown=>0|.increasing=>1|.decreasing=>2
def xr(n:Nat)(d:Array Int){a b c:Nat}(sw:Nat)(f:a<n)(h:b<n)(l:c<n)(k:n<=4000000)(e:sw<=900){x y z:Int}(j:x=a)(g:y=b)(i:z=c) :
  Ev X 232 [kF n,dI x,dI y,dI z,Tu] [bI n d,bN sw] (dI (median ltInt d a b c sw).1) [bI n d,bN (median ltInt d a b c sw).2]:=by
 subst j g i;exact ze n d a b c sw f h l k e
def mX(n:Nat)(d:Array Int){a:Nat}(sw:Nat)(c:1<=a)(e:a+1<n)(g:n<=4000000)(b:sw<=900){x:Int}(f:x=a) :
  Ev X 231 [kF n,dI x,Tu] [bI n d,bN sw] (dI (medianAdjacent ltInt d a sw).1) [bI n d,bN (medianAdjacent ltInt d a sw).2]:=by
 subst f;exact Ba n d a sw c e g b
def oo{d:Array Int}{a sw n:Nat}(b:1<=a)(c:a+1<n):(medianAdjacent ltInt d a sw).1<n/\(medianAdjacent ltInt d a sw).2<=sw+3 :=
 ID (by omega) (by omega) (by omega)
abbrev pA(k:Nat):Hint:=if k=0 then .increasing else if k=12 then .decreasing else .unknown
def MJ{d:Array Int}{a l:Nat}(c:8<=l)(b:l<50):choosePivot ltInt d a (a+l)=((median ltInt d (a+l / 4*1) (a+l / 4*2) (a+l / 4*3) 0).1,pA (median ltInt d (a+l / 4*1) (a+l / 4*2) (a+l / 4*3) 0).2):=by
 unfold choosePivot
 grind
abbrev mA(d:Array Int)(a l:Nat):=medianAdjacent ltInt d (a+l / 4*1) 0
abbrev mB(d:Array Int)(a l:Nat):=medianAdjacent ltInt d (a+l / 4*2) (mA d a l).2
abbrev mC(d:Array Int)(a l:Nat):=medianAdjacent ltInt d (a+l / 4*3) (mB d a l).2
def MK{d:Array Int}{a l:Nat}(b:50<=l):choosePivot ltInt d a (a+l)=((median ltInt d (mA d a l).1 (mB d a l).1 (mC d a l).1 (mC d a l).2).1,pA (median ltInt d (mA d a l).1 (mB d a l).1 (mC d a l).1 (mC d a l).2).2):=by
 unfold choosePivot
 grind
def IB(n:Nat)(d:Array Int)(a b:Nat)(j:a<=b)(p:b<=n)(i:8<=b-a)(g:n<=4000000) :
  Ev X 209 [kF n,dI a,dI b] [bI n d] (.eK [.one (.c (.int .i64 (choosePivot ltInt d a b).1)),.one (.c (.int .i64 (nA (choosePivot ltInt d a b).2)))]) [bI n d]:=by
 refine Ev.bQ Tryz.func209 rfl λo=>?_
 obtain⟨l,rfl⟩:∃ l,b=a+l:=⟨b-a,by omega⟩
 rw[uO] at i
 by_cases h:l<50
 .refine aX [(32,ab),(34,ae)] 200 rfl ?_ ?_
  .simp only[ag,bx,ba,bM,aF,aE];and_intros <;> omega
  refine AK.cQ (xr n d (a:=a+l / 4*1) (b:=a+l / 4*2) (c:=a+l / 4*3) 0 (by omega) (by omega) (by omega) g (by omega) (by omega) (by omega) (by omega)) [0,1] rfl ?_
  rw[MJ i h];generalize median ltInt d (a+l / 4*1) (a+l / 4*2) (a+l / 4*3) 0=r
  by_cases e:r.2=0
  .refine aX [(52,ab)] 200 rfl (by simp[ag,e]) (AK.dJ [0] rfl ?_ rfl rfl rfl g7)
   simp[ag,ag.cat,e,nA,pA]
  by_cases f:r.2=12
  .refine aX [(52,ae),(55,ab)] 200 rfl (by simp[ag,f]) (AK.dJ [0] rfl ?_ rfl rfl rfl g7)
   simp[ag,ag.cat,f,nA,pA]
  .refine aX [(52,ae),(55,ae)] 200 rfl (by simp[ag,e];omega) (AK.dJ [0] rfl ?_ rfl rfl rfl g7)
   simp[ag,ag.cat,e,f,nA,pA]
 .refine aX [(32,ab),(34,ab)] 200 rfl ?_ ?_
  .simp only[ag,bx,ba,bM,aF,aE];and_intros <;> omega
  have k:(mA d a l).1<n/\(mA d a l).2<=0+3:=oo (d:=d) (a:=a+l / 4*1) (sw:=0) (n:=n) (by omega) (by omega)
  have q:(mB d a l).1<n/\(mB d a l).2<=(mA d a l).2+3:=oo (d:=d) (a:=a+l / 4*2) (sw:=(mA d a l).2) (n:=n) (by omega) (by omega)
  have m:(mC d a l).1<n/\(mC d a l).2<=(mB d a l).2+3:=oo (d:=d) (a:=a+l / 4*3) (sw:=(mB d a l).2) (n:=n) (by omega) (by omega)
  refine AK.cQ (mX n d (a:=a+l / 4*1) 0 (by omega) (by omega) g (by omega) (by omega)) [0,1] rfl ?_
  refine dY rfl av ?_;refine AK.cQ (mX n d (a:=a+l / 4*2) (mA d a l).2 (by omega) (by omega) g (by omega) (by omega)) [0,1] rfl ?_
  refine dY rfl av ?_;refine AK.cQ (mX n d (a:=a+l / 4*3) (mB d a l).2 (by omega) (by omega) g (by omega) (by omega)) [0,1] rfl ?_
  refine dY rfl av ?_;refine AK.cQ (xr n d (a:=(mA d a l).1) (b:=(mB d a l).1) (c:=(mC d a l).1) (mC d a l).2 (by omega) (by omega) (by omega) g (by omega) rfl rfl rfl) [0,1] rfl ?_
  rw[MK (by omega)]
  generalize median ltInt d (mA d a l).1 (mB d a l).1 (mC d a l).1 (mC d a l).2=r
  by_cases e:r.2=0
  .refine aX [(52,ab)] 200 rfl (by simp[ag,e]) (AK.dJ [0] rfl ?_ rfl rfl rfl g7)
   simp[ag,ag.cat,e,nA,pA]
  by_cases f:r.2=12
  .refine aX [(52,ae),(55,ab)] 200 rfl (by simp[ag,f]) (AK.dJ [0] rfl ?_ rfl rfl rfl g7)
   simp[ag,ag.cat,f,nA,pA]
  .refine aX [(52,ae),(55,ae)] 200 rfl (by simp[ag,e];omega) (AK.dJ [0] rfl ?_ rfl rfl rfl g7)
   simp[ag,ag.cat,e,f,nA,pA]
end
section
open Go.Proofs
open Go.Sort (swp reverseLoop reverseRange siftDown heapBuild heapPop heapSort ltInt)
variable {X:Cx ah}
def S0(n:Nat)(d:Array Int)(a b:Nat)(g:d.size=n)(p:1<=b)(l:a<=n)(q:b<=n)(m:n<=4000000):Ev X 210 [kF n,dI a,dI b] [bI n d] (.eK []) [bI n (reverseRange d a b)]:=by
 refine Ev.bQ Tryz.func210 rfl λo=>?_
 refine bk rfl (by simp[ag,bx];omega) ?_
 refine AK.bP 1 (λs:Nat×Nat×Array Int=>s.2.2.size=n/\s.1<=n/\s.2.1<n+1/\s.2.1<n/\reverseLoop s.1 s.2.1 s.2.2=reverseRange d a b) (λs=>[(0,kF n),(6,dI s.1),(7,dI s.2.1)]) (λs=>[bI n s.2.2]) (λs=>s.2.1-s.1) (a,b-1,d) rfl ?_ rfl ?_ rfl ⟨g,by simp only;omega,by simp only;omega,by simp only;omega,rfl⟩ ?_
 .simp[ag.cat,ag];omega
 .simp[ag.cat,ag,aP]
 rintro⟨i,j,d1⟩ ⟨f,hi,_,k,c⟩;simp only at f hi k c
 by_cases h:i<j
 .refine aX [(13,ab)] 200 rfl ?_ (AK.aQ (i+1,j-1,swp d1 i j) rfl ?_ ?_ ?_ ?_)
  .simp only[ag,bt,bA,bx,ba,aF,aE];and_intros <;> omega
  .simp only[ag.cat,ag,aF,aE];and_intros <;> omega
  .simp only[ag.cat,ag,bt,bA,aE,aF];exact hI f (by omega) (by omega) (λ_ _=>rfl)
  .refine⟨by rw[size_swp];exact f,by simp only;omega,by simp only;omega,by simp only;omega,?_⟩
   rw[<-c,reverseLoop.eq_1 i j d1,bd h]
  .simp only;omega
 .have e:reverseRange d a b=d1:=by rw[<-c,reverseLoop,aY h]
  rw[e];refine aX [(13,ae)] 100 rfl (by simp[ag];omega) (AK.leaveD rfl rfl ?_)
  exact b6.tj [0] rfl av rfl rfl rfl g7
def Dd(n:Nat)(d:Array Int){lo hi first:Nat}(a:d.size=n)(g:first+hi<=n)(h:lo<=n)(b:n<=4000000){x y z:Int}(f:x=lo)(c:y=hi)(e:z=first) :
  Ev X 228 [kF n,dI x,dI y,dI z] [bI n d] (.eK []) [bI n (siftDown ltInt hi first lo d)]:=by
 subst f c e;exact Pp n d lo hi first a g h b
def zf(hi first:Nat):∀ (m root:Nat)(d:Array Int),hi-root<=m->(siftDown ltInt hi first root d).size=d.size:=by
 intro m
 induction m with
 |zero=>intro root d h;rw[siftDown,dif_pos (by omega)]
 |succ m a =>
  intro root d h;rw[siftDown];split
  .rfl
  split
  .split
   .rfl
   split
   .rw[a _ _ (by omega),size_swp]
   .rfl
  .split
   .rfl
   .rw[a _ _ (by omega),size_swp]
theorem Pm(n:Nat)(d:Array Int)(a b:Nat)(p:d.size=n)(r:a<=b)(q:1<=b-a)(t:b<=n)(m:n<=4000000):Ev X 207 [kF n,dI a,dI b] [bI n d] (.eK []) [bI n (heapSort ltInt d a b)]:=by
 refine Ev.bQ Tryz.func207 rfl λu=>?_
 obtain⟨l,rfl⟩:∃ l,b=a+l:=⟨b-a,by omega⟩
 rw[uO] at q;refine dY rfl (by simp only[ag,bx,aF,aE];and_intros <;> omega) ?_
 refine AK.kQ (S2:=Array Int) 0 rfl rfl (λd2=>d2.size=n/\d2=heapBuild ltInt l a ((l-1) / 2+1) d) (λ_=>[(0,kF n),(6,dI a),(7,dI 0),(8,dI l)]) (λd2=>[bI n d2]) 1 (λs:Nat×Array Int=>s.2.size=n/\s.1<=(l-1) / 2+1/\heapBuild ltInt l a s.1 s.2=heapBuild ltInt l a ((l-1) / 2+1) d) (λs=>[(0,kF n),(6,dI a),(7,dI 0),(8,dI l),(9,dI ((s.1:Int)-1))]) (λs=>[bI n s.2]) (λs=>s.1) ((l-1) / 2+1,d) rfl ?_ rfl ?_ rfl ⟨p,bg _,rfl⟩ ?_ ?_
 .simp[ag.cat,ag];omega
 .simp[ag.cat,ag,aP]
 .rintro out ⟨k,d1⟩ ⟨e,h,c⟩;simp only at e h c;cases k with
  |zero =>
   refine aX [(19,ae)] 100 rfl (by simp[ag]) (AK.leaveD rfl rfl ?_)
   exact out d1 ⟨e,c⟩ rfl (by simp[ag,ag.cat]) rfl (by simp[ag,ag.cat,aP])
  |succ k =>
   refine aX [(19,ab)] 100 rfl (by simp only[ag,ba];omega) ?_
   refine AK.cQ (Dd n d1 (lo:=k) (hi:=l) (first:=a) e t (by omega) m (by omega) rfl rfl) [0] rfl ?_
   refine dY rfl ?_ (AK.aQ (k,siftDown ltInt l a k d1) rfl ?_ ?_ ?_ ?_)
   .simp only[ag,bx];omega
   .simp only[ag.cat,ag,aF,aE];omega
   .simp[ag.cat,ag,aP]
   .exact⟨by rw[zf _ _ _ _ _ (bg _)];exact e,by simp only;omega,c⟩
   .simp
 rintro i ⟨j,g⟩;refine dY rfl (by simp only[ag,bx];omega) ?_
 have f:heapSort ltInt d a (a+l)=heapPop ltInt a l i:=by
  unfold heapSort;rw[uO,<-g]
 rw[f];refine AK.bP 1 (λs:Nat×Array Int=>s.2.size=n/\s.1<=l/\heapPop ltInt a s.1 s.2=heapPop ltInt a l i) (λs=>[(0,kF n),(6,dI a),(7,dI 0),(8,dI l),(10,dI ((s.1:Int)-1))]) (λs=>[bI n s.2]) (λs=>s.1) (l,i) rfl ?_ rfl ?_ rfl ⟨j,bg _,rfl⟩ ?_
 .simp[ag.cat,ag]
 .simp[ag.cat,ag,aP]
 rintro⟨k,d1⟩ ⟨e,h,c⟩;simp only at e h c;cases k with
 |zero =>
  rw[<-c];refine aX [(30,ae)] 100 rfl (by simp[ag]) (AK.leaveD rfl rfl ?_)
  exact b6.tj [0] rfl av rfl rfl rfl g7
 |succ k =>
  have o:((a:Int)+(((k+1:Nat):Int)-1)).toNat=a+k:=by omega
  refine aX [(30,ab),(1000011,ab)] 200 rfl ?_ ?_
  .simp only[ag,bt,bA,o,bx,ba,aF,aE];and_intros <;> omega
  refine AK.norm [bI n (swp d1 a (a+k))] rfl ?_ ?_
  .simp only[ag.cat,ag,bt,bA,o,aE,aF];exact hI e (by omega) (by omega) (λ_ _=>rfl)
  refine dY rfl av ?_;refine AK.cQ (Dd n (swp d1 a (a+k)) (lo:=0) (hi:=k) (first:=a) (by rw[size_swp];exact e) (by omega) (by omega) m rfl (by omega) rfl) [0] rfl ?_
  refine dY rfl ?_ (AK.aQ (k,siftDown ltInt k a 0 (swp d1 a (a+k))) rfl ?_ ?_ ?_ ?_)
  .simp only[ag,bx];omega
  .simp only[ag.cat,ag,aF,aE];omega
  .simp[ag.cat,ag,aP]
  .exact⟨by rw[zf _ _ _ _ _ (bg _),size_swp];exact e,by simp only;omega,c⟩
  .simp
end
def iw{p:Bs}(h:b8 p=ab):∀ b∈p,97<=b.toNat/\b.toNat<=122:=by
 intro b a;have:=bu.1 h b a;simpa[eG] using this
def wE:∀ (p:Bs) (n m:Int)(k:Nat),(∀ b∈p,97<=b.toNat/\b.toNat<=122)->0<=n->n<m->1<=m ->
  0<=p.foldl (λn b=>27*n+((b.toNat:Int)-97) % 256+1) n/\p.foldl (λn b=>27*n+((b.toNat:Int)-97) % 256+1) n<m*27 ^ p.length
 |[],n,m,_,_,a,c,_=>by simpa using⟨a,c⟩
 |b::p,n,m,k,d,a,c,f=>by
  obtain⟨g,h⟩:=d b (by simp)
  have:=wE p (27*n+((b.toNat:Int)-97) % 256+1) (m*27) k (λx e=>d x (by simp[e])) (by omega) (by omega) (by omega)
  simp only[jk,fa];rw[Int.pow_succ,Int.mul_comm (27 ^ p.length) 27,<-Int.mul_assoc];exact this
def Qc:∀ {n:Nat},n<=8->(27:Int) ^ n<=282429536481:=by
 intro n a
 match n,a with
 |0,_|1,_|2,_|3,_|4,_|5,_|6,_|7,_|8,_=>decide
def p6{p:Bs}(h:bG p=ab):0<=codeOf p/\codeOf p<282429536481:=by
 simp only[bG,bL,ba] at h;obtain⟨b,a⟩:=wE p 0 1 0 (iw h.2) (by omega) (by omega) (by omega)
 have:=Qc h.1.2;rw[Int.one_mul] at a;exact⟨b,Int.lt_of_lt_of_le a this⟩
def cop:∀ d:Fin 200,d.val≠0->Nat.gcd 999999999989 d.val=1:=by decide +kernel
def SH{a:Nat}{P c d:Int}(f:P=(a:Int))(h:P ∣ c*d)(e:0<c)(k:c<P)(i:Nat.gcd a d.natAbs=1):False:=by
 subst f;have b:a ∣ c.natAbs*d.natAbs:=by
  have:=Int.natAbs_dvd_natAbs.2 h
  rwa [Int.natAbs_mul,Int.natAbs_natCast] at this
 have g:a ∣ c.natAbs:=Nat.Coprime.dvd_of_dvd_mul_right i b;have j:=Nat.le_of_dvd (by omega) g
 omega
def O4{a b P:Int}(h:a % P=b % P):P ∣ a-b:=Int.dvd_of_emod_eq_zero (by rw[Int.sub_emod,h,Int.sub_self,Int.zero_emod])
def sF(l:Bs):Int:=l.foldr (λb n=>27*n+((b.toNat:Int)-97) % 256+1) 0
def C0:∀ p:Bs,0<=sF p
 |[]=>by simp[sF]
 |b::p=>by
  have:=C0 p;simp only[sF,List.foldr_cons] at *;omega
def y4:∀ {p q:Bs},(∀ b∈p,97<=b.toNat/\b.toNat<=122)->(∀ b∈q,97<=b.toNat/\b.toNat<=122)->sF p=sF q->p=q
 |[],[],_,_,_=>rfl
 |[],c::q,_,a,h|c::q,[],a,_,h=>by
  have:=C0 q;simp only[sF,List.foldr_cons,List.foldr_nil] at *;omega
 |b::p,c::q,f,a,h=>by
  have i:=f b (by simp)
  have j:=a c (by simp)
  have g:=y4 (p:=p) (q:=q) (λx d=>f x (by simp[d])) (λx d=>a x (by simp[d]))
  simp only[sF,List.foldr_cons] at h g;have e:b=c:=nK.1 (by omega)
  rw[e,g (by omega)]
def Fa{p q:Bs}(c:bG p=ab)(b:bG q=ab)(h:codeOf p=codeOf q):p=q:=by
 have e:∀ p,codeOf p=sF p.reverse:=λp=>by simp[codeOf,sF,List.foldr_reverse]
 simp only[bG,bL] at c b;rw[e,e] at h;exact List.reverse_inj.1 (y4 (λx a=>iw c.2 x (List.mem_reverse.1 a)) (λx a=>iw b.2 x (List.mem_reverse.1 a)) h)
def Is{k:Int}(i:ck k=ab){p q:Bs}(e:bG p=ab)(f:bG q=ab)(h:hO k p=hO k q):p=q:=by
 refine Fa e f ?_;simp only[ck,bL,ba] at i;obtain⟨c,c1⟩:=p6 e;obtain⟨d,d1⟩:=p6 f;have key:∀ x y:Int,0<=x->0<=y->x<282429536481->x>y->(x*(2*k+1)+k*7919) % 999999999989=(y*(2*k+1)+k*7919) % 999999999989->False:=by
  intro x y n m j g h;have b:=O4 h;rw[show (x*(2*k+1)+k*7919)-(y*(2*k+1)+k*7919)=(x-y)*(2*k+1) by grind] at b
  have l:(2*k+1).natAbs<200:=by omega
  exact SH (a:=999999999989) rfl b (by omega) (by omega) (cop ⟨_,l⟩ (by show (2*k+1).natAbs≠0;omega))
 rcases Int.lt_trichotomy (codeOf p) (codeOf q) with b|b|b
 .exact(key _ _ d c d1 b h.symm).elim
 .exact b
 .exact(key _ _ c d c1 b h).elim
section
open Go.Proofs
variable {X:Cx ah}
def KG(k:Int):Ev X 41 [dI k] [] (dB (ck k)) []:=by
 refine Ev.bQ Tryz.func41 rfl λc=>?_
 by_cases a:1<=k
 .by_cases b:k<=99
  .refine aX [(4,ab),(7,ab)] 100 rfl ?_ (AK.bn rfl ?_)
   .simp[ag,a,b]
   .simp[ag,ck,a,b]
  .refine aX [(4,ab),(7,ae)] 100 rfl ?_ (AK.bn rfl ?_)
   .simp[ag,a];omega
   .simp[ag,ck,a,b]
 .refine aX [(4,ae)] 100 rfl ?_ (AK.bn rfl ?_)
  .simp[ag];omega
  .simp[ag,ck,a]
def t41:dM X 41 (jZ aI (λk=>dB (ck k)) λ_=>[]):=.ox λk _=>KG k
def Am{s:Bs}{i:Nat}(h:i<s.length):b8 (s.take (i+1))=(b8 (s.take i)&&eG (s.getD i 0)):=by
 unfold b8
 grind [List.take_add_one]
def pj{b:UInt8}:eG b=ab↔97<=(b.toNat:Int)/\(b.toNat:Int)<=122:=by simp[eG];omega
def wC{s:Bs}{i:Nat}(h:i<s.length)(b:eG (s.getD i 0)=ae):b8 s=ae:=by
 cases a:b8 s with
 |false=>rfl
 |true =>
  have:=bu.1 a (s.getD i 0) (by grind)
  grind
def Ce(s:Bs):Ev X 146 [dS s] [] (dB (b8 s)) []:=by
 refine Ev.bQ Tryz.func146 rfl λg=>?_
 have f:=g.str 0 rfl;refine bk rfl av ?_;refine AK.wi (λi=>i<=s.length/\b8 (s.take i)=ab) (λi:Nat=>[(0,dS s),(5,dI s.length),(6,dI i)]) (λ_=>[]) (λi=>s.length-i) 0 rfl (by simp[ag.cat,ag]) ⟨by omega,by simp[b8]⟩ rfl ?_
 rintro i ⟨hi,a⟩
 by_cases h:i<s.length
 .by_cases b:cB s i<97
  .refine aX [(7,ab),(12,ab)] 100 rfl ?_ (AK.gK (b6.zero rfl ?_))
   .simp[-ai,ag,h,cA,b]
   .have:eG (s.getD i 0)=ae:=by
     cases d:eG (s.getD i 0) with
     |false=>rfl
     |true=>have:=pj.1 d;unfold cB at b;omega
    simp[ag.cat,ag,wC h this]
  .by_cases c:cB s i<=122
   .refine aX [(7,ab),(12,ae),(17,ae)] 100 rfl ?_ (AK.again (i+1) rfl ?_ ?_ ?_ rfl)
    .simp[-ai,ag,h,cA,b,c,bx]
     grind
    .simp[ag.cat,ag]
    .refine⟨by omega,?_⟩
     rw[Am h,a,dN];exact pj.2 (by unfold cB at b c;omega)
    .omega
   .refine aX [(7,ab),(12,ae),(17,ab)] 100 rfl ?_ (AK.gK (b6.zero rfl ?_))
    .simp[-ai,ag,h,cA,b]
     grind
    .have:eG (s.getD i 0)=ae:=by
      cases d:eG (s.getD i 0) with
      |false=>rfl
      |true=>have:=pj.1 d;unfold cB at c;omega
     simp[ag.cat,ag,wC h this]
 .have e:i=s.length:=by omega
  subst e;refine aX [(7,ae)] 100 rfl (by simp[ag]) (AK.leave rfl rfl ?_)
  refine bk rfl av (AK.bn rfl ?_);rw[b7] at a;simp[ag.cat,ag,a]
def UG:dM X 146 (jZ aS (λs=>dB (b8 s)) λ_=>[]):=.ox λk _=>Ce k
abbrev tb1:List (Nat×dk):=[(41,jZ aI (λk=>dB (ck k)) λ_=>[]),(146,jZ aS (λs=>dB (b8 s)) λ_=>[])]
def X2:bD X tb1:=.cons t41 (.cons UG .nil)
def Cf(p:Bs):Ev X 218 [dS p] [] (dB (bG p)) []:=by
 refine Ev.bQ Tryz.func218 rfl λc=>?_
 by_cases a:1<=p.length
 .by_cases b:p.length<=8
  .refine aC X2 [(5,ab),(9,ab),(11,ab)] 100 rfl ?_ (AK.bn rfl ?_)
   .simp[ag];omega
   .simp[ag,bG,a,b]
  .refine aC X2 [(5,ab),(9,ae),(11,ae)] 100 rfl ?_ (AK.bn rfl ?_)
   .simp[ag];omega
   .simp[ag,bG,a,b]
 .refine aC X2 [(5,ae),(11,ae)] 100 rfl ?_ (AK.bn rfl ?_)
  .simp[ag];omega
  .simp[ag,bG,a]
def t218:dM X 218 (jZ aS (λs=>dB (bG s)) λ_=>[]):=.ox λk _=>Cf k
def Cg(n:Nat)(h:n<=4000000):Ev X 239 [dI n] [] (dI (cE n)) []:=by
 refine Ev.bQ Tryz.func239 rfl λd=>?_
 by_cases b:n<1
 .refine aX [(5,ab),(9,ab)] 100 rfl ?_ (AK.bn rfl ?_)
  .simp[ag];omega
  .simp[ag,cE,b]
 .by_cases c:8<n
  .refine aX [(5,ae),(8,ab)] 100 rfl ?_ (AK.bn rfl ?_)
   .simp[ag];omega
   .simp[ag,cE,c]
  .refine aX [(5,ae),(8,ae)] 100 rfl ?_ ?_
   .simp[ag];omega
   have e:cE n=2∨cE n=4∨cE n=8:=by unfold cE;grind
   refine AK.wi (λi:Nat=>(i=2∨i=4∨i=8)/\i<=cE n) (λi:Nat=>[(0,dI n),(3,dI i)]) (λ_=>[]) (λi=>8-i) 2 rfl (by simp[ag.cat,ag]) ⟨by simp,by omega⟩ rfl ?_
   rintro i ⟨hi,a⟩
   by_cases h:i<n
   .refine aX [(12,ab)] 100 rfl ?_ (AK.again (2*i) rfl ?_ ?_ ?_ rfl)
    .simp[ag,bx];omega
    .simp[ag.cat,ag];omega
    .unfold cE at a ⊢
     grind
    .omega
   .refine aX [(12,ae)] 100 rfl (by simp[ag];omega) (AK.leave rfl rfl ?_)
    refine bk rfl av (AK.bn rfl ?_);have:i=cE n:=by
     unfold cE at a ⊢
     grind
    simp[ag.cat,ag,this]
theorem En(s:Bs)(b:UInt8):strip (s++[b])=if b=46 then strip s else s++[b]:=by
 unfold strip
 grind [List.dropWhile_cons]
def wD{s:Bs}{n:Nat}(h:n<s.length):strip (s.take (n+1))=if s.getD n 0=46 then strip (s.take n) else s.take (n+1):=by
 grind [List.take_add_one,En]
theorem Ch(s:Bs):Ev X 234 [dS s,dU 46] [] (dS (strip s)) []:=by
 refine Ev.bQ Tryz.func234 rfl λi=>?_
 have g:=i.str 0 rfl;refine bk rfl av ?_;refine AK.wi (λn=>n<=s.length/\strip (s.take n)=strip s) (λn:Nat=>[(0,dS (s.take n)),(1,dU 46)]) (λ_=>[]) (λn=>n) s.length rfl (by simp[ag.cat,ag]) ⟨by omega,by simp⟩ rfl ?_
 rintro n ⟨k,a⟩;cases n with
 |zero =>
  refine aX [(7,ae),(16,ae)] 100 rfl ?_ (AK.leave rfl rfl ?_)
  .simp[ag]
  refine bk rfl av (AK.bn rfl ?_);have:strip s=[]:=by rw[<-a];rfl
  simp[ag.cat,ag,this]
 |succ n =>
  have h:(s.take (n+1)).length=n+1:=by grind
  have f:cB (s.take (n+1)) n=cB s n:=by simp[cB,ai,gQ]
  have j:=wD (s:=s) (n:=n) (by omega)
  have b:((n:Int)+1-1).toNat=n:=by omega
  by_cases c:s.getD n 0=46
  .refine aX [(7,ab),(15,ab),(16,ab)] 100 rfl ?_ (AK.again n rfl ?_ ?_ ?_ rfl)
   .have d:cB s n=46:=by unfold cB;rw[c];rfl
    simp[-ai,-List.length_take,ag,h,cA,b,f,d,bx];omega
   .simp[ag.cat,ag];show (s.take (n+1)).take _=_
    grind
   .grind
   .omega
  .refine aX [(7,ab),(15,ae),(16,ae)] 100 rfl ?_ (AK.leave rfl rfl ?_)
   .have d:cB s n≠46:=by
     unfold cB;intro e;exact c (nK.1 (by grind))
    simp[-ai,-List.length_take,ag,h,cA,b,f,d,bx];omega
   refine bk rfl av (AK.bn rfl ?_);rw[j,aY c] at a;simp[ag.cat,ag,a]
def UH:dk:=λargs σ=>match args,σ with
 |[.e (.one (.c (.str s))),.e (.one (.c (.int .u8 46)))],[]=>aa (dS (strip s),[],[])
 |_,_=>af
def t234:dM X 234 UH:=by
 intro args σ res σ' obs h _;unfold UH at h
 grind [Ch]
theorem Oh(s:Bs):Ev X 217 [dS s,dS [46]] [] (dS (strip s)) []:=by
 refine Ev.bQ Tryz.func217 rfl λb=>?_
 by_cases h:s=[]
 .subst h;refine aC (bD.cons t234 .nil) [(8,ab),(12,ab)] 100 rfl ?_ (AK.bn rfl ?_)
  .simp[ag]
  .simp[ag,strip]
 .refine aC (bD.cons t234 .nil) [(8,ae),(11,ae),(12,ae),(16,ab),(20,ab),(21,ab)] 100 rfl ?_ (AK.bn rfl ?_)
  .cases s with
   |nil=>grind
   |cons a r=>simp[ag];decide
  .simp[ag]
def RI:dk:=λargs σ=>match args,σ with
 |[.e (.one (.c (.str s))),.e (.one (.c (.str [46])))],[]=>aa (dS (strip s),[],[])
 |_,_=>af
def t217:dM X 217 RI:=by
 intro args σ res σ' obs h _;unfold RI at h
 grind [Oh]
end
end Go.AM.R1
