/- Part 2. No condition. -/
import Derived.Test.YthilmklinlalbaaGreatDoorA1
import Derived.MapKept
import Derived.Maps.RangeRun
import Derived.Laws.MakeOwn
import Derived.Lib.SliceRun
import Derived.Test.YthilmklinlalbaaGreatDoorProg
import Derived.Lib.FrozenHead
import Derived.Lib.UnsafeStr
import Derived.Lib.MakeNoZero
import Derived.Laws.Externs
import Derived.Lib.Builder
set_option linter.all false
set_option maxHeartbeats 8000000
open Go.Proofs
open Go.Conc (G)
open Go renaming Value → ah, Program → ar, TypeId → aj, Oper → au, Operand → aq, undef → ai, execOp → aw, World → aA, Goroutine → av, stepG → aH, Frame → aU, FuncId → aJ
open Option renaming some → aa, none → af
open Bool renaming true → ab, false → ae
open Go.World renaming cell? → aV
open List renaming getD_eq_getElem?_getD → ak, range → bh, all_eq_true → bC
open Go.Sem renaming events_bind → aM
open Go.Result renaming evThen_ok → aP
open Go.Region renaming wanted → bg, ready → ba
open Go.Instr renaming sureAddr → bq
open Nat renaming beq → aB, ble → bA
open Go.Op renaming equalIn → aZ
open Go.Proofs.Tryz renaming prog → ag
open Go.TypeDesc renaming struct → bu
namespace Go.AM
section force
variable {p:Type}
def wT:C->(C->Option p)->Option p
 |.int k n,q=>q (.int k n)
 |.bool b,q=>q (.bool b)
 |.str s,q=>q (.str s)
 |.sl ab k n es,q=>q (.sl ab k n es)
 |.sl ae k n es,q=>q (.sl ae k n es)
 |.rp cs,q=>dD cs λcs=>q (.rp cs)
 |.Gw t cs,q=>dD cs λcs=>q (.Gw t cs)
 |.fn f a b,q=>dD a λa=>dD b λb=>q (.fn f a b)
 |c,q=>q c
def HS(c:C)(q:C->Option p):wT c q=q c:=by
 cases c with
 |sl t=>cases t<;>rfl
 |rp cs=>simp[wT,dh]
 |Gw t cs=>simp[wT,dh]
 |fn f a b=>simp[wT,dh]
 |_=>rfl
def wU:A->(A->Option p)->Option p
 |.c x,q=>wT x λx=>q (.c x)
 |.ptr l o,q=>q (.ptr l o)
 |.vec l k n es,q=>q (.vec l k n es)
 |.ref l,q=>q (.ref l)
 |.bp l (.sl g k o n),q=>q (.bp l (.sl g k o n))
 |.bp l (.el g k i f),q=>q (.bp l (.el g k i f))
 |.any,q=>q .any
def yY(a:A)(q:A->Option p):wU a q=q a:=by
 cases a with
 |bp l w=>cases w<;>simp[wU]
 |_=>simp[wU,HS]
def vQ:List A->(List A->Option p)->Option p
 |[],q=>q []
 |a::r,q=>wU a λa=>vQ r λr=>q (a::r)
def Ex(l:List A)(q:List A->Option p):vQ l q=q l:=by
 induction l generalizing q with
 |nil=>rfl
 |cons a r b=>simp[vQ,yY,b]
def Au:E1->(E1->Option p)->Option p
 |.one a,q=>wU a λa=>q (.one a)
 |.agg cs,q=>vQ cs λcs=>q (.agg cs)
def yZ(a:E1)(q:E1->Option p):Au a q=q a:=by cases a<;>simp[Au,yY,Ex]
def vR:List E1->(List E1->Option p)->Option p
 |[],q=>q []
 |a::r,q=>Au a λa=>vR r λr=>q (a::r)
def Ey(l:List E1)(q:List E1->Option p):vR l q=q l:=by
 induction l generalizing q with
 |nil=>rfl
 |cons a r b=>simp[vR,yZ,b]
def oG:D->(D->Option p)->Option p
 |.e x,q=>Au x λx=>q (.e x)
 |.fa xs,q=>vR xs λxs=>q (.fa xs)
 |.any,q=>q .any
theorem nQ(a:D)(q:D->Option p):oG a q=q a:=by cases a<;>simp[oG,yZ,Ey]
end force
def yC:D->Option (Bool×Nat×Nat×(Nat->List C))
 |.e (.one (.c (.sl t k n es)))=>aa (t,k,n,es)
 |.e (.one (.vec _ k n es))=>aa (ae,k,n,es)
 |_=>af
theorem mU{d:D}{t:Bool}{k n:Nat}{es:Nat->List C}(h:yC d=aa (t,k,n,es))(σ:List aR)(s:St)(v:ah)(r:dt σ s v d):Rd s.M v (.sl t k n es):=by
 unfold yC at h;split at h
 .cases h;exact r
 .cases h;exact r.1
 grind
def jb(l:List UInt8)(j:Int):UInt8:=l.getD j.toNat 0
def R2(T:List (Nat×TI))(t:aj)(d:D):Option D :=
 match bG T t with
 |none=>af
 |some i=>match i.desc with
  |.slice _=>match yC d with
   |some (_,_,n,_)=>aa (.e (.one (.c (.int .i64 n))))
   |none=>af
  |.string=>match d with
   |.e (.one (.c (.str s)))=>aa (.e (.one (.c (.int .i64 s.length))))
   |_=>af
  |_=>af
def J5(T:List (Nat×TI))(b a:aj)(d:D):Option (D×List Prop) :=
 match bG T b with
 |none=>af
 |some i1=>match bG T a with
  |none=>af
  |some i2=>match i2.desc with
   |.int k'=>match d with
    |.e (.one (.c (.int _ j)))=>aa (.e (.one (.c (.int k' j))),[bD k' j])
    |_=>af
   |.string=>match d with
    |.e (.one (.c (.str s)))=>aa (.e (.one (.c (.str s))),[])
    |d=>match i1.desc with
     |.slice E=>match bG T E with
      |some ie=>match ie.desc with
       |.int .u8=>match yC d with
        |some (_,k,n,es)=>match aB k 1 with
         |true=>match wV es 0 n with
          |some r=>aa (.e (.one (.c (.str r))),[])
          |none=>af
         |false=>af
        |none=>af
       |_=>af
      |none=>af
     |_=>af
   |_=>af
def Ez(T:List (Nat×TI))(a:aq->D)(t:aj)(x:aq)(lo hi:Option aq):Option (D×List Prop) :=
 match bG T t with
 |none=>af
 |some i=>match rI a lo with
  |none=>af
  |some l=>match rI a hi with
   |none=>af
   |some u=>match i.desc with
    |.string=>match a x with
     |.e (.one (.c (.str s)))=>aa (.e (.one (.c (.str (sR s l u)))),fY s.length l u)
     |_=>af
    |.slice E=>match bG T E with
     |none=>af
     |some ie=>match yC (a x)with
      |some (tt,k,n,es)=>match aB k ie.size with
       |true=>aa (.e (.one (.c (.sl (R3 tt u) ie.size (dj n u-dj 0 l) (mf (dj 0 l) es)))),fY n l u)
       |false=>af
      |none=>af
    |_=>af
def y0(op:BinOp)(k:IntKind)(a:Int)(k':IntKind)(b:Int):Option (D×List Prop) :=
 match B5 op k a k' b with
 |some (c,obs)=>aa (.e (.one (.c (.int k c))),obs)
 |none=>af
theorem sS{op:BinOp}{k k':IntKind}{a b:Int}{d:D}{obs:List Prop}(h:y0 op k a k' b=aa (d,obs)):∃c,d=.e (.one (.c (.int k c)))/\B5 op k a k' b=aa (c,obs):=by unfold y0 at h;grind
def QD(T:List (Nat×TI))(op:BinOp)(t:aj)(x y:D):Option (D×List Prop) :=
 match x,y with
 |.e (.one (.c (.bool a))),.e (.one (.c (.bool b)))=>match bG T t with
  |some i=>match i.desc with
   |.bool=>match jm op (a==b)with
    |some c=>aa (.e (.one (.c (.bool c))),[])
    |none=>af
   |_=>af
  |none=>af
 |.e (.one (.c a)),.e (.one (.c b))=>match op with
  |.xor=>match a,b with
   |.int .i64 a,.int .i64 b=>aa (.e (.one (.c (.int .i64 ((a.toNat ^^^ b.toNat:Nat):Int)))),[0<=a,0<=b])
   |.int .u64 a,.int k' b=>y0 .xor .u64 a k' b
   |_,_=>af
  |.shl=>match a,b with
   |.int k a,.int k' b=>y0 .shl k a k' b
   |_,_=>af
  |.shr=>match a,b with
   |.int k a,.int k' b=>y0 .shr k a k' b
   |_,_=>af
  |.and=>match a,b with
   |.int k a,.int k' b=>y0 .and k a k' b
   |_,_=>af
  |_=>match Od op a b with
   |some (c,obs)=>aa (.e (.one (.c c)),obs)
   |none=>af
 |.e (.agg cs),.e (.agg es)=>match bG T t with
  |some i=>match i.eq with
   |[]=>af
   |d::ds=>match QE (d::ds) cs es with
    |some b=>match jm op b with
     |some c=>aa (.e (.one (.c (.bool c))),[])
     |none=>af
    |none=>af
  |none=>af
 |_,_=>af
def XH(T:List (Nat×TI))(CT:List (Nat×dv))(φ:Fr)(o:au):Option (D×List Prop) :=
 match o.op with
 |.move x|.assign x=>aa (bU φ x,[])
 |.index t x y=>match bG T t with
  |some i=>match i.desc with
   |.string=>match bU φ x,bU φ y with
    |.e (.one (.c (.str l))),.e (.one (.c (.int _ j)))=>aa (.e (.one (.c (.int .u8 (jb l j).toNat))),[0<=j,j<l.length])
    |_,_=>af
   |_=>af
  |none=>af
 |.indexAddr t x y=>match bG T t with
  |some i=>match i.desc with
   |.slice E=>match bG T E with
    |some ie=>match yC (bU φ x),bU φ y with
     |some (_,k,n,es),.e (.one (.c (.int _ j)))=>match aB k ie.size with
      |true=>aa (.e (.one (.c (.rp (es j.toNat)))),[0<=j,j<n])
      |false=>af
     |_,_=>af
    |none=>af
   |_=>af
  |none=>af
 |.slice t x lo hi af=>Ez T (bU φ) t x lo hi
 |.convert src dst x=>J5 T src dst (bU φ x)
 |.call c=>match c.callee with
  |.builtin .len=>match c.args.toList,c.argTypes[0]? with
   |[x],aa t=>match R2 T t (bU φ x)with
    |some d=>aa (d,[])
    |none=>af
   |_,_=>af
  |.value fo=>Cl CT φ fo c.args.toList
  |_=>af
 |.pick c a b=>match bU φ c with
  |.e (.one (.c (.bool ab)))=>aa (bU φ a,[])
  |.e (.one (.c (.bool ae)))=>aa (bU φ b,[])
  |_=>af
 |.binOp op t x y _=>QD T op t (bU φ x) (bU φ y)
 |.unOp op _ x=>match bU φ x with
  |.e (.one (.c a))=>match XJ op a with
   |some c=>aa (.e (.one (.c c)),[])
   |none=>af
  |_=>af
 |.extract x j=>match bU φ x with
  |.fa xs=>match dC j xs with
   |some e=>aa (.e e,[])
   |none=>af
  |_=>af
 |.fieldAddr t x f=>match j5 T t f with
  |some (k,_)=>match bU φ x with
   |.e (.one (.ptr l off))=>aa (.e (.one (.ptr l (off+k))),[])
   |.e (.one (.c (.rp cs)))=>aa (.e (.one (.c (.rp (fV k cs)))),[])
   |_=>af
  |none=>af
 |.field t x f=>match j5 T t f with
  |some (k,j)=>match bU φ x with
   |.e (.agg cs)=>match lb j (fV k cs)with
    |some e=>aa (.e e,[])
    |none=>af
   |_=>af
  |none=>af
 |.nilCheck x=>match bU φ x with
  |.e (.one (.ptr l off))=>aa (.e (.one (.ptr l off)),[])
  |.e (.one (.c (.rp cs)))=>aa (.e (.one (.c (.rp cs))),[])
  |_=>af
 |.build t parts=>match Av T (bU φ) t parts.toList with
  |some cs=>aa (.e (.agg cs),[])
  |none=>af
 |.buildSlice t n parts=>match Oe T (bU φ) t n parts.toList with
  |some (k,es)=>aa (.e (.one (.c (.sl ab k n λi=>es.getD i []))),[])
  |none=>af
 |.makeFunc fn a b=>match wW (bU φ) a.toList with
  |some ca=>match wW (bU φ) b.toList with
   |some cb=>aa (.e (.one (.c (.fn fn ca cb))),[])
   |none=>af
  |none=>af
 |.makeInterface t x=>match bG T t with
  |some i=>match pF i.desc with
   |false=>match vS t (bU φ x)with
    |some c=>aa (.e (.one (.c c)),[])
    |none=>af
   |true=>af
  |none=>af
 |.typeAssert x _ t ab=>match bG T t with
  |some i=>match pF i.desc with
   |false=>match bU φ x with
    |.e (.one (.c c))=>match qD t i c with
     |some (e,b)=>aa (.fa [e,.one (.c (.bool b))],[])
     |none=>af
    |_=>af
   |true=>af
  |none=>af
 |_=>af
def JY(T:List (Nat×TI))(φ:Fr)(σ:List aR)(t:aj)(x:aq):Option D :=
 match bG T t with
 |some i=>match bU φ x with
  |.e (.one (.ptr l off))=>match dC l σ with
   |some (.cells _ cs)=>match lb i (fV off cs)with
    |some e=>aa (.e e)
    |none=>af
   |_=>af
  |.e (.one (.c (.rp cs)))=>match lb i (cs.map A.c)with
   |some e=>aa (.e e)
   |none=>af
  |_=>af
 |none=>af
def YB(T:List (Nat×TI))(φ:Fr)(o:au):Option (D×List Prop) :=
 match o.op with
 |.indexAddr t x y=>match bG T t with
  |some i=>match i.desc with
   |.slice E=>match bG T E with
    |some ie=>match bU φ x,bU φ y with
     |.e (.one (.bp l (.sl g k q m))),.e (.one (.c (.int _ j)))=>match aB k ie.size with
      |true=>aa (.e (.one (.bp l (.el g ie.size (q+j.toNat) 0))),[0<=j,j<m])
      |false=>af
     |.e (.one (.c (.val (.slice (aa ⟨b,off,af⟩) n _)))),.e (.one (.c (.int _ j)))=>aa (.e (.one (.c (.val (.pointer (aa ⟨b,off+j.toNat*ie.size,af⟩))))),[0<=j,j<n])
     |_,_=>af
    |none=>af
   |_=>af
  |none=>af
 |.fieldAddr t x f=>match j5 T t f with
  |some (k,_)=>match bU φ x with
   |.e (.one (.bp l (.el g a i q)))=>aa (.e (.one (.bp l (.el g a i (q+k)))),[])
   |.e (.one (.c (.val (.pointer (aa ⟨b,off,af⟩)))))=>aa (.e (.one (.c (.val (.pointer (aa ⟨b,off+k,af⟩))))),[])
   |_=>af
  |none=>af
 |.nilCheck x=>match bU φ x with
  |.e (.one (.bp l (.el g a i q)))=>aa (.e (.one (.bp l (.el g a i q))),[])
  |_=>af
 |.slice t x lo hi af=>match bG T t with
  |none=>af
  |some i=>match rI (bU φ) lo with
   |none=>af
   |some lw=>match rI (bU φ) hi with
    |none=>af
    |some u=>match i.desc with
     |.slice E=>match bG T E with
      |none=>af
      |some ie=>match bU φ x with
       |.e (.one (.bp l (.sl g k q m)))=>match aB k ie.size with
        |true=>aa (.e (.one (.bp l (.sl g ie.size (q+dj 0 lw) (dj m u-dj 0 lw)))),fY m lw u)
        |false=>af
       |_=>af
     |_=>af
 |.slice t x af (aa y) (aa z)=>match bG T t with
  |none=>af
  |some i=>match i.desc with
   |.slice E=>match bG T E with
    |none=>af
    |some _=>match yC (bU φ x),bU φ y,bU φ z with
     |some (_,k,n,es),.e (.one (.c (.int _ j))),.e (.one (.c (.int _ m)))=>aa (.e (.one (.c (.sl ae k j.toNat es))),[0<=j,j<=m,m<=n])
     |_,_,_=>af
   |_=>af
 |.slice t x (aa w) (aa y) (aa z)=>match bG T t with
  |none=>af
  |some i=>match i.desc with
   |.slice E=>match bG T E with
    |none=>af
    |some _=>match bU φ x,bU φ w,bU φ y,bU φ z with
     |.e (.one (.bp _ (.sl _ _ _ n))),.e (.one (.c (.int _ i))),.e (.one (.c (.int _ j))),.e (.one (.c (.int _ m)))=>aa (.e (.one .any),[0<=i,i<=j,j<=m,m<=n])
     |_,_,_,_=>af
   |_=>af
 |.call c=>match c.callee with
  |.builtin .len=>match c.args.toList,c.argTypes[0]? with
   |[x],aa t=>match bG T t with
    |some i=>match i.desc with
     |.slice _=>match bU φ x with
      |.e (.one (.bp _ (.sl _ _ _ m)))=>aa (.e (.one (.c (.int .i64 m))),[])
      |.e (.one (.c (.val (.slice _ n _))))=>aa (.e (.one (.c (.int .i64 n))),[n<=9223372036854775807])
      |_=>af
     |_=>af
    |none=>af
   |_,_=>af
  |_=>af
 |_=>af
def Aq(T:List (Nat×TI))(φ:Fr)(σ:List aR)(t:aj)(x:aq):Option (D×List Prop) :=
 match bG T t with
 |some it=>match bU φ x with
  |.e (.one (.bp l (.el g k i f)))=>match dC l σ with
   |some (.buf _ k' n es)=>match aB k' k with
    |true=>match lb it ((fV f (es i)).map A.c)with
     |some e=>aa (.e e,[g=n,i<n])
     |none=>af
    |false=>af
   |_=>af
  |_=>af
 |none=>af
def J6:Nat->List C->Nat->Bool
 |0,cc,k=>aB cc.length k
 |_+1,_,_=>ae
def Aw(T:List (Nat×TI))(φ:Fr)(σ:List aR)(t:aj)(x y:aq):Option (D×List aR×List Prop) :=
 match bG T t with
 |some it=>match bU φ x with
  |.e (.one (.bp l (.el g k i f)))=>match dC l σ with
   |some (.buf E k' n es)=>match aB k' k with
    |true=>match kI (bU φ y)with
     |some new=>match aB new.length it.size with
      |true=>match gM new with
       |some cc=>match J6 f cc k with
        |true=>dD (dW.qU l (.buf E k' n (pG i cc es)) σ) λσ'=>aa (.any,σ',[g=n,i<n])
        |false=>match fH f cc (es i)with
         |some ci=>dD (dW.qU l (.buf E k' n (pG i ci es)) σ) λσ'=>aa (.any,σ',[g=n,i<n])
         |none=>af
       |none=>af
      |false=>af
     |none=>af
    |false=>af
   |_=>af
  |_=>af
 |none=>af
def Oa(T:List (Nat×TI))(CT:List (Nat×dv))(φ:Fr)(σ:List aR)(o:au):Option (D×List Prop) :=
 match o.op with
 |.load t x=>match JY T φ σ t x with
  |some d=>aa (d,[])
  |none=>Aq T φ σ t x
 |_=>match XH T CT φ o with
  |some r=>aa r
  |none=>YB T φ o
def R4(T:List (Nat×TI))(a:aq->D)(σ:List aR)(x y:aq)(t b:aj):Option (D×List aR×List Prop) :=
 match bG T t with
 |none=>af
 |some i=>match bG T b with
  |none=>af
  |some i2=>match i.desc with
   |.slice E=>match i2.desc with
    |.slice E2=>match aB E2 E with
     |false=>af
     |true=>match bG T E with
      |none=>af
      |some ie=>match bA 1 ie.bytes,bA 1 ie.size with
       |true,ab=>match yC (a y)with
        |none=>af
        |some (_,k',m,es')=>match aB k' ie.size with
         |false=>af
         |true=>match a x with
          |.e (.one (.c (.sl ab k n es)))=>match aB k ie.size with
           |true=>dD (σ++[.vec E ie.size (n+m) (cK n es es')]) λσ'=>aa (.e (.one (.vec σ.length ie.size (n+m) (cK n es es'))),σ',[(n+m)*ie.bytes<=140737488355328,n=0∨0<m])
           |false=>match aB n 0 with
            |true=>dD (σ++[.vec E ie.size (n+m) (cK n es es')]) λσ'=>aa (.e (.one (.vec σ.length ie.size (n+m) (cK n es es'))),σ',[(n+m)*ie.bytes<=140737488355328,n=0∨0<m])
            |false=>af
          |.e (.one (.vec l k n es))=>match dC l σ with
           |some (.vec E' k2 n2 Aa)=>match aB E' E,aB k ie.size,aB k2 ie.size with
            |true,ab,ab=>dD (dW.qU l (.vec E ie.size (n+m) (cK n es es')) σ) λσ'=>aa (.e (.one (.vec l ie.size (n+m) (cK n es es'))),σ',[n2=n,Aa=es,(n+m)*ie.bytes<=140737488355328])
            |_,_,_=>af
           |_=>af
          |.e (.one (.bp l (.sl g k 0 n)))=>match dC l σ with
           |some (.buf E' k2 n2 Aa)=>match aB E' E,aB k ie.size,aB k2 ie.size with
            |true,ab,ab=>dD (dW.qU l (.buf E ie.size (n2+m) (cK n2 Aa es')) σ) λσ'=>aa (.e (.one (.bp l (.sl (n2+m) ie.size 0 (n2+m)))),σ',[g=n2,n=n2,(n2+m)*ie.bytes<=140737488355328])
            |_,_,_=>af
           |_=>af
          |_=>af
       |_,_=>af
    |_=>af
   |_=>af
def YC(T:List (Nat×TI))(CT:List (Nat×dv))(φ:Fr)(σ:List aR)(o:au):Option (D×List aR×List Prop) :=
 match o.op with
 |.alloc _|.box _ _=>XK T φ σ o
 |.store t x y=>match XK T φ σ o with
  |some r=>aa r
  |none=>Aw T φ σ t x y
 |.call c=>match c.callee with
  |.builtin .append=>match c.args.toList,c.argTypes.toList with
   |[x,y],[t,a]=>R4 T (bU φ) σ x y t a
   |_,_=>af
  |.value fo=>J7 CT φ σ fo c.args.toList
  |_=>af
 |_=>af
def R5(T:List (Nat×TI))(a:aq->D)(x y:aq)(t b:aj):Option (D×List Prop) :=
 match bG T t with
 |none=>af
 |some i=>match bG T b with
  |none=>af
  |some i2=>match i.desc with
   |.slice E=>match i2.desc with
    |.slice E2=>match aB E2 E with
     |false=>af
     |true=>match bG T E with
      |none=>af
      |some ie=>match bA 1 ie.bytes,bA 1 ie.size with
       |true,ab=>match yC (a y)with
        |none=>af
        |some (_,k',m,es')=>match aB k' ie.size with
         |false=>af
         |true=>match a x with
          |.e (.one (.c (.sl ab k n es)))=>match aB n 0 with
           |true=>aa (.e (.one (.c (.sl ae ie.size (n+m) (cK n es es')))),[(n+m)*ie.bytes<=140737488355328,n=0∨0<m])
           |false=>af
          |_=>af
       |_,_=>af
    |_=>af
   |_=>af
def YD(T:List (Nat×TI))(φ:Fr)(o:au):Option (D×List Prop) :=
 match o.op with
 |.call c=>match c.callee with
  |.builtin .append=>match c.args.toList,c.argTypes.toList with
   |[x,y],[t,a]=>R5 T (bU φ) x y t a
   |_,_=>af
  |_=>af
 |_=>af
def Cm:List (Nat×Bool)->Nat->Option Bool
 |[],_=>af
 |(i,b)::r,t=>match aB i t with|true=>aa b|false=>Cm r t
def Yq(ds:List (Nat×Bool)):Option Nat->Bool
 |none=>ae
 |some t=>match Cm ds (2000000+t)with
  |some ab=>ab
  |_=>ae
def isW(ds:List (Nat×Bool)):Option Nat->Bool
 |none=>ae
 |some t=>match Cm ds (3000000+t)with
  |some ab=>ab
  |_=>ae
def appW(w:Bool)(T:List (Nat×TI))(a:aq->D)(σ:List aR)(x y:aq)(t b:aj):Option (D×List aR×List Prop) :=
 match bG T t with
 |none=>af
 |some i=>match bG T b with
  |none=>af
  |some i2=>match i.desc with
   |.slice E=>match i2.desc with
    |.slice E2=>match aB E2 E with
     |false=>af
     |true=>match bG T E with
      |none=>af
      |some ie=>match bA 1 ie.bytes,bA 1 ie.size with
       |true,ab=>match w with
        |true=>match yC (a y)with
         |none=>af
         |some (_,k',m,es')=>match aB k' ie.size with
          |false=>af
          |true=>match a x with
           |.e (.one (.c (.sl ab k n es)))=>match aB n 0 with
            |true=>dD (σ++[.buf E ie.size (0+m) (cK 0 es es')]) λσ'=>aa (.e (.one (.bp σ.length (.sl (0+m) ie.size 0 (0+m)))),σ',[(0+m)*ie.bytes<=140737488355328])
            |false=>af
           |_=>af
        |false=>match a x,a y with
         |.e (.one (.bp l (.sl g k 0 i))),.e (.one (.bp l' (.sl g' k' j m)))=>match aB l' l with
          |false=>af
          |true=>match dC l σ with
           |some (.buf E' k2 n es)=>match aB E' E,aB k ie.size,aB k' ie.size,aB k2 ie.size with
            |true,ab,ab,ab=>dD (dW.qU l (.buf E ie.size n (HK i j m es)) σ) λσ'=>aa (.e (.one (.bp l (.sl n ie.size 0 (i+m)))),σ',[g=n,g'=n,i+m<=n,j+m<=n])
            |_,_,_,_=>af
           |_=>af
         |_,_=>af
       |_,_=>af
    |_=>af
   |_=>af
def XL(w:Bool)(T:List (Nat×TI))(φ:Fr)(σ:List aR)(o:au):Option (D×List aR×List Prop) :=
 match o.op with
 |.call c=>match c.callee with
  |.builtin .append=>match c.args.toList,c.argTypes.toList with
   |[x,y],[t,a]=>appW w T (bU φ) σ x y t a
   |_,_=>af
  |_=>af
 |_=>af
def U6(ds:List (Nat×Bool))(T:List (Nat×TI))(CT:List (Nat×dv))(φ:Fr)(σ:List aR)(o:au):Option (D×List aR×List Prop) :=
 match isW ds o.dst with
 |true=>XL ab T φ σ o
 |false=>match YC T CT φ σ o with
  |some r=>aa r
  |none=>XL ae T φ σ o
def J3(ds:List (Nat×Bool))(d:Option Nat)(x:D)(obs:List Prop):Option (D×List Prop) :=
 match d with
 |none=>aa (x,obs)
 |some t=>match Cm ds t with
  |none=>aa (x,obs)
  |some b=>match x with
   |.e (.one (.c (.bool e)))=>aa (.e (.one (.c (.bool b))),la obs [e=b])
   |_=>af
def Of{ds:List (Nat×Bool)}{d:Option Nat}{x y:D}{obs EA:List Prop}(h:J3 ds d x obs=aa (y,EA))(a:az EA):y=x/\az obs:=by
 unfold J3 at h;split at h
 .grind
 .split at h
  .grind
  .split at h
   .cases h;rw[az.cat]at a;have:_=_:=a.2;grind
   grind
def wP(T:List (Nat×TI))(CT:List (Nat×dv))(ds:List (Nat×Bool))(all:List au)(φ:Fr)(σ:List aR)(o:au):Option (D×Option (List aR)×List Prop) :=
 let go:Option (D×Option (List aR)×List Prop):=match Oa T CT φ σ o with
  |some (x,obs)=>match J3 ds o.dst x obs with
   |some (y,a)=>oG y λy=>aa (y,af,a)
   |none=>af
  |none=>match Yq ds o.dst with
   |true=>match YD T φ o with
    |some (x,obs)=>oG x λx=>aa (x,af,obs)
    |none=>af
   |false=>match U6 ds T CT φ σ o with
    |some (x,σ',obs)=>oG x λx=>aa (x,aa σ',obs)
    |none=>af
 match o.guard with
 |none=>go
 |some (j,b)=>match Ax φ all j with
  |some (aa b')=>match b,b' with
   |true,ab=>go
   |false,ae=>go
   |_,_=>aa (.fa [],af,[])
  |some af=>aa (.fa [],af,[])
  |none=>af
section
variable {P:ar}{X:Cx P}{T:List (Nat×TI)}{CT:List (Nat×dv)}{N:Nat}{all:List au}{φ:Fr}{σ:List aR}{o:au}
theorem Og(hT:cW P T)(A:∀σ s a,cu N σ s φ a->bg o (yielded all.toArray a.tmps)=ab){x y:aq}{t e:aj}{d:D}{obs:List Prop}(F:o.op=.call {callee:=.builtin .append,args:=#[x,y],argTypes:=#[t,e]})(h:R5 T (bU φ) x y t e=aa (d,obs))(b:az obs):OA X N all o φ σ d σ:=by
 unfold R5 at h;split at h
 .cases h
 rename_i i hi;split at h
 .cases h
 rename_i i2 ND;split at h
 case h_2=>cases h
 rename_i E B;split at h
 case h_2=>cases h
 rename_i E2 Ve;split at h
 .cases h
 rename_i g;have w:=bX g;subst w;split at h
 .cases h
 rename_i z f;split at h
 case h_2=>cases h
 rename_i q r;have c:lL P o x y E2 z:=⟨⟨t,e,i,i2,F,hT t i hi,B,hT e i2 ND,Ve⟩,hT _ _ f,by have:=db q;omega,by have:=db r;omega⟩
 split at h
 .cases h
 rename_i tx k' m es' hy;split at h
 .cases h
 rename_i j;have C:=bX j;subst C;have l:=λs v=>mU hy σ s v;split at h
 .rename_i k n es hx;split at h
  .rename_i u;cases h;exact(OA.kT A (bM.pv c hx (.inr (bX u)) l b.1 b.2)).Cj
  grind
 grind
theorem Oh(hT:cW P T){K:aq->D}{x y:aq}{t e:aj}{d:D}{σ':List aR}{obs:List Prop}(U:o.op=.call {callee:=.builtin .append,args:=#[x,y],argTypes:=#[t,e]})(h:R4 T K σ x y t e=aa (d,σ',obs))(a:az obs):bM P o K σ d σ':=by
 unfold R4 at h;split at h
 .cases h
 rename_i i hi;split at h
 .cases h
 rename_i i2 ND;split at h
 case h_2=>cases h
 rename_i E S;split at h
 case h_2=>cases h
 rename_i E2 Ve;split at h
 .cases h
 rename_i H;have L:=bX H;subst L;split at h
 .cases h
 rename_i V G;split at h
 case h_2=>cases h
 rename_i r C;have b:lL P o x y E2 V:=⟨⟨t,e,i,i2,U,hT t i hi,S,hT e i2 ND,Ve⟩,hT _ _ G,by have:=db r;omega,by have:=db C;omega⟩
 split at h
 .cases h
 rename_i tx k' m es' hy;split at h
 .cases h
 rename_i I;have O:=bX I;subst O;have c:=λs v=>mU hy σ s v;split at h
 .rename_i k n es hx;split at h
  .rename_i hk;rw[dh]at h;cases h;exact bM.pv b hx (.inl (bX hk)) c a.1 a.2
  .split at h
   .rename_i Q;rw[dh]at h;cases h;exact bM.pv b hx (.inr (bX Q)) c a.1 a.2
   grind
 .rename_i l k n es hx;split at h
  .rename_i M R f Aa hl;split at h
   .rename_i q z J;rw[dh,jq]at h;cases h;obtain⟨B,A,j⟩:f=n/\Aa=es/\_:=a;subst B;subst A;have u:=bX q;subst u;have w:=bX z;have F:=bX J;subst F;subst w;exact bM.HM b hx (b9 hl) c j
   grind
  grind
 .rename_i l g k n hx;split at h
  .rename_i M R f Aa hl;split at h
   .rename_i q z J;rw[dh,jq]at h;cases h;obtain⟨B,A,j⟩:g=f/\n=f/\_:=a;subst B;subst A;have u:=bX q;subst u;have w:=bX z;have F:=bX J;subst F;subst w;exact bM.Oi b hx (b9 hl) c j
   grind
  grind
 grind
theorem Oj(hT:cW P T){b:aq->D}{x:aq}{a:Array aj}{t:aj}{d:D}(e:o.op=.call {callee:=.builtin .len,args:=#[x],argTypes:=a})(f:a[0]?=aa t)(h:R2 T t (b x)=aa d):bM P o b σ d σ:=by
 unfold R2 at h;split at h
 .cases h
 rename_i i hi;split at h
 .rename_i E c;split at h
  .rename_i tt k n es hs;cases h;exact bM.Vf hT e f hi c (λs v=>mU hs σ s v)
  grind
 .grind [bM.R6]
 grind
theorem J8(hT:cW P T){l:aq->D}{c a:aj}{x:aq}{d:D}{obs:List Prop}(m:o.op=.convert c a x)(h:J5 T c a (l x)=aa (d,obs))(b:az obs):bM P o l σ d σ:=by
 unfold J5 at h;split at h
 .cases h
 rename_i i hi;split at h
 .cases h
 rename_i i2 ND;split at h
 .rename_i k' hd;split at h
  .rename_i k j q;cases h;exact bM.Ol hT m hi ND hd q b
  grind
 .rename_i hd;split at h
  .grind [bM.Om]
  .split at h
   .rename_i E f;split at h
    .rename_i w t;split at h
     .rename_i g;split at h
      .rename_i tt k n es hs;split at h
       .rename_i hk;have e:=bX hk;subst e;split at h
        .rename_i r u;cases h;exact bM.HT hT m hi ND f hd t g (λs v=>mU hs σ s v) u
        grind
       grind
      grind
     grind
    grind
   grind
 grind
theorem HU(hT:cW P T){b:aq->D}{t:aj}{x:aq}{lo hi:Option aq}{d:D}{obs:List Prop}(e:o.op=.slice t x lo hi af)(h:Ez T b t x lo hi=aa (d,obs))(a:az obs):bM P o b σ d σ:=by
 unfold Ez at h;split at h
 .cases h
 rename_i i c;split at h
 .cases h
 rename_i l g;split at h
 .cases h
 rename_i u f;split at h
 .grind [bM.J9]
 .grind [Nat.eq_of_beq_eq_true,bM.On,mU]
 grind
theorem wX{α:Type}{xs:Array α}{x:α}(h:xs.toList=[x]):xs=#[x]:=Array.ext' h
theorem wY{α:Type}{xs:Array α}{x y:α}(h:xs.toList=[x,y]):xs=#[x,y]:=Array.ext' h
theorem R7(hT:cW P T)(Q:bL X CT){d:D}{obs:List Prop}(h:XH T CT φ o=aa (d,obs))(g:az obs)(u:∀σ s a,cu N σ s φ a->bg o (yielded all.toArray a.tmps)=ab):OA X N all o φ σ d σ:=by
 unfold XH at h;split at h
 .grind [OA.kT,bM.move]
 .grind [OA.kT,bM.assign]
 .rename_i t x y w;split at h
  .rename_i i hi;split at h
   .rename_i A;split at h
    .rename_i l k j r B;cases h;obtain⟨J,L⟩:0<=j/\j<(l.length:Int):=g;have:=bM.Ka (σ:=σ) (m:=j.toNat) hT w hi A r B (by omega) (by omega);have e:jb l j=l[j.toNat]'(by omega):=by simp[jb,ak,br (by omega:j.toNat<l.length)]
     grind[OA.kT]
    grind
   grind
  grind
 .rename_i t x y w;split at h
  .rename_i i hi;split at h
   .rename_i E A;split at h
    .rename_i O K;split at h
     .rename_i tt k n es k2 j r B;split at h
      .rename_i hk;cases h;obtain⟨J,L⟩:0<=j/\j<(n:Int):=g;have e:=bX hk;subst e;exact OA.kT u (bM.indexAddr (m:=j.toNat) hT w hi A K (λs v=>mU r σ s v) B (by omega) (by omega))
      grind
     grind
    grind
   grind
  grind
 .grind [OA.kT,HU]
 .grind [OA.kT,J8]
 .rename_i c w;obtain⟨I,args,H⟩:=c;grind[wX,OA.kT,Oj,OA.Cl]
 .rename_i c a b q;split at h
  .rename_i C;cases h;exact OA.kT u (bM.pick q C)
  .rename_i C;cases h;exact OA.kT u (bM.pick q C)
  grind
 .rename_i op t y z ty q;unfold QD at h;split at h
  .grind [OA.kT,bM.R8]
  .rename_i a b _ F G;split at h
   .split at h
    .rename_i _ _ a' b' _ _;cases h;exact OA.kT u (bM.Vg q F G g.1 g.2)
    .grind [sS,OA.kT,bM.bits]
    grind
   .grind [sS,OA.kT,bM.bits]
   .grind [sS,OA.kT,bM.bits]
   .grind [sS,OA.kT,bM.bits]
   grind[OA.kT,bM.binOp]
  .rename_i cs es F G;split at h
   .grind [OA.kT,bM.structEq]
   grind
  grind
 .grind [OA.kT,bM.unOp]
 .grind [OA.kT,bM.extract,b9]
 .rename_i t y f q;split at h
  .rename_i k j M;split at h
   .rename_i l off r;cases h;exact OA.kT u (bM.sT hT q r M)
   .grind [OA.kT,bM.uO]
   grind
  grind
 .grind [OA.kT,bM.field]
 .grind [OA.kT,bM.uP,bM.wZ]
 .grind [OA.kT,bM.build]
 .grind [OA.kT,bM.buildSlice]
 .grind [OA.kT,bM.makeFunc]
 .grind [OA.kT,bM.makeInterface]
 .grind [OA.kT,bM.typeAssert]
 grind
theorem R9(hT:cW P T){d:D}{obs:List Prop}(h:YB T φ o=aa (d,obs))(e:az obs):bM P o (bU φ) σ d σ:=by
 unfold YB at h;split at h
 .rename_i t x y u;split at h
  .rename_i i hi;split at h
   .rename_i E B;split at h
    .rename_i J H;split at h
     .rename_i l g k q m kk j r C;split at h
      .rename_i hk;cases h;obtain⟨F,G⟩:0<=j/\j<(m:Int):=e;grind[Nat.eq_of_beq_eq_true,bM.YE]
      grind
     .rename_i b off n cap kk j r C;cases h;obtain⟨F,G⟩:0<=j/\j<(n:Int):=e;grind[bM.Cn]
     grind
    grind
   grind
  grind
 .rename_i t x f u;split at h
  .rename_i k j I;split at h
   .rename_i l g V i q r;cases h;exact bM.Sa hT u r I
   .rename_i b off r;cases h;exact bM.Sb hT u r I
   grind
  grind
 .grind [bM.YF]
 .rename_i t x lo hi u;split at h
  .cases h
  rename_i i A;split at h
  .cases h
  rename_i Y Z;split at h
  .cases h
  grind[Nat.eq_of_beq_eq_true,bM.sliceB]
 .rename_i t x y z u;split at h
  .cases h
  rename_i i A;split at h
  .rename_i E B;split at h
   .cases h
   rename_i J H;split at h
   .rename_i tt k n es kj j O m r C K;cases h;obtain⟨F,G,L⟩:0<=j/\j<=m/\m<=(n:Int):=e;exact bM.slice3 hT u A B H (λs v=>mU r σ s v) C K F G L
   grind
  grind
 .rename_i t x w y z u;split at h
  .cases h
  rename_i i A;split at h
  .rename_i E B;split at h
   .cases h
   rename_i J H;split at h
   .rename_i l g k q n U i kj j O m r W C K;cases h;obtain⟨F,G,L,S⟩:0<=i/\i<=j/\j<=m/\m<=(n:Int):=e;grind[bM.slice3B]
   grind
  grind
 .rename_i c u;obtain⟨R,args,Q⟩:=c;simp only at h;split at h
  .split at h
   .rename_i x t r M;split at h
    .rename_i i hi;split at h
     .rename_i E B;split at h
      .grind [wX,bM.YG]
      .rename_i a n cap hxx;cases h;have:=wX r;subst this;exact bM.YH hT u M hi B hxx e
      grind
     grind
    grind
   grind
  grind
 grind
theorem HV(hT:cW P T){t:aj}{x:aq}(c:o.op=.load t x){d:D}{obs:List Prop}(h:Aq T φ σ t x=aa (d,obs))(a:az obs):bM P o (bU φ) σ d σ:=by
 unfold Aq at h;split at h
 .rename_i m hi;split at h
  .rename_i l g k i f b;split at h
   .rename_i E k' n es hB;split at h
    .rename_i hk;have e:=bX hk;subst e;split at h
     .rename_i e j;cases h;exact bM.Vh hT c b a.1 (b9 hB) hi j a.2
     grind
    grind
   grind
  grind
 grind
theorem EB(hT:cW P T){t:aj}{x y:aq}(q:o.op=.store t x y){d:D}{σ':List aR}{obs:List Prop}(h:Aw T φ σ t x y=aa (d,σ',obs))(a:az obs):bM P o (bU φ) σ d σ':=by
 unfold Aw at h;split at h
 .rename_i s hi;split at h
  .rename_i l g k i f j;split at h
   .rename_i E k' n es hB;split at h
    .rename_i hk;have e:=bX hk;subst e;split at h
     .rename_i new hy;split at h
      .rename_i c;split at h
       .rename_i cc Qs;split at h
        .rename_i m;rw[dh,jq]at h;cases h;have b:f=0/\cc.length=k':=by
          cases f with
          |zero=>exact⟨rfl,bX m⟩
          |succ f=>simp[J6]at m
         obtain⟨rfl,b⟩:=b;exact bM.Kb hT q j a.1 (b9 hB) hi hy (bX c) Qs (λr=>sU (by grind)) a.2
        .split at h
         .rename_i ci hci;rw[dh,jq]at h;cases h;exact bM.Kb hT q j a.1 (b9 hB) hi hy (bX c) Qs (λ_=>hci) a.2
         grind
       grind
      grind
     grind
    grind
   grind
  grind
 grind
theorem Sc(hT:cW P T)(g:bL X CT){d:D}{obs:List Prop}(h:Oa T CT φ σ o=aa (d,obs))(c:az obs)(f:∀σ s a,cu N σ s φ a->bg o (yielded all.toArray a.tmps)=ab):OA X N all o φ σ d σ:=by
 unfold Oa at h;split at h
 .rename_i t y i;split at h
  .rename_i e b;cases h;unfold JY at b;split at b
   .grind [OA.kT,bM.GD,b9,bM.Kc]
   grind
  grind[OA.kT,HV]
 grind[R7,OA.kT,R9]
theorem Sd(hT:cW P T)(i:bL X CT){d:D}{σ':List aR}{obs:List Prop}(h:YC T CT φ σ o=aa (d,σ',obs))(b:az obs)(g:∀σ s a,cu N σ s φ a->bg o (yielded all.toArray a.tmps)=ab):OA X N all o φ σ d σ':=by
 unfold YC at h;split at h
 .grind [OA.kT,EC]
 .grind [OA.kT,EC]
 .grind [OA.kT,EC,EB]
 .rename_i c j;obtain⟨f,args,e⟩:=c;grind[wY,OA.kT,Oh,OA.call]
 grind
theorem Oo(hT:cW P T){w:Bool}{A:aq->D}{x y:aq}{t c:aj}{d:D}{σ':List aR}{obs:List Prop}(R:o.op=.call {callee:=.builtin .append,args:=#[x,y],argTypes:=#[t,c]})(h:appW w T A σ x y t c=aa (d,σ',obs))(a:az obs):bM P o A σ d σ':=by
 unfold appW at h;split at h
 .cases h
 rename_i i hi;split at h
 .cases h
 rename_i i2 ND;split at h
 case h_2=>cases h
 rename_i E O;split at h
 case h_2=>cases h
 rename_i E2 Ve;split at h
 .cases h
 rename_i u;have F:=bX u;subst F;split at h
 .cases h
 rename_i U r;split at h
 case h_2=>cases h
 rename_i e q;have b:lL P o x y E2 U:=⟨⟨t,c,i,i2,R,hT t i hi,O,hT c i2 ND,Ve⟩,hT _ _ r,by have:=db e;omega,by have:=db q;omega⟩
 split at h
 .split at h
  .cases h
  rename_i tx k' m es' hy;split at h
  .cases h
  rename_i z;have H:=bX z;subst H;split at h
  .rename_i k n es hx;split at h
   .rename_i I;have V:=bX I;subst V;rw[dh]at h;cases h;exact bM.HJ b hx (λs v=>mU hy _ s v) a
   grind
  grind
 .split at h
  .rename_i l g k i l' g' k' j m hx hy;split at h
   .cases h
   rename_i f;have el:=bX f;subst el;split at h
   .rename_i W Y n es hl;split at h
    .rename_i L q2 q3 q4;have Q:=bX L;have M:=bX q2;have J:=bX q3;have K:=bX q4;rw[dh]at h;cases h;obtain⟨B,C,G,S⟩:=a;subst B C Q M J K;have:=bM.JD (σ:=σ) b hx hy (b9 hl) G S;grind[jq]
    grind
   grind
  grind
theorem Se(hT:cW P T)(i:bL X CT){ds:List (Nat×Bool)}{d:D}{σ':List aR}{obs:List Prop}(h:U6 ds T CT φ σ o=aa (d,σ',obs))(b:az obs)(g:∀σ s a,cu N σ s φ a->bg o (yielded all.toArray a.tmps)=ab):OA X N all o φ σ d σ':=by
 have key:∀w,XL w T φ σ o=aa (d,σ',obs)->OA X N all o φ σ d σ':=by
  intro w h;unfold XL at h;split at h
  .rename_i c j;obtain⟨f,args,e⟩:=c;grind[wY,OA.kT,Oo]
  grind
 unfold U6 at h;grind[Sd]
def gL(hT:cW P T)(B:bL X CT){ds:List (Nat×Bool)}{d:D}{σ':Option (List aR)}{obs:List Prop}(h:wP T CT ds all φ σ o=aa (d,σ',obs))(k:az obs):OA X N all o φ σ d (σ'.getD σ):=by
 have go:(∀σ s a,cu N σ s φ a->bg o (yielded all.toArray a.tmps)=ab)->(match Oa T CT φ σ o with
  |some (x,obs)=>match J3 ds o.dst x obs with
   |some (y,g)=>oG y λy=>aa (y,af,g)
   |none=>af
  |none=>match Yq ds o.dst with
   |true=>match YD T φ o with
    |some (x,obs)=>oG x λx=>aa (x,af,obs)
    |none=>af
   |false=>match U6 ds T CT φ σ o with
    |some (x,σ',obs)=>oG x λx=>aa (x,aa σ',obs)
    |none=>af)=aa (d,σ',obs)->OA X N all o φ σ d (σ'.getD σ):=by
  intro w h;split at h
  .rename_i x l z;split at h
   .rename_i y n r;rw[nQ]at h;cases h;obtain⟨rfl,A⟩:=Of r k;grind[Sc]
   grind
  .split at h
   .split at h
    .rename_i x l q;rw[nQ]at h;cases h;unfold YD at q;split at q
     .rename_i c C;obtain⟨t,args,u⟩:=c;grind[wY,Og]
     grind
    grind
   grind[nQ,Se]
 unfold wP at h;simp only at h;split at h
 .grind [dK]
 .rename_i j b i;split at h
  .rename_i m e;have v:∀σ s a,cu N σ s φ a->bg o (yielded all.toArray a.tmps)=(aa m==aa b):=λσ s a f=>by simp only[bg,i,qE e f]
   split at h
   .grind
   .grind
   .cases h;refine OA.pass (λσ s a f=>(v σ s a f).trans ?_);cases b<;>cases m<;>simp_all
  .rename_i e;cases h;exact OA.pass (λσ s a f=>by simp only[bg,i,qE e f];rfl)
  grind
end
def Jr(φ:Fr)(o:au):Bool:=match o.op with
 |.load _ x=>match bU φ x with
  |.e (.one (.c (.rp _)))=>ae
  |_=>ab
 |_=>ae
def JX{T:List (Nat×TI)}{CT:List (Nat×dv)}{φ:Fr}{σ σ2:List aR}{o:au}(h:Jr φ o=ae):Oa T CT φ σ o=Oa T CT φ σ2 o:=by
 unfold Oa;split
 .rename_i t x a;simp only[Jr,a]at h;split at h
  .rename_i cs hx;simp only[JY,Aq,hx]
  grind
 .rfl
def JZ{T:List (Nat×TI)}{CT:List (Nat×dv)}{ds:List (Nat×Bool)}{all:List au}{φ:Fr}{σ:List aR}{o:au}{d:D}{obs:List Prop}(h:Jr φ o=ae)(a:wP T CT ds all φ σ o=aa (d,af,obs))(σ2:List aR):
  wP T CT ds all φ σ2 o=aa (d,af,obs):=by
 unfold wP at a⊢;simp only at a⊢;rw[JX (σ2:=σ) h];cases c:Oa T CT φ σ o with
 |some r=>grind
 |none =>
  simp only[c]at a⊢;cases b:Yq ds o.dst with
  |true=>grind
  |false =>
   simp only[b]at a⊢;have key:∀{y:Option (D×Option (List aR)×List Prop)},(match U6 ds T CT φ σ o with|some (x,σ',obs)=>oG x λx=>aa (x,aa σ',obs)|none=>af)=y->y≠aa (d,af,obs):=by grind[nQ]
   split at a
   .grind
   grind
def pD(t:Nat):List au->Bool
 |[]=>ae
 |o::r=>match o.dst with
  |some d=>match aB d t with|true=>ab|false=>pD t r
  |none=>pD t r
theorem sK{t:Nat}:∀{l:List au}{i:Nat}{o:au},l[i]?=aa o->o.dst=aa t->pD t l=ab
 |[],_,_,h,_=>by grind
 |p::r,0,o,h,a=>by simp at h;subst h;simp[pD,a,ja]
 |p::r,i+1,o,h,a=>by have:=sK (l:=r) (by simpa using h) a;simp only[pD];grind
theorem qB{t:Nat}:∀{l:List au},pD t l=ab->∃(i:Nat)(o:au),l[i]?=aa o/\o.dst=aa t
 |[],h=>by cases h
 |p::r,h=>by
  simp only[pD]at h;split at h
  .rename_i d c;split at h
   .rename_i e;exact⟨0,p,rfl,by grind[Nat.eq_of_beq_eq_true]⟩
   .obtain⟨i,o,b,a⟩:=qB h;exact⟨i+1,o,by grind,a⟩
  .obtain⟨i,o,b,a⟩:=qB h;exact⟨i+1,o,by grind,a⟩
def mS:List au->Bool
 |[]=>ab
 |o::r=>match o.dst with
  |some d=>match pD d r with|true=>ae|false=>mS r
  |none=>mS r
theorem tT{t:Nat}:∀{l:List au}{i j:Nat}{o p:au},mS l=ab->l[i]?=aa o->l[j]?=aa p->o.dst=aa t->p.dst=aa t->i=j
 |[],_,_,_,_,_,h,_,_,_=>by grind
 |q::r,0,0,_,_,_,_,_,_,_=>rfl
 |q::r,0,j+1,o,p,a,b,c,d1,d2=>by simp at b;subst b;simp only[mS,d1]at a;grind[sK]
 |q::r,i+1,0,o,p,a,b,c,d1,d2=>by simp at c;subst c;simp only[mS,d2]at a;grind[sK]
 |q::r,i+1,j+1,o,p,a,b,c,d1,d2=>by
  have:mS r=ab:=by simp only[mS]at a;grind
  have f:r[i]?=aa o:=by grind
  have d:r[j]?=aa p:=by grind
  have e:=tT this f d d1 d2;omega
def vl(all:List au):Fr->Fr
 |[]=>[]
 |(t,d)::r=>match pD t all with|true=>vl all r|false=>(t,d)::vl all r
def l5{all:List au}{t:Nat}:∀{φ:Fr},look (vl all φ) t=if pD t all=ab then .any else look φ t
 |[]=>by simp[vl,look]
 |(u,d)::r=>by
  simp only[vl];by_cases c:aB u t=ab
  .have e:=bX c;subst e;cases b:pD u all with
   |true=>simp only;rw[l5];grind
   |false=>simp[look]
  .have a:aB u t=ae:=by grind
   cases b:pD u all with
   |true=>simp only;rw[l5];simp[look,a]
   |false=>simp only[look,a,cond];rw[l5]
def bZ:List Edge->List Nat
 |[]=>[]
 |e::r=>match e.ground with
  |.textOnly _=>bZ r
  |.gcOnly _=>bZ r
  |_=>e.on::bZ r
theorem eX{j:Nat}:∀{l:List Edge},j∈bZ l↔∃e∈l,dr e=ab/\e.on=j
 |[]=>by simp[bZ]
 |e::r=>by
  have c:=eX (j:=j) (l:=r);have yes:bZ (e::r)=e.on::bZ r->dr e=ab->(j∈bZ (e::r)↔∃a∈e::r,dr a=ab/\a.on=j):=by grind
  have no:bZ (e::r)=bZ r->dr e=ae->(j∈bZ (e::r)↔∃a∈e::r,dr a=ab/\a.on=j):=by grind
  cases b:e.ground with
  |textOnly w=>exact no (by simp only[bZ,b]) (by unfold dr Region.binds;grind)
  |gcOnly w=>exact no (by simp only[bZ,b]) (by unfold dr Region.binds;grind)
  |_=>exact yes (by simp only[bZ,b]) (by unfold dr Region.binds;rw[b])
def wQ(i t:Nat):List au->Bool
 |[]=>ae
 |o::r=>match o.dst with
  |some d=>match aB d t with
   |true=>match iv i (bZ o.after.toList)with
    |true=>wQ i t r
    |false=>ab
   |false=>wQ i t r
  |none=>wQ i t r
def wR{i t:Nat}:∀{l:List au},wQ i t l=ae->∀(j:Nat)(o:au),l[j]?=aa o->o.dst=aa t->iv i (bZ o.after.toList)=ab
 |[],_,j,o,h,_=>by grind
 |p::r,h,0,o,b,a=>by simp at b;subst b;simp only[wQ,a,ja]at h;grind
 |p::r,h,j+1,o,b,a=>by
  have:wQ i t r=ae:=by simp only[wQ]at h;grind
  exact wR this j o (by grind) a
def pE(all:List au):Fr->List (Nat×D×Bool)
 |[]=>[]
 |(t,d)::r=>match pD t all with
  |true=>(t,d,ab)::pE all r
  |false=>(t,d,ae)::pE all r
def lf(i:Nat)(all:List au):List (Nat×D×Bool)->Fr
 |[]=>[]
 |(t,d,b)::r=>match b with
  |false=>(t,d)::lf i all r
  |true=>match wQ i t all with
   |true=>lf i all r
   |false=>(t,d)::lf i all r
def yX{i:Nat}{all:List au}{t:Nat}:∀{φ:Fr},look (lf i all (pE all φ)) t=if pD t all=ab/\wQ i t all=ab then .any else look φ t
 |[]=>by simp[pE,lf,look]
 |(u,d)::r=>by
  have f:=yX (i:=i) (all:=all) (t:=t) (φ:=r);have e:look ((u,d)::lf i all (pE all r)) t=if aB u t=ab then d else look (lf i all (pE all r)) t:=by simp only[look];cases aB u t<;>rfl
  have b:look ((u,d)::r) t=if aB u t=ab then d else look r t:=by simp only[look];cases aB u t<;>rfl
  cases a:pD u all with
  |false =>
   simp only[pE,a,lf];grind[Nat.eq_of_beq_eq_true]
  |true =>
   cases c:wQ i u all with
   |true =>
    simp only[pE,a,lf,c];grind[Nat.eq_of_beq_eq_true]
   |false =>
    simp only[pE,a,lf,c];grind[Nat.eq_of_beq_eq_true]
def jF(m:Nat->Bool):Nat->List (Option Nat×D)->Fr->Fr
 |_,[],φ=>φ
 |i,(d,x)::r,φ=>match m i with
  |true=>match d with
   |some t=>(t,x)::jF m (i+1) r φ
   |none=>jF m (i+1) r φ
  |false=>jF m (i+1) r φ
def nR{m:Nat->Bool}{φ:Fr}{t:Nat}:∀{l:List (Option Nat×D)}{i:Nat},(∃j x,l[j]?=aa (aa t,x)/\m (i+j)=ab/\look (jF m i l φ) t=x)∨look (jF m i l φ) t=look φ t
 |[],i=>.inr rfl
 |(d,x)::r,i=>by
  have g:=nR (m:=m) (φ:=φ) (t:=t) (l:=r) (i:=i+1);have step:look (jF m i ((d,x)::r) φ) t=look (jF m (i+1) r φ) t->((∃j b,((d,x)::r)[j]?=aa (aa t,b)/\m (i+j)=ab/\look (jF m i ((d,x)::r) φ) t=b)∨look (jF m i ((d,x)::r) φ) t=look φ t):=by
   intro e;rw[e];rcases g with⟨j,b,n,o,f⟩|h
   .exact .inl ⟨j+1,b,by grind,by grind,f⟩
   grind
  cases a:m i with
  |false=>exact step (by simp[jF,a])
  |true =>
   cases d with
   |none=>exact step (by simp[jF,a])
   |some u =>
    by_cases k:aB u t=ab
    .have e:=bX k;subst e;exact .inl ⟨0,x,rfl,by grind,by simp[jF,a,look]⟩
    .have c:aB u t=ae:=by grind
     exact step (by simp[jF,a,look,c])
structure Ee where
 i:Nat
 pre:List (Option Nat×D)
 σ:List aR
 cls:List (List Bool)
 Ar:List Bool
 Ob:List Bool
 obs:List Prop
def Uu(i:Nat):List Nat->Bool
 |[]=>ab
 |k::r=>match Nat.blt k i with|true=>Uu i r|false=>ae
def Eu{i:Nat}:∀{l:List Nat},Uu i l=ab->∀k∈l,k<i
 |[],_,k,h=>by grind
 |x::r,h,k,hk=>by
  simp only[Uu]at h;cases a:Nat.blt x i with
  |false=>grind
  |true =>
   simp only[a]at h;rcases eB.1 hk with rfl|hk
   .exact db a
   .exact Eu h k hk
def bit:List Bool->Nat->Bool
 |[],_=>ae
 |b::_,0=>b
 |_::r,n+1=>bit r n
def yA:List Bool->List Bool->List Bool
 |[],b=>b
 |true::a,[]=>ab::a
 |false::a,[]=>ae::a
 |true::a,_::b=>ab::yA a b
 |false::a,ab::b=>ab::yA a b
 |false::a,ae::b=>ae::yA a b
def mT:∀{a b:List Bool}{j:Nat},bit (yA a b) j=(bit a j||bit b j)
 |[],b,j=>by simp[yA,bit]
 |true::a,[],j=>by simp[yA,bit]
 |false::a,[],j=>by simp[yA,bit]
 |true::a,c::b,0=>by simp[yA,bit]
 |true::a,c::b,j+1=>by simp only[yA,bit];exact mT
 |false::a,ab::b,0=>by simp[yA,bit]
 |false::a,ab::b,j+1=>by simp only[yA,bit];exact mT
 |false::a,ae::b,0=>by simp[yA,bit]
 |false::a,ae::b,j+1=>by simp only[yA,bit];exact mT
def tU:Nat->List Bool
 |0=>[ab]
 |n+1=>ae::tU n
theorem sL:∀{n j:Nat},bit (tU n) j=decide (n=j)
 |0,0=>rfl
 |0,j+1=>by simp[tU,bit]
 |n+1,0=>by simp[tU,bit]
 |n+1,j+1=>by simp only[tU,bit,sL];simp
def Gx(a:List (List Bool)):List Nat->List Bool
 |[]=>[]
 |e::r=>match dC e a with
  |some c=>yA (yA c (tU e)) (Gx a r)
  |none=>yA (tU e) (Gx a r)
theorem As{b:List (List Bool)}{j:Nat}:∀{l:List Nat},bit (Gx b l) j=ab->∃e∈l,e=j∨∃c,b[e]?=aa c/\bit c j=ab
 |[],h=>by simp[Gx,bit]at h
 |e::r,h=>by
  simp only[Gx,fC]at h;have two:∀{a:Nat},bit (tU e) a=ab->e=a:=by grind[sL]
  have rest:bit (Gx b r) j=ab->∃d∈e::r,d=j∨∃c,b[d]?=aa c/\bit c j=ab:=by intro h;obtain⟨d,g,i⟩:=As h;grind
  split at h
  .rename_i c f;rw[mT,mT,jU,jU]at h;grind
  .rw[mT,jU]at h;grind
def tV:List Bool->List Bool->Bool
 |[],_=>ab
 |true::a,ab::b=>tV a b
 |true::_,_=>ae
 |false::a,_::b=>tV a b
 |false::a,[]=>tV a []
theorem qC:∀{a b:List Bool}{j:Nat},tV a b=ab->bit a j=ab->bit b j=ab
 |[],b,j,_,d=>by simp[bit]at d
 |true::a,ab::b,0,_,_=>rfl
 |true::a,ab::b,j+1,h,d=>by simp only[bit]at d⊢;exact qC (by simpa[tV]using h) d
 |true::a,ae::b,j,h,_=>by simp[tV]at h
 |true::a,[],j,h,_=>by simp[tV]at h
 |false::a,c::b,0,_,d=>by simp[bit]at d
 |false::a,c::b,j+1,h,d=>by simp only[bit]at d⊢;exact qC (by simpa[tV]using h) d
 |false::a,[],0,_,d=>by simp[bit]at d
 |false::a,[],j+1,h,d=>by simp only[bit]at d;have:=qC (j:=j) (by simpa[tV]using h) d;simp[bit]at this
def sM(T:List (Nat×TI))(CT:List (Nat×dv))(N:Nat)(ds:List (Nat×Bool))(all:List au)(φm:List (Nat×D×Bool))(st:Ee)(o:au):Option Ee :=
 match gg N o.dst with
 |false=>af
 |true =>
  dD (bZ o.after.toList) λes =>
  match Uu st.i es with
  |false=>af
  |true=>match wP T CT ds all (jF (λj=>iv j es) 0 st.pre (lf st.i all φm)) st.σ o with
   |none=>af
   |some (x,σ',obs) =>
    dD (Gx st.cls es) λcl =>
    match σ',Jr (jF (λj=>iv j es) 0 st.pre (lf st.i all φm)) o with
    |none,ae=>dD (st.pre++[(o.dst,x)]) λpre=>dD (st.cls++[cl]) λcls=>dD (la obs st.obs) λobs=>aa ⟨st.i+1,pre,st.σ,cls,st.Ar,st.Ob,obs⟩
    |none,ab=>match tV st.Ar cl with
     |true=>dD (st.pre++[(o.dst,x)]) λpre=>dD (st.cls++[cl]) λcls=>dD (la obs st.obs) λobs=>dD (yA st.Ob (tU st.i)) λa=>aa ⟨st.i+1,pre,st.σ,cls,st.Ar,a,obs⟩
     |false=>af
    |some σ',_=>match tV st.Ob cl with
     |true=>dD (st.pre++[(o.dst,x)]) λpre=>dD (st.cls++[cl]) λcls=>dD (la obs st.obs) λobs=>dD (yA st.Ob (tU st.i)) λa=>dD (yA st.Ar (tU st.i)) λb=>aa ⟨st.i+1,pre,σ',cls,b,a,obs⟩
     |false=>af
def Oc(T:List (Nat×TI))(CT:List (Nat×dv))(N:Nat)(ds:List (Nat×Bool))(all:List au)(φm:List (Nat×D×Bool)):List au->Ee->Option Ee
 |[],st=>aa st
 |o::r,st=>match sM T CT N ds all φm st o with
  |some qV=>Oc T CT N ds all φm r qV
  |none=>af
def Gy(T:List (Nat×TI))(CT:List (Nat×dv))(N:Nat)(ds:List (Nat×Bool))(all:List au)(φ:Fr)(σ:List aR):Option (Fr×List aR×List Prop) :=
 match mS all with
 |false=>af
 |true=>dD (pE all φ) λφm=>match Oc T CT N ds all φm all ⟨0,[],σ,[],[],[],[]⟩with
  |some st=>dD (jF (λ_=>ab) 0 st.pre (vl all φ)) λφ'=>aa (φ',st.σ,st.obs)
  |none=>af
def jN:au:=⟨af,.move (.tmp 0),0,"",#[],af⟩
section
variable (T:List (Nat×TI))(CT:List (Nat×dv))(N:Nat)(ds:List (Nat×Bool))(all:List au)(φm:List (Nat×D×Bool))
def yB(st:Ee):Nat->Ee
 |0=>st
 |i+1=>(sM T CT N ds all φm (yB st i) (all.getD i jN)).getD (yB st i)
def Qz(st:Ee)(i:Nat):Fr:=jF (λj=>iv j (bZ (all.getD i jN).after.toList)) 0 (yB T CT N ds all φm st i).pre (lf (yB T CT N ds all φm st i).i all φm)
def Gz(st:Ee)(i:Nat):Option (D×Option (List aR)×List Prop):=wP T CT ds all (Qz T CT N ds all φm st i) (yB T CT N ds all φm st i).σ (all.getD i jN)
def xD(st:Ee)(i:Nat):D:=match Gz T CT N ds all φm st i with|some (x,_,_)=>x|none=>.any
def pe(st:Ee)(i:Nat):Bool:=match Gz T CT N ds all φm st i with|some (_,aa _,_)=>ab|_=>ae
def uN(st:Ee)(i:Nat):Bool:=!Jr (Qz T CT N ds all φm st i) (all.getD i jN)&&!pe T CT N ds all φm st i
def QA(st:Ee)(i:Nat):List Bool:=Gx (yB T CT N ds all φm st i).cls (bZ (all.getD i jN).after.toList)
end
section
variable {T:List (Nat×TI)}{CT:List (Nat×dv)}{N:Nat}{ds:List (Nat×Bool)}{all:List au}{φm:List (Nat×D×Bool)}
structure J0(T:List (Nat×TI))(CT:List (Nat×dv))(N:Nat)(ds:List (Nat×Bool))(all:List au)(φm:List (Nat×D×Bool))(st qV:Ee)(o:au)(x:D)(σ':Option (List aR))(obs:List Prop):Prop where
 dst:gg N o.dst=ab
 lt:Uu st.i (bZ o.after.toList)=ab
 op:wP T CT ds all (jF (λj=>iv j (bZ o.after.toList)) 0 st.pre (lf st.i all φm)) st.σ o=aa (x,σ',obs)
 i:qV.i=st.i+1
 pre:qV.pre=st.pre++[(o.dst,x)]
 cls:qV.cls=st.cls++[Gx st.cls (bZ o.after.toList)]
 σ:qV.σ=σ'.getD st.σ
 obs:qV.obs=la obs st.obs
 eff:qV.Ar=if σ'.isSome=ab then yA st.Ar (tU st.i)else st.Ar
 nf:qV.Ob=if(Jr (jF (λj=>iv j (bZ o.after.toList)) 0 st.pre (lf st.i all φm)) o||σ'.isSome)=ab then yA st.Ob (tU st.i)else st.Ob
 load:Jr (jF (λj=>iv j (bZ o.after.toList)) 0 st.pre (lf st.i all φm)) o=ab->σ'.isSome=ae->tV st.Ar (Gx st.cls (bZ o.after.toList))=ab
 jM:σ'.isSome=ab->tV st.Ob (Gx st.cls (bZ o.after.toList))=ab
def Ck{st qV:Ee}{o:au}(h:sM T CT N ds all φm st o=aa qV):∃x σ' obs,J0 T CT N ds all φm st qV o x σ' obs:=by
 unfold sM at h;split at h
 .cases h
 rename_i b;simp only[dh]at h;split at h
 .cases h
 rename_i a;split at h
 .cases h
 rename_i x σ' obs mP;refine⟨x,σ',obs,?_⟩;cases σ' with
 |none =>
  cases d:Jr (jF (λj=>iv j (bZ o.after.toList)) 0 st.pre (lf st.i all φm)) o with
  |false =>
   simp only[d,dh]at h;cases h;exact⟨b,a,mP,rfl,rfl,rfl,rfl,rfl,by simp,by grind,by grind,by simp⟩
  |true =>
   simp only[d,dh]at h;split at h
   .rename_i c;cases h;exact⟨b,a,mP,rfl,rfl,rfl,rfl,rfl,by simp,by grind,λ_ _=>c,by simp⟩
   grind
 |some σ' =>
  simp only[dh]at h;split at h
  .rename_i c;cases h;exact⟨b,a,mP,rfl,rfl,rfl,rfl,rfl,by simp,by simp,by simp,λ_=>c⟩
  grind
def GA{st sf:Ee}:∀{rest:List au}{k:Nat},(∀i,rest[i]?=all[k+i]?)->Oc T CT N ds all φm rest (yB T CT N ds all φm st k)=aa sf ->
  (∀i o,rest[i]?=aa o->sM T CT N ds all φm (yB T CT N ds all φm st (k+i)) o=aa (yB T CT N ds all φm st (k+i+1)))/\yB T CT N ds all φm st (k+rest.length)=sf
 |[],k,_,h=>by cases h;grind
 |p::r,k,c,h=>by
  simp only[Oc]at h;have d:all[k]?=aa p:=by have:=c 0;grind
  split at h
  .rename_i a b;have e:yB T CT N ds all φm st (k+1)=a:=by simp only[yB,ak,d,ij,b]
   rw[<-e]at h;obtain⟨f,g⟩:=GA (rest:=r) (k:=k+1) (λi=>by have:=c (i+1);grind) h;grind
  grind
theorem J1{j:Nat}:∀{l:List Nat},iv j l=ab->j∈l:=by
 intro l;induction l with
 |nil=>intro h;cases h
 |cons a r b =>
  intro h;simp only[iv]at h;grind[Nat.eq_of_beq_eq_true]
def J2{P:ar}{X:Cx P}(hf:P.follows Departure.mixedOrders=ab)(hT:cW P T)(hC:bL X CT){ops:Array au}{φ φ':Fr}{σ σ':List aR}{obs:List Prop}(h:Gy T CT N ds ops.toList φ σ=aa (φ',σ',obs))(acS:az obs){Q:Post}(hQ:Q .normal φ' σ')(id:Nat):
  AW X N (.region id ops ab) Q φ σ:=by
 unfold Gy at h;split at h
 .cases h
 rename_i aaC;rw[dh]at h;split at h
 case h_2=>cases h
 rename_i sf wS;rw[dh]at h;cases h;generalize RZ:ops.toList=all at *;generalize Yr:pE all φ=φm at *;have E:∀i:Nat,ops[i]?=all[i]?:=λi=>by grind
 have Ec:ops.size=all.length:=by grind
 let g:Ee:=⟨0,[],σ,[],[],[],[]⟩
 obtain⟨I,G⟩:=GA (T:=T) (CT:=CT) (N:=N) (ds:=ds) (φm:=φm) (st:=g) (rest:=all) (k:=0) (λi=>by simp) wS;simp only[bF]at I G;let F:=yB T CT N ds all φm g;have r:∀i o,all[i]?=aa o->all.getD i jN=o:=λi o h=>by grind
 have efr:∀i o,all[i]?=aa o->Qz T CT N ds all φm g i=(jF (λj=>iv j (bZ (o).after.toList)) 0 (F i).pre (lf (F i).i all φm)):=λi o h=>by unfold Qz;grind
 have facts:∀i o,all[i]?=aa o->∃K,J0 T CT N ds all φm (F i) (F (i+1)) o (xD T CT N ds all φm g i) (if pe T CT N ds all φm g i=ab then aa (F (i+1)).σ else af) K:=by
  intro i o q;obtain⟨x,σ1,K,n⟩:=Ck (I i o q);have y:=n.op;have hR:Gz T CT N ds all φm g i=aa (x,σ1,K):=by unfold Gz Qz;grind
  have hx:xD T CT N ds all φm g i=x:=by unfold xD;rw[hR]
  cases σ1 with
  |none =>
   have z:pe T CT N ds all φm g i=ae:=by unfold pe;rw[hR]
   grind
  |some σ2 =>
   have z:pe T CT N ds all φm g i=ab:=by unfold pe;rw[hR]
   have hσ2:(F (i+1)).σ=σ2:=n.σ;grind
 have M:∀i,i<=all.length->(F i).i=i:=by
  intro i;induction i with
  |zero=>intro _;rfl
  |succ i C =>
   intro hi;obtain⟨_,n⟩:=facts i _ (br (by omega));rw[n.i,C (by omega)]
 have U7:∀i,i<=all.length->∀j,(F i).pre[j]?=if j<i then(all[j]?).map (λo=>(o.dst,xD T CT N ds all φm g j))else af:=by
  intro i;induction i with
  |zero=>intro _ j;simp[F,yB,g]
  |succ i C =>
   intro hi j;obtain⟨_,n⟩:=facts i _ (br (by omega));have Z:(F i).pre.length=i:=by
    apply Nat.le_antisymm
    .grind
    grind
   rw[n.pre];grind
 have Ys:∀i,i<=all.length->∀j,(F i).cls[j]?=if j<i then aa (QA T CT N ds all φm g j)else af:=by
  intro i;induction i with
  |zero=>intro _ j;simp[F,yB,g]
  |succ i C =>
   intro hi j;obtain⟨_,n⟩:=facts i _ (br (by omega));have Z:(F i).cls.length=i:=by
    apply Nat.le_antisymm
    .apply Nat.le_of_not_lt;intro u;have:=C (by omega) i;grind
    grind
   rw[n.cls];by_cases Yt:j<i
   .grind
   .rw[gk (by omega)];by_cases e:j=i
    .subst e;rw[bl (by omega),Z,Nat.sub_self];simp only[kB,QA,r j _ (br (by omega:j<all.length))];rfl
    grind
 have acU:∀i,i<=all.length->∀j,bit (F i).Ar j=(decide (j<i)&&pe T CT N ds all φm g j):=by
  intro i;induction i with
  |zero=>intro _ j;simp[F,yB,g,bit]
  |succ i C =>
   intro hi j;obtain⟨_,n⟩:=facts i _ (br (by omega));rw[n.eff];cases z:pe T CT N ds all φm g i with
   |false =>
    grind
   |true =>
    simp only[cq,Option.isSome_some];rw[mT,C (by omega) j,sL,M i (by omega)];by_cases e:j=i
    .grind
    grind
 have nfI:∀i,i<=all.length->∀j,bit (F i).Ob j=(decide (j<i)&&!uN T CT N ds all φm g j):=by
  intro i;induction i with
  |zero=>intro _ j;simp[F,yB,g,bit]
  |succ i C =>
   intro hi j;obtain⟨_,n⟩:=facts i _ (br (by omega));have U8:(if pe T CT N ds all φm g i=ab then aa (F (i+1)).σ else af).isSome=pe T CT N ds all φm g i:=by cases pe T CT N ds all φm g i<;>rfl
   have yW:uN T CT N ds all φm g i=!(Jr (jF (λj=>iv j (bZ (all[i]'(by omega)).after.toList)) 0 (F i).pre (lf (F i).i all φm)) (all[i]'(by omega))||pe T CT N ds all φm g i):=by unfold uN;rw[efr i _ (br (by omega)),r i _ (br (by omega))];simp
   rw[n.nf,U8];cases z:(Jr (jF (λj=>iv j (bZ (all[i]'(by omega)).after.toList)) 0 (F i).pre (lf (F i).i all φm)) (all[i]'(by omega))||pe T CT N ds all φm g i)with
   |false =>
    grind
   |true =>
    simp only[cq];rw[mT,C (by omega) j,sL,M i (by omega)];by_cases e:j=i
    .grind
    grind
 have U9:∀i,i<=all.length->az (F i).obs:=by
  have back:∀k i,i+k=all.length->az (F i).obs:=by
   intro k;induction k with
   |zero =>
    grind
   |succ k C =>
    intro i hi;obtain⟨_,n⟩:=facts i _ (br (by omega));have:=C (i+1) (by omega);rw[n.obs,az.cat]at this;exact this.2
  intro i hi;exact back (all.length-i) i (by omega)
 have oaI:∀i o,all[i]?=aa o->OA X N all o (Qz T CT N ds all φm g i) (F i).σ (xD T CT N ds all φm g i) (F (i+1)).σ:=by intro i o q;have hi:i<all.length:=(b6.1 q).1;obtain⟨_,n⟩:=facts i o q;have NC:=U9 (i+1) (by omega);rw[n.obs,az.cat]at NC;have:=gL (P:=P) (N:=N) hT hC n.op NC.1;rw[n.σ];grind
 let idx:Nat->Option Nat:=λt=>(bh all.length).find? (λi=>decide ((all.getD i jN).dst=aa t));have O:∀t j,idx t=aa j->∃o,all[j]?=aa o/\o.dst=aa t:=by grind
 have R:∀i o d,all[i]?=aa o->o.dst=aa d->idx d=aa i:=by
  intro i o d q hd;have hi:i<all.length:=(b6.1 q).1;cases hx:idx d with
  |none =>
   grind
  |some j =>
   grind[tT]
 have V:∀t,pD t all=ab↔∃j,idx t=aa j:=by grind[qB,sK]
 have Y:∀i o,all[i]?=aa o->∀e∈o.after,dr e=ab->e.on<i:=by intro i o q e z S;have hi:i<all.length:=(b6.1 q).1;obtain⟨_,n⟩:=facts i o q;have:=Eu n.lt e.on (eX.2 ⟨e,by grind,S,rfl⟩);grind
 have aaE:=Y;have hd:wN X N ops φ (λi=>(F i).σ) (xD T CT N ds all φm g) (Qz T CT N ds all φm g) (uN T CT N ds all φm g) (λi=>decide (i<all.length)&&pe T CT N ds all φm g i) (λi j=>i<all.length/\bit (QA T CT N ds all φm g i) j=ab) idx (jF (λ_=>ab) 0 sf.pre (vl all φ)):=by
  refine⟨hf,?_,?_,?_,?_,?_,?_,?_,?_,?_,?_⟩
  .grind
  .intro i o d q hd;rw[E]at q;obtain⟨_,n⟩:=facts i o q;exact⟨R i o d q hd,gK n.dst d hd⟩
  .grind
  .intro i z;rcases cM i all.length with hi|hi
   .obtain⟨_,n⟩:=facts i _ (br hi);have:pe T CT N ds all φm g i=ae:=by grind
    have hσ:=n.σ;grind
   .have h0:all.getD i jN=jN:=by grind
    show(F (i+1)).σ=(F i).σ;have:sM T CT N ds all φm (F i) jN=af∨∃s',sM T CT N ds all φm (F i) jN=aa s':=by
     cases sM T CT N ds all φm (F i) jN with
     |none=>grind
     |some s'=>grind
    show((sM T CT N ds all φm (F i) (all.getD i jN)).getD (F i)).σ=(F i).σ;rw[h0];rcases this with h|⟨s',h⟩
    .grind
    .rw[h];obtain⟨x,σ1,ob,n⟩:=Ck h;have y:=n.op;have:σ1=af:=by unfold wP at y;simp only[jN,Oa,XH,J3,nQ]at y;grind
     rw[ij,n.σ,this];rfl
  .grind
  .intro i o q GC;rw[E]at q;have hi:i<all.length:=(b6.1 q).1;have p:Jr (jF (λj=>iv j (bZ (o).after.toList)) 0 (F i).pre (lf (F i).i all φm)) o=ae/\pe T CT N ds all φm g i=ae:=by unfold uN at GC;grind
   refine⟨by grind,λk=>?_⟩;obtain⟨ob,n⟩:=facts i o q;have y:=n.op;rw[p.2]at y;have Yu:=JZ p.1 (by simpa using y) (F k).σ;have NC:=U9 (i+1) (by omega);rw[n.obs,az.cat]at NC;have:=gL (P:=P) (N:=N) hT hC Yu NC.1;grind
  .intro L hL i j ⟨hi,S⟩;have fA:∀i,i<all.length->L i->∀e,e∈bZ (all.getD i jN).after.toList->L e:=by intro i hi hLi e z;rw[r i _ (br hi)]at z;obtain⟨e',U,h2,rfl⟩:=eX.1 z;grind
   have key:∀i,i<all.length->∀j,bit (QA T CT N ds all φm g i) j=ab->(∀e∈bZ (all.getD i jN).after.toList,L e)->L j:=by
    intro i;induction i using Nat.strongRecOn with
    |_ i C =>
     intro hi j S Va;obtain⟨e,z,h⟩:=As S;have u:e<i:=by have RM:=z;rw[r i _ (br hi)]at RM;obtain⟨e',U,h2,rfl⟩:=eX.1 RM;grind
     rcases h with rfl|⟨c,hc,Nz⟩
     .grind
     .have:=Ys i (by omega) e;rw[bl u]at this;have Yb:(F i).cls[e]?=aa c:=hc;rw[Yb]at this;cases this;exact C e u (by omega) j Nz (fA e (by omega) (Va e z))
   refine⟨λhLi=>key i hi j S (fA i hi hLi),all[i],by grind,λRX=>key i hi j S ?_⟩;grind[List.getElem?_eq_getElem,eX]
  .intro i f hi Ut z B4 hnf;rw[Ec]at hi Ut;have RM:pe T CT N ds all φm g f=ab:=by grind
   rcases cM f i with u|Uv
   .refine .inl ⟨u,hi,?_⟩;obtain⟨_,n⟩:=facts i _ (br hi);have Jo:QA T CT N ds all φm g i=Gx (F i).cls (bZ (all[i]).after.toList):=by unfold QA;grind
    rw[Jo];cases hei:pe T CT N ds all φm g i with
    |true =>
     have U:=n.jM (by grind);refine qC U ?_;rw[nfI i (by omega) f];have:uN T CT N ds all φm g f=ae:=by unfold uN;grind
     grind
    |false =>
     have XI:Jr (jF (λj=>iv j (bZ (all[i]).after.toList)) 0 (F i).pre (lf (F i).i all φm)) all[i]=ab:=by unfold uN at hnf;rw[efr i _ (br hi),r i _ (br hi),hei]at hnf;grind
     have U:=n.load XI (by grind);grind[qC]
   .have u:i<f:=by omega
    refine .inr ⟨u,Ut,?_⟩;obtain⟨_,n⟩:=facts f _ (br Ut);have Jo:QA T CT N ds all φm g f=Gx (F f).cls (bZ (all[f]).after.toList):=by unfold QA;grind
    rw[Jo];have U:=n.jM (by grind);grind[qC]
  .intro i o q t σ s v W;rw[E]at q;have hi:i<all.length:=(b6.1 q).1;unfold Qz;rw[r i o q];rcases nR (m:=λj=>iv j (bZ o.after.toList)) (φ:=lf (F i).i all φm) (t:=t) (l:=(F i).pre) (i:=0)with⟨j,x,U,h2,h3⟩|h3
   .have Yv:look (jF (λj=>iv j (bZ o.after.toList)) 0 (yB T CT N ds all φm g i).pre (lf (yB T CT N ds all φm g i).i all φm)) t=x:=h3;rw[Yv];have hp:=U7 i (by omega) j;rw[U]at hp;have Yt:j<i:=by grind
    rw[bl Yt,br (by omega:j<all.length)]at hp;simp only[lS,dw,l9]at hp;obtain⟨Yw,hp2⟩:=hp;have A:=R j _ t (br (by omega:j<all.length)) Yw.symm;rw[A]at W;simp only at W;rw[bl]at W
    .grind
    .have Yx:j∈bZ o.after.toList:=by simp only[bF]at h2;exact J1 h2
     obtain⟨e,a,b,c⟩:=eX.1 Yx;grind
   .have Yv:look (jF (λj=>iv j (bZ o.after.toList)) 0 (yB T CT N ds all φm g i).pre (lf (yB T CT N ds all φm g i).i all φm)) t=look (lf (F i).i all φm) t:=h3;rw[Yv,M i (by omega),<-Yr,yX];split
    .trivial
    .rename_i Yy;cases A:idx t with
     |some j =>
      have hD:=(V t).2 ⟨j,A⟩;have hN:wQ i t all=ae:=by grind
      obtain⟨oj,Ym,Yn⟩:=O t j A;have hm:=J1 (wR hN j oj Ym Yn);obtain⟨e,z,S,heq⟩:=eX.1 hm;rw[A]at W;simp only at W;split at W
      ·
       rename_i hex;obtain⟨e2,Xy,hb2,acY⟩:=hex;grind
      .rw[bl ⟨oj,by grind,e,by grind,S,heq⟩]at W;exact W
     |none=>grind
  .intro t σ s v W;have hF:F all.length=sf:=G;rcases nR (m:=λ_=>ab) (φ:=vl all φ) (t:=t) (l:=sf.pre) (i:=0)with⟨j,x,U,_,h3⟩|h3
   .rw[h3];have hp:=U7 all.length (bc _) j;rw[hF,U]at hp;have Yt:j<all.length:=by grind
    grind
   .rw[h3,l5];split
    .trivial
    grind
 intro s a yW hh b kk cs SS S Yz;have Ny:F ops.size=sf:=by grind
 refine .next rfl λB H=>?_;have H:=X.iH H;have J:=hh.rely H;have YA:=yW.rely H hh;have R0:Step σ B σ {B with w:={B.w with drawn:=B.w.drawn+1}}:=Step.same rfl rfl rfl rfl;have Jp:aF σ {B with w:={B.w with drawn:=B.w.drawn+1}}:=J.same rfl;have stW:=H.stepW.trans (R0.nD J);refine⟨_,{B with w:={B.w with drawn:=B.w.drawn+1}},#[],mb,⟨⟨σ,σ,J,Jp,R0⟩,.nil⟩,?_⟩;simp only[Region.schedule,hf,Bool.true_or,cq];refine hd.arr S (s0:={B with w:={B.w with drawn:=B.w.drawn+1}}) (λs2 a2 f2 h2 mI=>?_) ops.size _ (by simp) ?_ ?_ 0 _ a (by omega) ?_ ?_ Jp (.refl _ _) _
 .simp only[Ny]at f2 h2 mI;exact Yz .normal _ _ s2 a2 hQ f2 h2 (stW.trans mI)
 .simp
 .intro i o q hi;simp[dZ,nh]at hi;split at hi<;>simp at hi
 .intro f Ut hf2;simp[dZ,nh];split<;>simp
 .have p:=YA.mono (R0.nD J) J.len;refine⟨p.size,p.defers,λt=>?_⟩;unfold gz;cases A:idx t with
  |none=>exact p.slot t
  |some j =>
   simp only;rw[aY]
   .exact p.slot t
   .simp[dZ,nh];split<;>simp
end
section
variable {P:ar}{X:Cx P}{N:Nat}{Qf:Post}{K:List It}{φ:Fr}{σ:List aR}
theorem AK.draw{T:List (Nat×TI)}{CT:List (Nat×dv)}(b:P.follows Departure.mixedOrders=ab)(hT:cW P T)(hC:bL X CT){ds:List (Nat×Bool)}{ops:Array au}{φ':Fr}{σ':List aR}{obs:List Prop}{id:Nat}(h:Gy T CT N ds ops.toList φ σ=aa (φ',σ',obs))(a:az obs)(k:AK X N Qf K .normal φ' σ'):AK X N Qf (.code (.region id ops ab)::K) .normal φ σ :=
 J2 b hT hC h a k id
end
def wL(T:List (Nat×TI))(CT:List (Nat×dv))(ds:List (Nat×Bool))(N:Nat)(K:List It)(φ:Fr)(σ:List aR):Option (List It×Fr×List aR×List Prop) :=
 match K with
 |[]=>af
 |.blk _::K=>aa (K,φ,σ,[])
 |.ops _ []::K=>aa (K,φ,σ,[])
 |.ops all (o::rest)::K=>match gg N o.dst with
  |true=>match wP T CT ds all φ σ o with
   |some (x,af,obs)=>dD (kH o.dst x φ) λφ=>aa (.ops all rest::K,φ,σ,obs)
   |some (x,aa σ',obs)=>dD (kH o.dst x φ) λφ=>aa (.ops all rest::K,φ,σ',obs)
   |none=>af
  |false=>af
 |.code c::K=>match c with
  |.skip=>aa (K,φ,σ,[])
  |.seq x y=>aa (.code x::.code y::K,φ,σ,[])
  |.block id c=>aa (.code c::.blk id::K,φ,σ,[])
  |.region id ops d=>match Cm ds (id+1000000)with
   |some _=>af
   |none=>match d with
    |false=>aa (.ops ops.toList ops.toList::K,φ,σ,[])
    |true=>match Gy T CT N ds ops.toList φ σ with
     |some (φ',σ',obs)=>aa (K,φ',σ',obs)
     |none=>af
  |.exit id=>match j9 id K with
   |some K'=>aa (K',φ,σ,[])
   |none=>af
  |.cond (.tmp t) x y=>match look φ t with
   |.e (.one (.c (.bool ab)))=>aa (.code x::K,φ,σ,[])
   |.e (.one (.c (.bool ae)))=>aa (.code y::K,φ,σ,[])
   |_=>af
  |_=>af
theorem KT{P:ar}{X:Cx P}(j:P.follows Departure.mixedOrders=ab){T:List (Nat×TI)}(hT:cW P T){CT:List (Nat×dv)}(g:bL X CT){ds:List (Nat×Bool)}{N:Nat}{Qf:Post}{K f:List It}{φ φ':Fr}{σ σ':List aR}{obs:List Prop}(h:wL T CT ds N K φ σ=aa (f,φ',σ',obs))(i:az obs)(k:AK X N Qf f .normal φ' σ'):AK X N Qf K .normal φ σ:=by
 unfold wL at h;split at h
 .cases h
 .grind [AK.SH]
 .grind [AK.KS]
 .rename_i all o rest K0;cases d:gg N o.dst with
  |false=>grind
  |true =>
   simp only[d]at h;have e:=gK d;split at h
   .rename_i x a b;rw[dh]at h;cases h;exact iw.AH (gL hT g b i) e k
   .rename_i x σ1 a b;rw[dh]at h;cases h;exact iw.AH (gL hT g b i) e k
   grind
 .rename_i c K0;split at h
  .grind [AK.skip]
  .grind [AK.seq]
  .grind [AK.block]
  .grind [AK.region,AK.draw]
  .grind [AK.exit]
  .grind [AK.cond]
  grind
def ln(T:List (Nat×TI))(CT:List (Nat×dv))(ds:List (Nat×Bool))(N:Nat):Nat->List It->Fr->List aR->List Prop->Option (List It×Fr×List aR×List Prop)
 |0,K,φ,σ,obs=>dD obs λobs=>aa (K,φ,σ,obs)
 |n+1,K,φ,σ,obs=>match wL T CT ds N K φ σ with
  |some (a,φ',σ',o)=>ln T CT ds N n a φ' σ' (la o obs)
  |none=>dD obs λobs=>aa (K,φ,σ,obs)
def G1{P:ar}{X:Cx P}(e:P.follows Departure.mixedOrders=ab){T:List (Nat×TI)}(hT:cW P T){CT:List (Nat×dv)}(f:bL X CT){ds:List (Nat×Bool)}{N:Nat}{Qf:Post}:∀{n:Nat}{K a:List It}{φ φ':Fr}{σ σ':List aR}{obs EA:List Prop},
  ln T CT ds N n K φ σ obs=aa (a,φ',σ',EA)->az EA->AK X N Qf a .normal φ' σ'->AK X N Qf K .normal φ σ/\az obs
 |0,K,a,φ,φ',σ,σ',obs,EA,h,b,k=>by simp only[ln,dh]at h;grind
 |n+1,K,a,φ,φ',σ,σ',obs,EA,h,b,k=>by
  simp only[ln]at h;cases d:wL T CT ds N K φ σ with
  |none =>
   grind[dh]
  |some r =>
   obtain⟨j,c,σ1,g⟩:=r;simp only[d]at h;obtain⟨i,l⟩:=G1 e hT f h b k;grind[az.cat,KT]
def AK.ln{P:ar}{X:Cx P}(d:P.follows Departure.mixedOrders=ab){T:List (Nat×TI)}(hT:cW P T){CT:List (Nat×dv)}(hC:bL X CT)(ds:List (Nat×Bool)){N:Nat}{Qf:Post}(n:Nat){K b:List It}{φ φ':Fr}{σ σ':List aR}{a:List Prop}(h:AM.ln T CT ds N n K φ σ []=aa (b,φ',σ',a))(c:az a)(k:AK X N Qf b .normal φ' σ'):AK X N Qf K .normal φ σ:=(G1 d hT hC h c k).1
section
variable {P:ar}{X:Cx P}{N:Nat}{Qf:Post}{K:List It}{φ:Fr}{σ:List aR}
def Ao(rs:List ResultVar)(ks:List Nat)(φ:Fr)(res:D):Option (List Prop) :=
 match yy φ rs with
 |some ds=>match sF ds with
  |some d=>match wC ks.length res with
   |true=>Ed d (iu ks res)
   |false=>af
  |none=>af
 |none=>af
def AK.dk{fn:Func}{a:Nat}{res:D}{σ':List aR}(ks:List Nat){ps:List Prop}(h:Ao fn.results.toList ks φ res=aa ps)(e:az ps)(d:j3 ks σ=aa σ')(b:kJ σ'=ab)(c:dH ks=ab)(hk:∀j,j<a->ks[j]?=aa j):
  AK X N (cw fn a res σ') (.code .ret::K) .normal φ σ:=by refine AK.ret ⟨.inl rfl,ks,?_⟩;unfold Ao at h;grind
def AK.bz{fn:Func}{res:D}{ps:List Prop}(h:Ao fn.results.toList [] φ res=aa ps)(a:az ps:=by simp):AK X N (cw fn 0 res []) (.code .ret::K) .normal φ σ :=
 AK.dk [] h a rfl rfl rfl (λj h=>by omega)
def cw.zero{fn:Func}{res:D}{ps:List Prop}(h:Ao fn.results.toList [] φ res=aa ps)(c:az ps:=by simp):cw fn 0 res [] .ret φ σ:=by
 refine⟨.inl rfl,[],?_⟩;unfold Ao at h;split at h
 .rename_i ds Y7;split at h
  .rename_i d b;split at h
   .rename_i a;exact⟨ds,d,ps,Y7,b,h,c,a,rfl,rfl,rfl,λj h=>by omega⟩
   grind
  grind
 grind
def AK.leave{id:Nat}{φ:Fr}{σ:List aR}{A:Fr->List aR->Prop}{Qr:Post}{K g l:List It}(h1:j9 id K=af)(h2:j9 id g=aa l)(k:AK X N Qr l .normal φ σ):
  AK X N (λe φ' σ'=>match e with
   |.normal=>A φ' σ'
   |e=>AK X N Qr g e φ' σ') (.code (.exit id)::K) .normal φ σ:=by
 have key:∀{K:List It},j9 id K=af->∀{Q:Post},Q (.exit id) φ σ->AK X N Q K (.exit id) φ σ:=by
  intro K;induction K with
  |nil=>intro _ Q h;exact h
  |cons i r f =>
   intro hk Q h;cases i with
   |code c=>exact f (by simpa[j9]using hk) h
   |ops a b=>exact f (by simpa[j9]using hk) h
   |blk j =>
    simp only[j9]at hk;cases m:aB id j with
    |true=>grind
    |false =>
     simp[m]at hk;have d:id≠j:=λe=>by grind[Nat.beq_refl]
     simp only[AK,d,ck];grind
 exact AW.exit (key h1 (AK.xd h2 k))
def AK.ir{φ:Fr}{σ:List aR}{A:Fr->List aR->Prop}{Qr:Post}{K a:List It}(k:Qr .ret φ σ):
  AK X N (λe φ' σ'=>match e with
   |.normal=>A φ' σ'
   |e=>AK X N Qr a e φ' σ') (.code .ret::K) .normal φ σ:=AK.ret (AK.sY (Qf:=Qr) k)
def AK.again{S:Type}{I:S->Prop}{fr:S->Fr}{st:S->List aR}{a:S->Nat}{x:S}{Qr:Post}(y:S){ps:List Prop}(c:nU φ (fr y)=aa ps)(f:az ps)(g:I y)(b:a y<a x)(d:σ=st y):
  AK X N (λe φ' σ'=>match e with
   |.normal=>∃y,I y/\a y<a x/\oA φ' (fr y)/\σ'=st y
   |e=>Qr e φ' σ') [] .normal φ σ:=⟨y,g,b,cD c f,d⟩
def AK.xe{S:Type}{c:Code}(I:S->Prop)(fr:S->Fr)(st:S->List aR)(a:S->Nat)(x:S){ps:List Prop}(b:nU φ (fr x)=aa ps)(f:az ps)(g:I x)(d:st x=σ)(round:∀x,I x->AK X N (λe φ' σ'=>match e with
   |.normal=>∃y,I y/\a y<a x/\oA φ' (fr y)/\σ'=st y
   |e=>AK X N Qf K e φ' σ') [.code c] .normal (fr x) (st x)):AK X N Qf (.code (.loop c)::K) .normal φ σ :=
 AK.loop I fr st a x g (cD b f) d round
def Fits(args:List D)(σ:List aR):Prop:=∃s vs,cp σ s vs args/\aF σ s
def Fits.at{args:List D}{σ:List aR}(h:Fits args σ){j:Nat}{d:D}(hj:args[j]?=aa d):∃s v,dt σ s v d:=by obtain⟨s,vs,a,_⟩:=h;obtain⟨_,b⟩:=cp.get a;grind
def Fits.str{args:List D}{σ:List aR}(h:Fits args σ)(j:Nat){l:List UInt8}(hj:args[j]?=aa (.e (.one (.c (.str l))))):l.length<=9223372036854775807:=by
 obtain⟨s,v,a⟩:=h.at hj;cases e9 a with
 |str h hl=>exact hl
def Fits.sl{args:List D}{σ:List aR}(h:Fits args σ)(j:Nat){t:Bool}{k n:Nat}{es:Nat->List C}(hj:args[j]?=aa (.e (.one (.c (.sl t k n es))))):n<=9223372036854775807:=by
 obtain⟨s,v,d⟩:=h.at hj;cases e9 d with
 |sl b off f a g=>omega
def Ev.body{f:aJ}{fn:Func}{c:Code}{args:List D}{σ σ':List aR}{res:D}(d:P.funcs[f]?=aa fn)(a:(fn.name== "runtime.NumGoroutine")=ae)(e:fn.body=aa c)(b:bA args.length fn.ntmps=ab)(h:Fits args σ->AK X fn.ntmps (cw fn σ.length res σ') [.code c] .normal (ji 0 args) σ):Ev X f args σ res σ':=by refine⟨⟨fn,d,a,by grind⟩,λs vs hr hh=>?_⟩;exact(Ev.intro d a e (db b) (AK.of_code (h ⟨s,vs,hr,hh⟩))).2 s vs hr hh
def Ev.bQ{f:aJ}{fn:Func}{c:Code}{args:List D}{σ σ':List aR}{res:D}(b:P.funcs[f]?=aa fn)(a:(fn.name== "runtime.NumGoroutine",fn.body,bA args.length fn.ntmps)=(ae,aa c,ab))(h:Fits args σ->AK X fn.ntmps (cw fn σ.length res σ') [.code c] .normal (ji 0 args) σ):Ev X f args σ res σ':=by simp only[l9]at a;exact Ev.body b a.1 a.2.1 a.2.2 h
def AK.join{c:Code}{b:List It}(φ':Fr)(σ':List aR)(h:(∀(a:Fr)(ps:List Prop),nU a φ'=aa ps->az ps->AK X N Qf (.code c::b) .normal a σ')->AK X N Qf K .normal φ σ)(k:AK X N Qf (.code c::b) .normal φ' σ'):AK X N Qf K .normal φ σ :=
 h λ_ _ h1 h2=>AW.le k (cD h1 h2)
end
def EK(σ σ':List aR):Prop:=∀(s:St),aF σ s->aF σ' s/\Step σ s σ' s/\∀(v:ah)(d:D),dt σ s v d->dt σ' s v d
def Y8:aR->aR->Option (List Prop)
 |.vec E k n es,.vec E' k' n' es'=>match aB E E',aB k k' with
  |true,ab=>aa [n=n',cA n es es']
  |_,_=>af
 |.cells E cs,.cells E' nF=>match aB E E' with
  |true=>QS cs nF
  |false=>af
 |.dead,.dead=>aa []
 |.cm H,.cm H'=>aa [H=H']
 |.loop N φ r,.loop N' φ' r'=>aa [aR.loop N φ r=aR.loop N' φ' r']
 |.qX,.qX=>aa []
 |.buf E k n es,.buf E' k' n' es'=>match aB E E',aB k k' with
  |true,ab=>aa [n=n',cA n es es']
  |_,_=>af
 |_,_=>af
def pg:List aR->List aR->Option (List Prop)
 |[],[]=>aa []
 |a::r,b::q=>match Y8 a b with
  |some p=>match pg r q with
   |some ps=>aa (la p ps)
   |none=>af
  |none=>af
 |_,_=>af
def OG(B B':aR):Prop :=
 (∀E k n es,B=.vec E k n es->∃es',B'=.vec E k n es'/\cA n es es')/\((∀E k n es,B≠.vec E k n es)->(∀E k n es,B'≠.vec E k n es)/\(B=B'∨(∃E cs nF,B=.cells E cs/\B'=.cells E nF/\∀σ s vs,ei σ s vs cs->ei σ s vs nF)∨∃E k n es es',B=.buf E k n es/\B'=.buf E k n es'/\cA n es es'))
theorem Sr{B B':aR}{ps:List Prop}(h:Y8 B B'=aa ps)(b:az ps):OG B B':=by
 unfold Y8 at h;split at h
 .rename_i E k n es E' k' n' es';split at h
  .rename_i a i;cases h;have d:=bX a;have f:=bX i;obtain⟨g,j⟩:n=n'/\cA n es es':=b;subst d f g;refine⟨λE0 k0 n0 Xu he=>?_,λl=>absurd rfl (l _ _ _ _)⟩;grind
  grind
 .rename_i E cs E' nF;split at h
  .rename_i a;have d:=bX a;subst d;exact⟨λ_ _ _ _ he=>(by cases he),λ_=>⟨λ_ _ _ _ he=>(by cases he),.inr (.inl ⟨E,cs,nF,rfl,rfl,λσ s vs r=>EM h b r⟩)⟩⟩
  grind
 .exact⟨λ_ _ _ _ he=>(by cases he),λ_=>⟨λ_ _ _ _ he=>(by cases he),.inl rfl⟩⟩
 .cases h;rename_i H H';have e:H=H':=b;subst e;exact⟨λ_ _ _ _ he=>(by cases he),λ_=>⟨λ_ _ _ _ he=>(by cases he),.inl rfl⟩⟩
 .cases h;rename_i N φ r m φ' r';have e:aR.loop N φ r=aR.loop m φ' r':=b;exact⟨λ_ _ _ _ he=>(by cases he),λ_=>⟨λ_ _ _ _ he=>(by cases he),.inl e⟩⟩
 .exact⟨λ_ _ _ _ he=>(by cases he),λ_=>⟨λ_ _ _ _ he=>(by cases he),.inl rfl⟩⟩
 .rename_i E k n es E' k' n' es';split at h
  .rename_i a i;cases h;have d:=bX a;have f:=bX i;obtain⟨g,j⟩:n=n'/\cA n es es':=b;subst d f g;exact⟨λ_ _ _ _ he=>(by cases he),λ_=>⟨λ_ _ _ _ he=>(by cases he),.inr (.inr ⟨E,k,n,es,es',rfl,rfl,j⟩)⟩⟩
  grind
 grind
def CB:∀{σ σ':List aR}{ps:List Prop},pg σ σ'=aa ps->az ps->σ'.length=σ.length/\∀(l:Nat)(B B':aR),σ[l]?=aa B->σ'[l]?=aa B'->OG B B'
 |[],[],_,_,_=>⟨rfl,λl B B' h=>by grind⟩
 |[],_::_,_,h,_=>by cases h
 |_::_,[],_,h,_=>by cases h
 |a::r,b::q,ps,h,d=>by
  simp only[pg]at h;split at h
  .rename_i p f;split at h
   .rename_i p2 h2;cases h;rw[az.cat]at d;obtain⟨g,e⟩:=CB h2 d.2;grind[Sr]
   grind
  grind
def gD{σ σ':List aR}{ps:List Prop}(h:pg σ σ'=aa ps)(hp:az ps):EK σ σ':=by
 obtain⟨W,hg⟩:=CB h hp;intro s I;have J:∀(l:Nat) (B:aR),σ[l]?=aa B->∃B',σ'[l]?=aa B'/\OG B B':=by grind
 have get:∀(l:Nat) (B':aR),σ'[l]?=aa B'->∃B,σ[l]?=aa B/\OG B B':=by grind
 have i:∀(l:Nat),(∀B,σ[l]?=aa B->B.gr=ae)->∀B,σ'[l]?=aa B->B.gr=ae:=by
  intro l Z B' he;obtain⟨B,hB,m⟩:=get l _ he;have q:=Z B hB;rcases(m.2 (λE k n es e=>by rw[e]at q;cases q)).2 with rfl|⟨E,cs,F,rfl,rfl,_⟩|⟨E,k,n,es,es',rfl,rfl,_⟩
  .exact q
  .rfl
  .cases q
 have U:∀(l:Nat) E k n es,σ'[l]?=aa (aR.buf E k n es)->∃es',σ[l]?=aa (aR.buf E k n es'):=by
  intro l E k n es he;obtain⟨B,hB,m⟩:=get l _ he;by_cases p:∃E k n es,B=aR.vec E k n es
  .obtain⟨E1,k1,n1,EN,rfl⟩:=p;obtain⟨es',f,_⟩:=m.1 _ _ _ _ rfl;cases f
  .rcases(m.2 (λE k n es e=>p ⟨E,k,n,es,e⟩)).2 with rfl|⟨E,cs,F,rfl,h,_⟩|⟨E,k,n,es,es',rfl,h,_⟩
   .grind
   .cases h
   grind
 have y:∀(l:Nat) E k n es,σ'[l]?=aa (aR.vec E k n es)->∃es',σ[l]?=aa (aR.vec E k n es'):=by
  intro l E k n es he;obtain⟨B,hB,m⟩:=get l _ he;by_cases p:∃E k n es,B=aR.vec E k n es
  .obtain⟨E1,k1,n1,EN,rfl⟩:=p;obtain⟨es',f,_⟩:=m.1 _ _ _ _ rfl;grind
  .exact absurd rfl ((m.2 (λE k n es e=>p ⟨E,k,n,es,e⟩)).1 E k n es)
 have Q:∀(v:ah) (a:A),gB σ s v a->gB σ' s v a:=by
  intro v a r;cases a with
  |c x=>exact r
  |ptr l o=>exact⟨i l r.1,r.2⟩
  |vec l k n es =>
   refine⟨r.1,by rw[W];exact r.2.1,λE k' n' es' he=>?_⟩;obtain⟨Aa,g⟩:=y l E k' n' es' he;exact r.2.2 E k' n' Aa g
  |ref l=>exact⟨i l r.1,r.2⟩
  |bp l w =>
   obtain⟨lv,r1,r2,r3⟩:=r;refine⟨lv,r1,by grind,λE k' n' es' he=>?_⟩;grind
  |any=>exact r
 have C:∀(vs:List ah) (cs:List A),ei σ s vs cs->ei σ' s vs cs:=by
  intro vs;induction vs with
  |nil=>intro cs r;cases cs with|nil=>trivial|cons _ _=>exact r.elim
  |cons v vs ih=>intro cs r;cases cs with|nil=>exact r.elim|cons c cs=>exact⟨Q _ _ r.1,ih _ r.2⟩
 have M:∀(v:ah) (e:E1),nB σ s v e->nB σ' s v e:=by
  intro v e r;cases e with
  |one a=>exact Q _ _ r
  |agg cs=>obtain⟨vs,f,g⟩:=r;exact⟨vs,f,C _ _ g⟩
 have R:∀(vs:List ah) (cs:List E1),hY σ s vs cs->hY σ' s vs cs:=by
  intro vs;induction vs with
  |nil=>intro cs r;cases cs with|nil=>trivial|cons _ _=>exact r.elim
  |cons v vs ih=>intro cs r;cases cs with|nil=>exact r.elim|cons c cs=>exact⟨M _ _ r.1,ih _ r.2⟩
 have O:∀(v:ah) (d:D),dt σ s v d->dt σ' s v d:=by
  intro v d r;cases d with
  |e x=>exact M _ _ r
  |fa xs=>obtain⟨vs,f,g⟩:=r;exact⟨vs,f,R _ _ g⟩
  |any=>trivial
 refine⟨⟨I.mem,by rw[I.len,W],?_,I.eO,I.lt,I.own⟩,⟨bc _,λ_ _ _=>rfl,λ_ _ _ h=>h,λ_ _ _ _=>rfl,λL h b j=>.inr ⟨L,h,j⟩,?_,rfl,rfl,rfl,rfl⟩,O⟩
 .intro l B' L z T;obtain⟨B,hB,m⟩:=get l B' z;have j:=I.box l B L hB T;by_cases p:∃E k n es,B=aR.vec E k n es
  .obtain⟨E,k,n,es,rfl⟩:=p;obtain⟨es',rfl,he⟩:=m.1 _ _ _ _ rfl;refine⟨j.1.Eh he,?_⟩;rcases j.2 with⟨f,g⟩|f
   .exact .inl ⟨f,g.Eh he⟩
   grind
  .rcases(m.2 (λE k n es e=>p ⟨E,k,n,es,e⟩)).2 with rfl|⟨E,cs,F,rfl,rfl,S⟩|⟨E,k,n,es,es',rfl,rfl,S⟩
   .cases B with
    |cells E cs=>obtain⟨b,vs,f,g,G,u⟩:=j;exact⟨b,vs,f,g,C _ _ G,u⟩
    |vec E k n es=>grind
    |cm H=>exact j
    |dead=>trivial
    |loop N φ r=>obtain⟨l,tmps,fn,df,f,g,G,u,V⟩:=j;exact⟨l,tmps,fn,df,f,g,G,λt=>O _ _ (u t),V⟩
    |qX=>exact j
    |buf E k n es=>exact j
   .obtain⟨b,vs,f,g,G,u⟩:=j;exact⟨b,vs,f,g,C _ _ (S _ _ _ G),u⟩
   .rcases j with j|⟨b,c0,vs,zs,f,g,G,u,V,Y,h7⟩
    .exact .inl j
    .exact .inr ⟨b,c0,vs,zs,f,g,G,u,V,Y.Eh S,h7⟩
 .intro l B L hB T;obtain⟨B',z,m⟩:=J l B hB;refine⟨B',L,z,T,?_⟩;by_cases p:∃E k n es,B=aR.vec E k n es
  .obtain⟨E,k,n,es,rfl⟩:=p;obtain⟨es',rfl,he⟩:=m.1 _ _ _ _ rfl;exact⟨λ_=>rfl,bc _⟩
  .rcases(m.2 (λE k n es e=>p ⟨E,k,n,es,e⟩)).2 with rfl|⟨E,cs,F,rfl,rfl,S⟩|⟨E,k,n,es,es',rfl,rfl,_⟩
   .exact gI.refl _ _
   .exact rfl
   .exact⟨λ_=>rfl,bc _⟩
section
variable {P:ar}{X:Cx P}{N:Nat}{Qf:Post}{K:List It}{φ:Fr}{σ:List aR}{c:Code}
theorem AW.ghost{Q:Post}{φ':Fr}{σ':List aR}(h:∀s a,cu N σ s φ a->aF σ s->∃s':St,s'.w=s.w/\cu N σ' s' φ' a/\aF σ' s'/\Step σ s σ' s')(k:AW X N c Q φ' σ'):AW X N c Q φ σ:=by intro s a n hh b kk cs S j o;obtain⟨s',m,g,d,st⟩:=h s a n hh;have f:=st.nD hh;refine .ghost (.of hh d m f) ?_;exact k s' a g d b kk cs S j λe i σ2 s2 a2 q l h2 mI=>o e i σ2 s2 a2 q l h2 (f.trans mI)
theorem AK.ghost{φ':Fr}{σ':List aR}(h:∀s a,cu N σ s φ a->aF σ s->∃s':St,s'.w=s.w/\cu N σ' s' φ' a/\aF σ' s'/\Step σ s σ' s')(k:AK X N Qf (.code c::K) .normal φ' σ'):AK X N Qf (.code c::K) .normal φ σ :=
 AW.ghost h k
def cu.bs{σ':List aR}{s:St}{a:Act}(b:EK σ σ')(f:cu N σ s φ a)(hh:aF σ s):cu N σ' s φ a:=⟨f.size,f.defers.imp λ_ h1=>h1.mono (b s hh).2.1.ext,λt=>(b s hh).2.2 _ _ (f.slot t)⟩
def AK.norm(σ':List aR){ps:List Prop}(h:pg σ σ'=aa ps)(b:az ps)(k:AK X N Qf (.code c::K) .normal φ σ'):AK X N Qf (.code c::K) .normal φ σ :=
 AK.ghost (λs a d hh=>⟨s,rfl,d.bs (gD h b) hh,(gD h b s hh).1,(gD h b s hh).2.1⟩) k
def AK.iM(t:Nat)(E:aj)(k:Nat){k' n:Nat}{es:Nat->List C}(j:look φ t=.e (.one (.c (.sl ab k' n es))))(f:n=0)(kk:AK X N Qf (.code c::K) .normal ((t,.e (.one (.vec σ.length k n es)))::φ) (σ++[.vec E k n es])):AK X N Qf (.code c::K) .normal φ σ:=by
 refine AK.ghost (λs a b hh=>?_) kk;have g:=b.slot t;rw[j]at g;have h1:=Rd.vH (k:=k') (k':=k) (.inr f) (e9 g);have hB:eE (σ++[.vec E k n es]) {s with β:=s.β++[⟨a.tmps.getD t ai,[]⟩]} (.vec E k n es) ⟨a.tmps.getD t ai,[]⟩:=⟨h1.loose,.inl ⟨⟨rfl,f⟩,h1⟩⟩;obtain⟨i,d⟩:=hh.ik (.refl _ _) rfl hh hB (by simp)
 refine⟨{s with β:=s.β++[⟨a.tmps.getD t ai,[]⟩]},rfl,⟨b.size,b.defers.imp λ_ h1=>h1.mono d.ext,λu=>?_⟩,i,d⟩;simp only[look];cases h:aB t u with
 |false=>exact(b.slot u).mono d.ext hh.len
 |true =>
  have e:=bX h;subst e;exact qv (L:=⟨a.tmps.getD t ai,[]⟩) (by simp) (by simp[<-hh.len]) hB
def AK.kg{S:Type}(I:S->Prop)(fr:S->Fr)(st:S->List aR)(j:S->Nat)(x:S){ps qs:List Prop}(k:nU φ (fr x)=aa ps)(C:az ps)(p:pg σ (st x)=aa qs)(A:az qs)(G:I x)(round:∀x,I x->AK X N (λe φ' σ'=>match e with
   |.normal=>∃y,I y/\j y<j x/\oA φ' (fr y)/\EK σ' (st y)
   |e=>AK X N Qf K e φ' σ') [.code c] .normal (fr x) (st x)):AK X N Qf (.code (.loop c)::K) .normal φ σ:=by
 intro s a B hh b kk cs SS hb hQ;have g:=gD p A;obtain⟨m,r,_⟩:=g s hh;refine sZ (λn a' s'=>∃y,I y/\cu N (st y) s' (fr y) a'/\aF (st y) s'/\cY σ s (st y) s'/\j y=n) ?_ ?_ ⟨x,G,(B.le (cD k C)).bs g hh,m,r.nD hh,rfl⟩
 .rintro n a' s' ⟨y,o,v,i,d,e⟩;exact⟨st y,i,λH h1=>⟨y,o,v.rely h1 i,i.rely h1,d.trans h1.stepW,e⟩⟩
 rintro n a' s' ⟨y,o,v,i,d,rfl⟩ D;refine round y o s' a' v i b (.inLoop c::kk) cs SS hb ?_;intro e E σ2 s2 a2 q w h2 mI;cases e with
 |normal =>
  obtain⟨z,F,l,f,h⟩:=q;obtain⟨t,u,_⟩:=h s2 h2;exact D a2 s2 (j z) l ⟨z,F,(w.le f).bs h h2,t,d.trans (mI.trans (u.nD h2)),rfl⟩
 |_=>exact ends.cons (λ_ _=>rfl) (by simp) (hQ _ _ _ _ _ q w h2 (d.trans mI))
def AK.gb{S:Type}{I:S->Prop}{fr:S->Fr}{st:S->List aR}{a:S->Nat}{x:S}{Qr:Post}(y:S){ps qs:List Prop}(d:nU φ (fr y)=aa ps)(g:az ps)(f:pg σ (st y)=aa qs)(i:az qs)(h:I y)(b:a y<a x):
  AK X N (λe φ' σ'=>match e with
   |.normal=>∃y,I y/\a y<a x/\oA φ' (fr y)/\EK σ' (st y)
   |e=>Qr e φ' σ') [] .normal φ σ:=⟨y,h,b,cD d g,gD f i⟩
end
def Ev.forget{P:ar}{X:Cx P}{f:aJ}{args:List D}{res ub:D}{σ':List aR}(h:Ev X f args [] res σ'){ps:List Prop}(g:Ed res ub=aa ps)(j:az ps)(a:wC 0 ub=ab):Ev X f args [] ub []:=by
 refine⟨h.1,λs vs hr hh S cs hS=>h.2 s vs hr hh S cs λfr v e hl hv h1 st=>?_⟩
 have m:s.β=[]:=jv hh.len;have k:eF e {e with β:=[]}:=⟨rfl,λ_ _ _ h=>h,λ_ _ _=>rfl,h1.mem,λb i=>.inl (by grind)⟩
 refine .ghost k (hS fr v {e with β:=[]} (hl.mono λ_ _ _ h=>h) ?_ ⟨h1.mem,rfl,by simp,by simp,by simp,λb i=>⟨(h1.own b i).1,by simp⟩⟩ ⟨st.size,st.fy,st.mem,st.je,by simp,λl B L hB=>by grind,st.os,st.tape,st.output,st.own⟩)
 .have h2:=oC g j hv;have:=dt.sub (ks:=[]) (σ:=σ') (σ':=[]) (s:=e) (β':=[]) (d:=ub) rfl rfl (by rw[CC a];exact h2) a;exact this
section drop
variable {σ1 rest:List aR}{s:St}
def Vy(n:Nat):aR->Bool
 |.cells _ cs=>Gs n cs
 |.loop ..=>ae
 |_=>ab
def sJ(n:Nat):List aR->Bool
 |[]=>ab
 |a::r=>match Vy n a with|true=>sJ n r|false=>ae
def CE{n:Nat}:∀{l:List aR},sJ n l=ab->∀B∈l,Vy n B=ab
 |[],_,B,hB=>by grind
 |b::r,h,B,hB=>by
  simp only[sJ]at h;cases a:Vy n b with
  |false=>grind
  |true =>
   simp only[a]at h;rcases eB.1 hB with rfl|hB
   .exact a
   .exact CE h B hB
def eE.uR{B:aR}{L:Loc}(a:Vy σ1.length B=ab)(h:eE (σ1++rest) s B L):eE σ1 (s.cut σ1.length) B L:=by
 cases B with
 |cells E cs =>
  obtain⟨b,vs,h1,h2,e,d⟩:=h;exact⟨b,vs,h1,h2,ei.sO e a,d⟩
 |vec E k n es=>exact h
 |cm H=>exact h
 |dead=>trivial
 |loop N φ r=>simp[Vy]at a
 |qX=>exact h
 |buf E k n es=>exact h
def aF.drop(h:aF (σ1++rest) s)(i:sJ σ1.length σ1=ab):aF σ1 (s.cut σ1.length):=by
 have hl:σ1.length<=s.β.length:=by rw[h.len];simp
 refine⟨h.mem,by simp[St.cut,hl],?_,?_,?_,λb e=>⟨(h.own b e).1,λL a=>(h.own b e).2 L (fM a)⟩⟩
 .intro l B L hB a;have f:l<σ1.length:=(b6.1 hB).1;simp only[St.cut,iX,f,cq]at a;exact eE.uR (rest:=rest) (CE i B (bP hB)) (h.box l B L (by grind) a)
 .intro l l' L L' a d b e g;simp only[St.cut,iX]at a d;split at a<;>split at d<;>first|exact h.eO l l' L L' a d b e g|grind|grind
 .intro L a b e;exact h.lt L (fM a) b e
def pd.drop(a:lM rest=ab):∀{ds:List Deferred}{ls:List Nat},pd (σ1++rest) s ds ls->pd σ1 (s.cut σ1.length) ds ls
 |[],[],_=>trivial
 |[],_::_,r=>r.elim
 |_::_,[],r=>r.elim
 |d::ds,l::ls,⟨⟨h1,L,r,h2,f⟩,b,e⟩=>by
  have hl:l<σ1.length:=by
   rcases cM l σ1.length with h|h
   .exact h
   .rw[gk h]at h1;exact absurd rfl (nO a _ (bP h1))
  rw[jy hl]at h1;exact⟨⟨h1,L,r,by simp only[St.cut,iX,hl,cq];exact h2,f⟩,b,pd.drop a e⟩
def xf(n:Nat)(σ:List aR):Bool:=match bA n σ.length with|true=>lM (σ.drop n)|false=>ae
theorem qG{n:Nat}{σ:List aR}(h:xf n σ=ab):bA n σ.length=ab/\lM (σ.drop n)=ab:=by unfold xf at h;grind
end drop
def CF(n:Nat):Fr->Bool
 |[]=>ab
 |(_,d)::r=>match wC n d with|true=>CF n r|false=>ae
def nV{n:Nat}:∀{φ:Fr}{t:Nat},CF n φ=ab->wC n (look φ t)=ab
 |[],t,_=>rfl
 |(u,d)::r,t,h=>by
  simp only[CF]at h;cases a:wC n d with
  |false=>grind
  |true =>
   simp only[a]at h;simp only[look];cases aB u t with
   |true=>exact a
   |false=>exact nV h
section
variable {P:ar}{X:Cx P}{N:Nat}{Qf:Post}{K:List It}{φ:Fr}{σ:List aR}{c:Code}
def lF{S:Type}{P:ar}(X:Cx P)(N:Nat)(Qf:Post)(K:List It)(I:S->Prop)(b:S->Fr)(st:S->List aR)(a:S->Nat)(n:Nat)(x:S):Post:=λe φ' σ'=>match e with
 |.normal=>∃y,I y/\a y<a x/\oA φ' (b y)/\CF n (b y)=ab/\∃σ1 rest,σ'=σ1++rest/\σ1.length=n/\(sJ n σ1=ab/\lM rest=ab)/\EK σ1 (st y)
 |e=>AK X N Qf K e φ' σ'
def AK.cE{S:Type}(n:Nat)(I:S->Prop)(fr:S->Fr)(st:S->List aR)(k:S->Nat)(x:S){ps qs:List Prop}(l:nU φ (fr x)=aa ps)(O:az ps)(v:pg σ (st x)=aa qs)(J:az qs)(hn:σ.length=n)(Z:I x)(round:∀x,I x->AK X N (lF X N Qf K I fr st k n x) [.code c] .normal (fr x) (st x)):AK X N Qf (.code (.loop c)::K) .normal φ σ:=by
 intro s a M hh b kk cs SS hb hQ;have i:=gD v J;obtain⟨p,w,_⟩:=i s hh;refine sZ (λm a' s'=>∃y,I y/\cu N (st y) s' (fr y) a'/\aF (st y) s'/\cY σ s (st y) s'/\k y=m) ?_ ?_ ⟨x,Z,(M.le (cD l O)).bs i hh,p,w.nD hh,rfl⟩
 .rintro n a' s' ⟨y,r,C,j,d,e⟩;exact⟨st y,j,λs1 h1=>⟨y,r,C.rely h1 j,j.rely h1,d.trans h1.stepW,e⟩⟩
 rintro m a' s' ⟨y,r,C,j,d,rfl⟩ U;refine round y r s' a' C j b (.inLoop c::kk) cs SS hb ?_;intro e W σ2 s2 a2 q F h2 mI;cases e with
 |normal =>
  obtain⟨z,Y,o,f,Q,σ1,rest,rfl,R,⟨V,E⟩,D⟩:=q;have G:=h2.drop (by grind);obtain⟨B,g,A⟩:=D _ G;have u:=F.le f;have T:eF s2 (s2.cut σ1.length):=⟨rfl,λ_ _ _ h=>h,λ_ _ _=>rfl,h2.mem,λb hb=>hb.imp id λ⟨L,H,hb⟩=>⟨L,fM H,hb⟩⟩
  refine .ghost T (U a2 (s2.cut σ1.length) (k z) o ⟨z,Y,⟨u.size,u.defers.imp λ_ h1=>(h1.drop E).mono g.ext,λt=>A _ _ ((u.slot t).drop (nV (by grind)))⟩,B,?_,rfl⟩);exact((d.trans mI).drop (by omega)).trans (g.nD G)
 |_=>exact ends.cons (λ_ _=>rfl) (by simp) (hQ _ _ _ _ _ q F h2 (d.trans mI))
def AK.Ss{S:Type}{n:Nat}{I:S->Prop}{fr:S->Fr}{st:S->List aR}{a:S->Nat}{x:S}{k:List It}(y:S){ps qs:List Prop}(d:nU φ (fr y)=aa ps)(i:az ps)(e:CF n (fr y)=ab)(f:xf n σ=ab)(h:pg (σ.take n) (st y)=aa qs)(l:az qs)(g:sJ n (σ.take n)=ab)(j:I y)(b:a y<a x):
  AK X N (lF X N Qf k I fr st a n x) [] .normal φ σ :=
 ⟨y,j,b,cD d i,e,σ.take n,σ.drop n,(jz n σ).symm,by grind[Nat.le_of_ble_eq_true,qG],⟨g,(qG f).2⟩,gD h l⟩
def AK.aQ{S:Type}{n:Nat}{I:S->Prop}{fr:S->Fr}{st:S->List aR}{a:S->Nat}{x:S}{g:List It}(y:S){ps qs:List Prop}(h:(nU φ (fr y),CF n (fr y),xf n σ,pg (σ.take n) (st y),sJ n (σ.take n))=(aa ps,ab,ab,aa qs,ab))(d:az ps)(f:az qs)(e:I y)(b:a y<a x):
  AK X N (lF X N Qf g I fr st a n x) [] .normal φ σ:=by simp only[l9]at h;exact AK.Ss y h.1 d h.2.1 h.2.2.1 h.2.2.2.1 f h.2.2.2.2 e b
def AK.leaveD{S:Type}{n:Nat}{I:S->Prop}{fr:S->Fr}{st:S->List aR}{b:S->Nat}{x:S}{id:Nat}{d a f:List It}(h1:j9 id d=af)(h2:j9 id a=aa f)(k:AK X N Qf f .normal φ σ):
  AK X N (lF X N Qf a I fr st b n x) (.code (.exit id)::d) .normal φ σ :=
 AW.mono (AK.leave (A:=λφ' σ'=>lF X N Qf a I fr st b n x .normal φ' σ') h1 h2 k) λe φ' σ' q=>by
  have key:∀(K:List It) e,AK X N (λe φ' σ'=>match e with
    |.normal=>lF X N Qf a I fr st b n x .normal φ' σ'
    |e=>AK X N Qf a e φ' σ') K e φ' σ'->AK X N (lF X N Qf a I fr st b n x) K e φ' σ':=by
   have e:(λe φ' σ'=>match e with
    |.normal=>lF X N Qf a I fr st b n x .normal φ' σ'
    |e=>AK X N Qf a e φ' σ')=lF X N Qf a I fr st b n x:=by funext e φ' σ';cases e<;>rfl
   grind
  exact key _ _ q
def AK.fQ{S:Type}{n:Nat}{I:S->Prop}{fr:S->Fr}{st:S->List aR}{b:S->Nat}{x:S}{a d:List It}(k:Qf .ret φ σ):AK X N (lF X N Qf d I fr st b n x) (.code .ret::a) .normal φ σ :=
 AK.ret (AK.sY (Qf:=Qf) k)
theorem cu.freeze(t l:Nat){E:aj}{cs:List A}{cc:List C}(F:look φ t=.e (.one (.ptr l 0)))(hl:dC l σ=aa (.cells E cs))(G:gM cs=aa cc){s:St}{a:Act}(i:cu N σ s φ a)(hh:aF σ s):∃s':St,s'.w=s.w/\cu N (σ.set l .dead) s' ((t,.e (.one (.c (.rp cc))))::φ) a/\aF (σ.set l .dead) s'/\Step σ s (σ.set l .dead) s':=by
 have hB:=b9 hl;have m:l<σ.length:=(b6.1 hB).1;have q:=i.slot t;rw[F]at q;obtain⟨_,L,b,k,f,D⟩:=q;obtain⟨g,vs,h1,h2,H,I⟩:=hh.box l _ L hB k;subst h1;simp at f;subst f;let s':St:={s with M:=λp o=>if p=g then vs[o]? else s.M p o}
 have st:Step σ s (σ.set l .dead) s':=by
  refine⟨bc _,λ_ _ _=>rfl,?_,?_,λL h b d=>.inr ⟨L,h,d⟩,?_,rfl,rfl,rfl,rfl⟩
  .grind
  .intro b d z o;have n:b≠g:=λe=>z _ (bP k) (by simp[e]);grind
  .intro l' B L' kv fA;by_cases e:l=l'
   .subst e;rw[hB]at kv;cases kv;exact⟨.dead,L',by grind,fA,rfl⟩
   .exact⟨B,L',by grind,fA,.refl _ _⟩
 refine⟨s',rfl,⟨i.size,i.defers.imp λ_ h1=>h1.mono st.ext,λu=>?_⟩,⟨?_,by simp[hh.len,s'],?_,hh.eO,hh.lt,hh.own⟩,st⟩
 .simp only[look];cases d:aB t u with
  |false=>exact(i.slot u).mono st.ext hh.len
  |true =>
   have e:=bX d;subst e;rw[D];have r:=l6 G H;refine Rd.rp g 0 (λj=>(vs[j]?).getD ai) ?_ ?_
   .intro j c hj;obtain⟨v,x,_⟩:=r.get (j:=j) (a:=.c c) (by grind);grind
   .intro j c hj;obtain⟨v,x,p2⟩:=r.get (j:=j) (a:=.c c) (by grind);simp only[x,ij];exact Rd.mono st.mem p2
 .intro b o v J;by_cases e:b=g
  .subst e;have hm':vs[o]?=aa v:=by grind
   show s.w.cell? _=_;simp[aV,h2,hm']
  .exact hh.mem b o v (by grind)
 .intro l' B L' kv fA;by_cases e:l=l'
  .subst e;rw[gn m]at kv;cases kv;trivial
  .rw[kC e]at kv;refine(hh.box l' B L' kv fA).carry st.ext hh.len λb d=>⟨rfl,λo=>?_⟩
   have n:b≠g:=λy=>e (hh.eO l l' _ L' k fA b (by grind) d);grind
theorem AK.freeze(t l:Nat){E:aj}{cs:List A}{cc:List C}(b:look φ t=.e (.one (.ptr l 0)))(hl:dC l σ=aa (.cells E cs))(a:gM cs=aa cc)(kk:AK X N Qf (.code c::K) .normal ((t,.e (.one (.c (.rp cc))))::φ) (dW.qU l .dead σ)):AK X N Qf (.code c::K) .normal φ σ:=by grind[jq,AK.ghost,cu.freeze]
def AK.one{all rest:List au}{o:au}{x:D}{σ':List aR}(h:OA X N all o φ σ x σ')(a:gg N o.dst=ab)(k:AK X N Qf (.ops all rest::K) .normal (kH o.dst x φ) σ'):AK X N Qf (.ops all (o::rest)::K) .normal φ σ :=
 iw.AH h (gK a) k
end
def aF.jM{σ:List aR}{s:St}(h:aF σ s){l:Nat}{H H':ah->(Nat->Option Obj)->Prop}{L L':Loc}(hB:σ[l]?=aa (.cm H))(t:s.β[l]?=aa L){w':aA}(F:L'.v=L.v)(p:s.w.heap.size<=w'.heap.size)(hk:∀b,b<s.w.heap.size->b∉L.bs->w'.heap[b]?=s.w.heap[b]?)(k:∀b∈L'.bs,b∈L.bs∨(s.w.heap.size<=b/\b<w'.heap.size))(z:∃ch,H' L'.v ch/\(∀(b:Nat) (o:Obj),ch b=aa o->w'.heap[b]?=aa o)/\(∀b,b∈L'.bs↔(ch b).isSome=ab))(K:w'.os=s.w.os)(J:w'.tape=s.w.tape)(D:w'.output=s.w.output):
  aF (σ.set l (.cm H')) ⟨s.β.set l L',s.M,w',s.own⟩/\Step σ s (σ.set l (.cm H')) ⟨s.β.set l L',s.M,w',s.own⟩:=by
 have y:l<σ.length:=(b6.1 hB).1;have x:l<s.β.length:=by grind
 obtain⟨G,_,_,_,O⟩:=h.box l _ L hB t;have n:∀b∈L'.bs,∀o,s.M b o=af:=by
  intro b j o;rcases k b j with h1|⟨h1,_⟩
  .grind
  .cases u:s.M b o with
   |none=>rfl
   |some v=>have:=h.block u;omega
 have st:Step σ s (σ.set l (.cm H')) ⟨s.β.set l L',s.M,w',s.own⟩:=by
  refine⟨p,?_,λ_ _ _ h=>h,λ_ _ _ _=>rfl,?_,?_,K,J,D,rfl⟩
  .grind
  .grind
  .intro l' B a c f;by_cases e:l=l'
   .subst e;rw[hB]at c;cases c;rw[t]at f;cases f;exact⟨.cm H',L',by grind,by grind,F⟩
   .exact⟨B,a,by grind,by grind,.refl _ _⟩
 have g:∀(l':Nat) (a:Loc),(s.β.set l L')[l']?=aa a->(l'=l/\a=L')∨(l≠l'/\s.β[l']?=aa a):=by grind
 refine⟨⟨?_,by simp[h.len],?_,?_,?_,?_⟩,st⟩
 .intro b o v u;have C:=h.block u;have I:b∉L.bs:=λm=>by grind
  rw[<-h.mem b o v u];simp only[aV];grind
 .intro l' B a c f;rcases g l' a f with⟨rfl,rfl⟩|⟨e,h2⟩
  .rw[gn y]at c;cases c;obtain⟨ch,k1,E,A⟩:=z;exact⟨ch,k1,E,A,n⟩
  .rw[kC e]at c;refine(h.box l' B a c h2).carry st.ext h.len λb j=>⟨hk b (h.lt a (bP h2) b j) λm=>e (h.eO l l' L a t h2 b m j),λ_=>rfl⟩
 .intro N P L1 a h1 h2 b i d;rcases g N L1 h1 with⟨rfl,rfl⟩|⟨e1,r⟩<;>rcases g P a h2 with⟨rfl,rfl⟩|⟨e2,q⟩
  .rfl
  .rcases k b i with m|m
   .exact h.eO _ _ L a t q b m d
   .have:=h.lt a (bP q) b d;omega
  .rcases k b d with m|m
   .exact h.eO _ _ L1 L r t b i m
   .have:=h.lt L1 (bP r) b i;omega
  .exact h.eO _ _ L1 a r q b i d
 .intro a f b d;rcases List.mem_or_eq_of_mem_set f with h1|h1
  .exact c7 (h.lt a h1 b d) p
  .subst h1;rcases k b d with h2|h2
   .exact c7 (h.lt L (bP t) b h2) p
   grind
 .intro b z;obtain⟨Q,R⟩:=h.own b z;grind
section
variable {H H':ah->(Nat->Option Obj)->Prop}{s:St}
end
def cw.pM{fn:Func}{a:Nat}{res:D}{σ':List aR}{φ:Fr}{σ:List aR}(ks:List Nat){ps:List Prop}(h:Ao fn.results.toList ks φ res=aa ps)(e:az ps)(d:j3 ks σ=aa σ')(b:kJ σ'=ab)(c:dH ks=ab)(hk:∀j,j<a->ks[j]?=aa j):
  cw fn a res σ' .normal φ σ:=by refine⟨.inr rfl,ks,?_⟩;unfold Ao at h;grind
def AK.RS{P:ar}{X:Cx P}{N:Nat}{Qf:Post}{K:List It}{φ:Fr}{σ:List aR}{all rest:List au}{o:au}{m:aq}{xs:Array aq}{d:Array aj}{f:aJ}{cap:List C}{a:List D}{c σ1:List aR}{res:D}(g:Ev X f a c res σ1)(ks:List Nat)(l:o.guard=af)(s:o.op=.call {callee:=.value m,args:=xs,argTypes:=d})(r:eQ (bU φ m)=aa (f,cap))(b:mR (xs.toList.map (bU φ)++fP cap)=fU ks a)(i:lE ks.length a=ab)(h:j3 ks σ=aa c)(p:cx c=ab)(e:cx σ1=ab)(n:dH ks=ab)(j:bA ks.length σ1.length=ab)(q:gg N o.dst=ab)(k:AK X N Qf (.ops all rest::K) .normal (kH o.dst (iu (ks++k9 σ.length (σ1.length-ks.length)) res) φ) (dW ks σ1 σ)):AK X N Qf (.ops all (o::rest)::K) .normal φ σ :=
 iw.call (λ_ _ _ _=>dK l) s r ks g b i h p e n (db j) o.dst rfl (gK q) k
def AK.qz{P:ar}{ι:Type}{X:Cx P}{N:Nat}{Qf:Post}{K:List It}{φ:Fr}{σ:List aR}{all rest:List au}{o:au}{n:aq}{xs:Array aq}{d:Array aj}{f:aJ}{cap:List C}{a:List D}{c:List aR}{σ1:ι->List aR}{res:ι->D}(g:ef X f a c res σ1)(ks:List Nat)(m:o.guard=af)(t:o.op=.call {callee:=.value n,args:=xs,argTypes:=d})(s:eQ (bU φ n)=aa (f,cap))(b:mR (xs.toList.map (bU φ)++fP cap)=fU ks a)(i:lE ks.length a=ab)(h:j3 ks σ=aa c)(q:cx c=ab)(e:∀j,cx (σ1 j)=ab)(p:dH ks=ab)(l:∀j,bA ks.length (σ1 j).length=ab)(r:gg N o.dst=ab)(k:∀j,AK X N Qf (.ops all rest::K) .normal (kH o.dst (iu (ks++k9 σ.length ((σ1 j).length-ks.length)) (res j)) φ) (dW ks (σ1 j) σ)):AK X N Qf (.ops all (o::rest)::K) .normal φ σ :=
 iw.Qw (λ_ _ _ _=>dK m) t s ks g b i h q e p (λj=>db (l j)) o.dst rfl (gK r) k
def AK.cQ{P:ar}{X:Cx P}{N:Nat}{Qf:Post}{K:List It}{φ:Fr}{σ:List aR}{all rest:List au}{o:au}{s:aq}{xs:Array aq}{q:Array aj}{f:aJ}{cap:List C}{n:List D}{p σ1:List aR}{res:D}(r:Ev X f n p res σ1)(ks:List Nat)(h:(o.guard,o.op,eQ (bU φ s),mR (xs.toList.map (bU φ)++fP cap),lE ks.length n,j3 ks σ,cx p,cx σ1,dH ks,bA ks.length σ1.length,gg N o.dst)=(af,.call {callee:=.value s,args:=xs,argTypes:=q},aa (f,cap),fU ks n,ab,aa p,ab,ab,ab,ab,ab))(k:AK X N Qf (.ops all rest::K) .normal (kH o.dst (iu (ks++k9 σ.length (σ1.length-ks.length)) res) φ) (dW ks σ1 σ)):AK X N Qf (.ops all (o::rest)::K) .normal φ σ:=by simp only[l9]at h;obtain⟨a,b,c,d,e,f,g,i,j,l,m⟩:=h;exact AK.RS r ks a b c d e f g i j l m k
def AK.cP{P:ar}{ι:Type}{X:Cx P}{N:Nat}{Qf:Post}{K:List It}{φ:Fr}{σ:List aR}{all rest:List au}{o:au}{r:aq}{xs:Array aq}{n:Array aj}{f:aJ}{cap:List C}{i:List D}{l:List aR}{σ1:ι->List aR}{res:ι->D}(p:ef X f i l res σ1)(ks:List Nat)(h:(o.guard,o.op,eQ (bU φ r),mR (xs.toList.map (bU φ)++fP cap),lE ks.length i,j3 ks σ,cx l,dH ks,gg N o.dst)=(af,.call {callee:=.value r,args:=xs,argTypes:=n},aa (f,cap),fU ks i,ab,aa l,ab,ab,ab))(q:∀j,(cx (σ1 j),bA ks.length (σ1 j).length)=(ab,ab))(k:∀j,AK X N Qf (.ops all rest::K) .normal (kH o.dst (iu (ks++k9 σ.length ((σ1 j).length-ks.length)) (res j)) φ) (dW ks (σ1 j) σ)):AK X N Qf (.ops all (o::rest)::K) .normal φ σ:=by simp only[l9]at h q;obtain⟨a,b,c,d,e,f,g,j,m⟩:=h;exact AK.qz p ks a b c d e f g (λj=>(q j).1) j (λj=>(q j).2) m k
def wG:List D->List D->Option (List Prop)
 |[],[]=>aa []
 |a::al,b::bs=>match Ed a b with
  |some p=>match wG al bs with
   |some q=>aa (la p q)
   |none=>af
  |none=>af
 |_,_=>af
def vO{σ:List aR}{s:St}:∀{vs:List ah}{xs ys:List D}{ps:List Prop},wG xs ys=aa ps->az ps->cp σ s vs xs->cp σ s vs ys
 |[],[],[],_,_,_,_=>trivial
 |_::_,[],_,_,_,_,h=>h.elim
 |[],_::_,_,_,_,_,h=>h.elim
 |[],[],_::_,_,h,_,_=>by simp[wG]at h
 |_::_,_::_,[],_,h,_,_=>by simp[wG]at h
 |v::vs,a::al,b::bs,ps,h,c,f=>by
  simp only[wG]at h;cases e:Ed a b with
  |none=>grind
  |some p =>
   cases d:wG al bs with
   |none=>grind
   |some q =>
    simp[e,d]at h;subst h;rw[az.cat]at c;exact⟨oC e c.1 f.1,vO d c.2 f.2⟩
def AK.j4{P:ar}{ι:Type}{X:Cx P}{N:Nat}{Qf:Post}{K:List It}{φ:Fr}{σ:List aR}{all rest:List au}{o:au}{q:aq}{xs:Array aq}{d:Array aj}{f:aJ}{cap:List C}{a:List D}{c:List aR}{σ1:ι->List aR}{res:ι->D}(g:ef X f a c res σ1)(ks:List Nat)(p:o.guard=af)(w:o.op=.call {callee:=.value q,args:=xs,argTypes:=d})(v:eQ (bU φ q)=aa (f,cap)){ps:List Prop}(b:wG (xs.toList.map (bU φ)++fP cap) (fU ks a)=aa ps)(l:az ps)(m:lE ks.length a=ab)(i:j3 ks σ=aa c)(t:cx c=ab)(e:∀j,cx (σ1 j)=ab)(r:dH ks=ab)(n:∀j,bA ks.length (σ1 j).length=ab)(u:gg N o.dst=ab)(k:∀j,AK X N Qf (.ops all rest::K) .normal (kH o.dst (iu (ks++k9 σ.length ((σ1 j).length-ks.length)) (res j)) φ) (dW ks (σ1 j) σ)):AK X N Qf (.ops all (o::rest)::K) .normal φ σ :=
 iw.Cg (λ_ _ _ _=>dK p) w v ks g (λs vs h=>vO b l h) m i t e r (λj=>db (n j)) o.dst rfl (gK u) k
def Kv{a:Act}{d:Nat}{v:ah}(h:d<a.tmps.size):(a.put (aa d) v).tmps.getD d ai=v:=by simp[Act.put,dZ,wm h]
def me{P:ar}{f:aJ}{fn:Func}{e:Array ah->Sem ah}(g:P.funcs[f]?=aa fn)(a:(fn.name== "runtime.NumGoroutine")=ae)(j:fn.body.isNone=ab)(b:Extern.findNext fn=af)(i:Extern.find fn=aa e)(args:Array ah)(c:di P (e args))(w:aA)(es:Array Event):
  (callFunc f args).events P w es=es.push ⟨.mark (.extern f),ae,ab⟩:=by
 have d:fn.name≠ "runtime.NumGoroutine":=by grind
 have h:fn.body=af:=by simpa using j
 simp[callFunc,g,d,h,b,i];rw[c w]
section
variable {P:ar}{X:Cx P}{N:Nat}{Qf:Post}{K:List It}{φ:Fr}{σ:List aR}{all rest:List au}{o:au}
def ee(P:ar)(N:Nat)(o:au)(φ:Fr)(σ:List aR){ι:Type}(x:ι->D)(σ':ι->List aR):Prop :=
 ∀s a,cu N σ s φ a->aF σ s->∃i b s' v,(aw a.eval o).run P s.w=.ok b s'.w/\(b=.value v∨(b=.skip/\v=ai))/\dt (σ' i) s' v (x i)/\aF (σ' i) s'/\Step σ s (σ' i) s'/\fg s ((aw a.eval o).events P s.w #[])
def AK.hand{ι:Type}(x:ι->D)(σ':ι->List aR)(w:o.guard=af)(y:gg N o.dst=ab)(h:ee P N o φ σ x σ')(k:∀i,AK X N Qf (.ops all rest::K) .normal (kH o.dst (x i) φ) (σ' i)):AK X N Qf (.ops all (o::rest)::K) .normal φ σ:=by
 intro s a f hh b kk cs S idx hb jE hQ;cases idx with
 |nil=>exact jE.elim
 |cons j idx =>
 refine rJ hb jE.1 (dK w) λr d=>?_;have c:=hh.rely d;have l:=f.rely d hh;obtain⟨i,z,s',v,h1,h2,A,m,n,B⟩:=h r a l c;have e:=n.nD c;refine⟨z,s',v,h1,h2,⟨⟨σ,σ' i,c,m,n⟩,B⟩,?_⟩;refine k i s' _ ?_ m b kk cs S idx hb jE.2 λg σ2 s2 a2 q u h2 st=>hQ g σ2 s2 a2 q u h2 ((d.stepW.trans e).trans st);cases p:o.dst with
 |none=>exact l.mono e c.len
 |some t=>exact(l.mono e c.len).put (gK y t p) A
def AK.law{x:D}{σ':List aR}(h:bM P o (bU φ) σ x σ')(a:o.guard=af)(b:gg N o.dst=ab)(k:AK X N Qf (.ops all rest::K) .normal (kH o.dst x φ) σ'):AK X N Qf (.ops all (o::rest)::K) .normal φ σ :=
 AK.one (.kT (λ_ _ _ _=>dK a) h) b k
def q8(all:List au)(φ:Fr)(o:au):Bool:=match o.guard with
 |none=>ab
 |some (j,b)=>match Ax φ all j with
  |some (aa ab)=>b
  |some (aa ae)=>!b
  |_=>ae
def fD{all:List au}{o:au}{φ:Fr}(h:q8 all φ o=ab):∀σ s a,cu N σ s φ a->bg o (yielded all.toArray a.tmps)=ab:=by
 intro σ s a f;unfold q8 at h;split at h
 .grind [dK]
 .rename_i j b d;split at h
  .rename_i c;simp only[bg,d,qE c f,h];rfl
  .rename_i c;simp only[bg,d,qE c f];grind
  grind
def AK.OE{m:aq}{xs:Array aq}{d:Array aj}{f:aJ}{cap:List C}{a:List D}{c σ1:List aR}{res:D}(g:Ev X f a c res σ1)(ks:List Nat)(l:q8 all φ o=ab)(s:o.op=.call {callee:=.value m,args:=xs,argTypes:=d})(r:eQ (bU φ m)=aa (f,cap))(b:mR (xs.toList.map (bU φ)++fP cap)=fU ks a)(i:lE ks.length a=ab)(h:j3 ks σ=aa c)(p:cx c=ab)(e:cx σ1=ab)(n:dH ks=ab)(j:bA ks.length σ1.length=ab)(q:gg N o.dst=ab)(k:AK X N Qf (.ops all rest::K) .normal (kH o.dst (iu (ks++k9 σ.length (σ1.length-ks.length)) res) φ) (dW ks σ1 σ)):AK X N Qf (.ops all (o::rest)::K) .normal φ σ :=
 iw.call (fD l) s r ks g b i h p e n (db j) o.dst rfl (gK q) k
end
inductive nC where
 |nil (a:Option Addr)
 |row (b cap:Nat)
def lA(bf:nC)(n:Nat):ah:=match bf with
 |.nil a=>.slice a 0 0
 |.row b cap=>.slice (aa ⟨b,0,af⟩) n cap
def nI(bf:nC)(n:Nat):cN (lA bf n)=ab:=by cases bf<;>rfl
def N4(xs:List ah):Nat->List C:=λi=>[.val (xs.getD i ai)]
section
variable {P:ar}{X:Cx P}{N:Nat}{Qf:Post}{K:List It}{φ:Fr}{σ:List aR}{all rest:List au}{o:au}
def AW.tM{ι:Type}{c:Code}{Q:Post}{φ':ι->Fr}{σ':ι->List aR}(h:∀s a,cu N σ s φ a->aF σ s->∃(i:ι)(s':St),s'.w=s.w/\cu N (σ' i) s' (φ' i) a/\aF (σ' i) s'/\Step σ s (σ' i) s')(k:∀i,AW X N c Q (φ' i) (σ' i)):AW X N c Q φ σ:=by intro s a p hh b kk cs S l r;obtain⟨i,s',n,g,d,st⟩:=h s a p hh;have f:=st.nD hh;refine .ghost (.of hh d n f) ?_;exact k i s' a g d b kk cs S l λe j σ2 s2 a2 q m h2 mI=>r e j σ2 s2 a2 q m h2 (f.trans mI)
def AK.N5{ι:Type}(l:Nat){H:ah->(Nat->Option Obj)->Prop}(H':ι->ah->(Nat->Option Obj)->Prop){c:Code}(hl:σ[l]?=aa (.cm H))(h:∀v ch,H v ch->∃i,H' i v ch)(kk:∀i,AK X N Qf (.code c::K) .normal φ (σ.set l (.cm (H' i)))):AK X N Qf (.code c::K) .normal φ σ:=by
 refine AW.tM (φ':=λ_=>φ) (σ':=λi=>σ.set l (.cm (H' i))) (λs a m hh=>?_) kk;have f:l<σ.length:=(b6.1 hl).1;have g:l<s.β.length:=by rw[hh.len];grind
 have j:=br g;generalize s.β[l]=L at j;obtain⟨ch,q,d,n,k⟩:=hh.box l _ L hl j;obtain⟨i,hi⟩:=h _ _ q;have ex:Ext σ s (σ.set l (.cm (H' i))) s:=by
  refine⟨λ_ _ _ h=>h,λl' B L' kv fA=>?_⟩;by_cases e:l=l'
  .subst e;rw[hl]at kv;cases kv;exact⟨.cm (H' i),L',by grind,fA,rfl⟩
  .exact⟨B,L',by grind,fA,.refl _ _⟩
 have st:Step σ s (σ.set l (.cm (H' i))) s :=
  ⟨bc _,λ_ _ _=>rfl,λ_ _ _ h=>h,λ_ _ _ _=>rfl,λL h b p=>.inr ⟨L,h,p⟩,ex.box,rfl,rfl,rfl,rfl⟩
 refine⟨i,s,rfl,⟨m.size,m.defers.imp λ_ h1=>h1.mono st.ext,λu=>(m.slot u).mono st.ext hh.len⟩,⟨hh.mem,by simp[hh.len],?_,hh.eO,hh.lt,hh.own⟩,st⟩;intro l' B L' kv fA;by_cases e:l=l'
 .subst e;rw[gn f]at kv;cases kv;rw[j]at fA;cases fA;exact⟨ch,hi,d,n,k⟩
 .rw[kC e]at kv;exact(hh.box l' B L' kv fA).carry ex hh.len λ_ _=>⟨rfl,λ_=>rfl⟩
end
def vj:C->Bool
 |.int _ _|.bool _|.str _|.fz|.iI|.yw|.val _=>ab
 |_=>ae
def wx:A->Bool
 |.c x=>vj x
 |.any=>ab
 |_=>ae
def N1:List A->Bool
 |[]=>ab
 |a::r=>match wx a with|true=>N1 r|false=>ae
def JL:E1->Bool
 |.one a=>wx a
 |.agg cs=>N1 cs
def Gn:List E1->Bool
 |[]=>ab
 |a::r=>match JL a with|true=>Gn r|false=>ae
def N2:D->Bool
 |.e x=>JL x
 |.fa xs=>Gn xs
 |.any=>ab
section
variable {σ σ':List aR}{s s':St}
theorem qx{M M':Mem}{v:ah}{c:C}(h:vj c=ab)(r:Rd M v c):Rd M' v c:=by
 cases r<;>first|(simp[vj]at h;done)|skip
 case int h1=>exact .int h1
 case bool=>exact .bool
 case str h1 h2=>exact .str h1 h2
 case fz=>exact .fz
 case iI=>exact .iI
 case yw=>exact .yw
 case val h1=>exact .val h1
def Gp{v:ah}{a:A}(h:wx a=ab)(r:gB σ s v a):gB σ' s' v a:=by
 cases a with
 |c x=>exact qx h r
 |any=>exact r
 |_=>simp[wx]at h
def Gq:∀{vs:List ah}{cs:List A},N1 cs=ab->ei σ s vs cs->ei σ' s' vs cs
 |[],[],_,_=>trivial
 |[],_::_,_,r=>r.elim
 |_::_,[],_,r=>r.elim
 |v::vs,c::cs,h,r=>by
  simp only[N1]at h;cases a:wx c with
  |false=>grind
  |true=>simp only[a]at h;exact⟨Gp a r.1,Gq h r.2⟩
def Ag{v:ah}{x:E1}(h:JL x=ab)(r:nB σ s v x):nB σ' s' v x:=by
 cases x with
 |one a=>exact Gp h r
 |agg cs=>obtain⟨vs,c,b⟩:=r;exact⟨vs,c,Gq h b⟩
def B7:∀{vs:List ah}{cs:List E1},Gn cs=ab->hY σ s vs cs->hY σ' s' vs cs
 |[],[],_,_=>trivial
 |[],_::_,_,r=>r.elim
 |_::_,[],_,r=>r.elim
 |v::vs,c::cs,h,r=>by
  simp only[Gn]at h;cases a:JL c with
  |false=>grind
  |true=>simp only[a]at h;exact⟨Ag a r.1,B7 h r.2⟩
def N3{v:ah}{d:D}(h:N2 d=ab)(r:dt σ s v d):dt σ' s' v d:=by
 cases d with
 |e x=>exact Ag h r
 |fa xs=>obtain⟨vs,b,a⟩:=r;exact⟨vs,b,B7 h a⟩
 |any=>trivial
end
def B8:List aR->Bool
 |[]=>ab
 |.cm _::r=>B8 r
 |.dead::r=>B8 r
 |_=>ae
def B9:∀{l:List aR},B8 l=ab->∀B∈l,(∃H,B=.cm H)∨B=.dead
 |[],_,B,hB=>by grind
 |b::r,h,B,hB=>by
  have a:((∃H,b=.cm H)∨b=.dead)/\B8 r=ab:=by cases b<;>simp_all[B8]
  rcases eB.1 hB with rfl|hB
  .exact a.1
  .exact B9 a.2 B hB
def hU(σ:List aR)(a:Nat)(u:ah)(k n:Nat)(es:Nat->List C):Prop :=
 ∀s,aF σ s->∃(L:Loc) (M':Mem),s.β[a]?=aa L/\(∀b o v,s.M b o=aa v->M' b o=aa v)/\(∀b,b∉L.bs->∀o,M' b o=s.M b o)/\(∀b o v,M' b o=aa v->s.w.cell? ⟨b,o,af⟩=aa v) /\
  (∀b∈L.bs,∀o,s.M b o=af)/\Rd M' u (.sl ae k n es)
section
variable {P:ar}{X:Cx P}{N:Nat}{Qf:Post}{K:List It}{φ:Fr}{σ:List aR}{all rest:List au}{o:au}
def cp.setAt{σ:List aR}{s:St}{d:D}:∀{vs:List ah}{ds:List D}{p:Nat}{v:ah},cp σ s vs ds->vs[p]?=aa v->dt σ s v d->cp σ s vs (ds.set p d)
 |[],[],_,_,_,h,_=>by grind
 |[],_::_,_,_,h,_,_=>h.elim
 |_::_,[],_,_,h,_,_=>h.elim
 |u::vs,e::ds,0,v,h,a,b=>by simp at a;subst a;exact⟨b,h.2⟩
 |u::vs,e::ds,p+1,v,h,a,b=>⟨h.1,cp.setAt (p:=p) h.2 (by grind) b⟩
def j1(σ:List aR)(ds Gr:List D):Prop :=
 ∀s vs,aF σ s->cp σ s vs ds->∃(B:Nat->Prop) (M':Mem),(∀b,B b->∃L∈s.β,b∈L.bs)/\(∀b o v,s.M b o=aa v->M' b o=aa v)/\(∀b,¬B b->∀o,M' b o=s.M b o) /\
  (∀b o v,M' b o=aa v->s.w.cell? ⟨b,o,af⟩=aa v)/\(∀b,B b->∀o,s.M b o=af)/\cp σ {s with M:=M'} vs Gr
def j1.refl(σ:List aR)(ds:List D):j1 σ ds ds:=λs vs hh hr=>⟨λ_=>False,s.M,λ_ h=>h.elim,λ_ _ _ h=>h,λ_ _ _=>rfl,hh.mem,λ_ h=>h.elim,hr⟩
def j1.step{σ:List aR}{ds Gr:List D}(h:j1 σ ds Gr)(p q:Nat){u:ah}{k n:Nat}{es:Nat->List C}(w:Gr[p]?=aa (.e (.one (.v u))))(hl:hU σ q u k n es):j1 σ ds (Gr.set p (.e (.one (.c (.sl ae k n es))))):=by
 classical
 intro s vs hh hr;obtain⟨B,M1,A,r,E,J,G,m⟩:=h s vs hh hr;obtain⟨L,a,j,I,z,H,F,t⟩:=hl s hh;have h1:∀b o v,M1 b o=aa v->(M1 b o).or (a b o)=aa v:=λb o v d=>by grind
 have h2:∀b o v,a b o=aa v->(M1 b o).or (a b o)=aa v:=λb o v d=>by
  cases e:M1 b o with
  |none=>grind
  |some v' =>
   grind
 refine⟨λb=>B b∨b∈L.bs,λb o=>(M1 b o).or (a b o),?_,λb o v d=>h1 b o v (r b o v d),?_,?_,?_,?_⟩
 .grind
 .grind
 .intro b o v d;cases e:M1 b o with
  |none=>grind
  |some v'=>grind
 .grind
 .have e1:Ext σ {s with M:=M1} σ {s with M:=λb o=>(M1 b o).or (a b o)}:=⟨h1,λl B L hB j=>⟨B,L,hB,j,.refl _ _⟩⟩
  have y:=m.mono e1 hh.len;obtain⟨x,i⟩:=cp.get m;have g:p<vs.length:=by grind
  have f:vs[p]?=aa u:=by have:=i p;rw[w,br g]at this;have:=Rd.en (show Rd M1 vs[p] (.val u)from this);grind
  exact y.setAt f (show dt σ {s with M:=λb o=>(M1 b o).or (a b o)} u (.e (.one (.c (.sl ae k n es))))from Rd.mono h2 t)
end
def gf(E:aj)(k:Nat)(bf:nC)(n:Nat)(xs:List ah):ah->(Nat->Option Obj)->Prop:=λv a=>v=.nilFunc/\(∀x∈xs,cN x=ab)/\xs.length=n*k/\match bf with
 |.nil _=>n=0/\a=λ_=>af
 |.row b cap=>n<=cap/\cap<=9223372036854775807/\∃c,(xs++c).length=cap*k/\a=λd=>if d=b then aa (.cells (xs++c).toArray E (0,0))else af
def tN(k:Nat)(xs:List ah):Nat->List C:=λi=>((xs.drop (i*k)).take k).map .val
def Ca{k n i:Nat}{xs:List ah}(a:xs.length=n*k)(hi:i<n):(tN k xs i).length=k:=by
 have:i*k+k<=n*k:=by rw[<-lD];exact eP _ hi
 simp[tN,a];omega
def Cb{k i j:Nat}{xs:List ah}{c:C}(h:(tN k xs i)[j]?=aa c):∃u,xs[i*k+j]?=aa u/\c=.val u:=by simp only[tN,nj,iX,pr]at h;grind
def gf.lookup{E:aj}{k b cap n:Nat}{xs:List ah}{v:ah}{ch:Nat->Option Obj}(h:gf E k (.row b cap) n xs v ch):∃a,(xs++a).length=cap*k/\ch b=aa (.cells (xs++a).toArray E (0,0))/\∀c,(ch c).isSome=ab↔c=b:=by obtain⟨_,_,_,_,_,a,h1,h2⟩:=h;grind
def Rd.U0{M:Mem}{b cap k n:Nat}{xs:List ah}(f:∀x∈xs,cN x=ab)(hl:xs.length=n*k)(d:n<=cap)(e:cap<=9223372036854775807)(h:∀o,M b o=xs[o]?):Rd M (.slice (aa ⟨b,0,af⟩) n cap) (.sl ae k n (tN k xs)):=by refine Rd.rA (M:=M) (k:=k) (n:=n) (es:=tN k xs) (vs:=xs) (a:=aa ⟨b,0,af⟩) (b:=b) (off:=0) (cap:=cap) (t:=ae) ⟨hl,λi hi=>Ca hl hi,λi hi j c hj=>?_⟩ (λ_=>rfl) d e (by simp) (λp u g=>by grind);obtain⟨u,h1,rfl⟩:=Cb hj;exact⟨u,h1,.val (f u (bP h1))⟩
section
variable {P:ar}{X:Cx P}{N:Nat}{Qf:Post}{K:List It}{φ:Fr}{σ:List aR}{all rest:List au}{o:au}
def gf.Cc{E:aj}{k n f:Nat}{bf:nC}{xs:List ah}(hl:σ[f]?=aa (.cm (gf E k bf n xs)))(es:Nat->List C)(q:∀i,i<n->(es i).length=k/\∀M j c x,(es i)[j]?=aa c->xs[i*k+j]?=aa x->Rd M x c):hU σ f (lA bf n) k n es:=by
 intro s hh;have J:f<σ.length:=(b6.1 hl).1;have g:f<s.β.length:=by rw[hh.len];grind
 have z:=br g;generalize s.β[f]=L at z;obtain⟨ch,H,d,G,e⟩:=hh.box f _ L hl z;cases bf with
 |nil a0 =>
  obtain⟨_,_,_,rfl,_⟩:=H;exact⟨L,s.M,z,λ_ _ _ h=>h,λ_ _ _=>rfl,hh.mem,e,Rd.jY⟩
 |row b cap =>
  obtain⟨V,R,r,I⟩:=H.lookup;obtain⟨O,F,y,w,D,_⟩:=H;have A:b∈L.bs:=(G b).2 (by grind)
  have m:=d b _ r;obtain⟨c1,c2⟩:=hh.Ab (b:=b) (vs:=xs) (e b A) (λo v U=>by
   simp only[aV,m]
   grind)
  refine⟨L,λB o=>if B=b then xs[o]? else s.M B o,z,c2,λB S o=>aY (by grind),c1.mem,e,?_⟩;refine Rd.rA (k:=k) (n:=n) (es:=es) (vs:=xs) (a:=aa ⟨b,0,af⟩) (b:=b) (off:=0) (cap:=cap) (t:=ae) ⟨y,λi hi=>(q i hi).1,λi hi j c hj=>?_⟩ (λ_=>rfl) w D (by simp) (λp u T=>by grind);have Q:j<k:=by grind
  have l:i*k+j<xs.length:=by
   rw[y];have:i*k+k<=n*k:=by rw[<-lD];exact eP _ hi
   omega
  exact⟨xs[i*k+j],br l,(q i hi).2 _ j c _ hj (br l)⟩
def ee.oz{k:Nat}{x y:aq}{E:aj}{Y:TI}(h:lL P o x y E Y)(hs:Y.size=k){l:Nat}{bf:nC}{xs:List ah}{n:Nat}(hx:bU φ x=.e (.one (.v (lA bf n))))(hl:σ[l]?=aa (.cm (gf E k bf n xs))){tx:Bool}{es':Nat->List C}(hy:bU φ y=.e (.one (.c (.sl tx k 1 es')))){xv:List ah}(hxv:xv.length=k)(hcx:∀(M:Mem) (v:ah) (j:Nat) (c:C),(es' 0)[j]?=aa c->Rd M v c->xv[j]?=aa v/\cN v=ab)(S:(n+1)*Y.bytes<=140737488355328):
  ee P N o φ σ (λJ:nC=>.e (.one (.v (lA J (n+1))))) λJ=>σ.set l (.cm (gf E k J (n+1) (xs++xv))):=by
 intro s a hf hh;obtain⟨t,t2,i,i2,ho,hi,F,D,H⟩:=h.op;have RF:l<σ.length:=(b6.1 hl).1;have RG:l<s.β.length:=by rw[hh.len];grind
 have hL:=br RG;generalize s.β[l]=L at hL;obtain⟨ch,Z,Q,RI,XD⟩:=hh.box l _ L hl hL;have V:=bP hL;have U:=dg hf x;rw[hx]at U;have U:=Rd.en U;have hw:=dg hf y;rw[hy]at hw;have hw:=e9 hw;have O:=Z.2.1;have W:=Z.2.2.1;have nM:∀b,s.w.heap.size<=b->∀o,s.M b o=af:=λb S o=>by
  cases hm:s.M b o with
  |none=>rfl
  |some v=>have:=hh.block hm;omega
 have mk:∀(M':Mem) (a0:Option Addr) (cap:Nat),lA bf n=.slice a0 n cap->cap<n+1->aF (σ.map λ_=>.dead) {s with M:=M'}->(∀f o v,s.M f o=aa v->M' f o=aa v) ->
   Rd M' (.slice a0 n cap) (.sl ae k n (tN k xs))->(∀{es},fg {s with M:=M'} es->fg s es) ->
   ∃i nx s' v,(aw a.eval o).run P s.w=.ok nx s'.w/\(nx=.value v∨(nx=.skip/\v=ai))/\dt (σ.set l (.cm (gf E k i (n+1) (xs++xv)))) s' v (.e (.one (.v (lA i (n+1)))))/\aF (σ.set l (.cm (gf E k i (n+1) (xs++xv)))) s'/\Step σ s (σ.set l (.cm (gf E k i (n+1) (xs++xv)))) s'/\fg s ((aw a.eval o).events P s.w #[]):=by
  intro M' a0 cap hsl En NV hMM hR XE;have G:Rd ({s with M:=M'}:St).M (a.eval y) (.sl tx Y.size 1 es'):=by rw[hs];exact hw.mono hMM
  have hR':Rd ({s with M:=M'}:St).M (.slice a0 n cap) (.sl ae Y.size n (tN k xs)):=by grind
  obtain⟨vs,g,r,A,f2,f3,f4,f5⟩:=iG (P:=P) (s:={s with M:=M'}) (ty:=o.type) hi F D H h.elem NV hR' G En S h.bytes;have f6:=jf (P:=P) (s:={s with M:=M'}) (ty:=o.type) hi F D H h.elem NV hR' G En S h.bytes;rw[hs]at A f4;have Qt:vs.length=(n+1)*k:=A.len;have Jo:xs.length+k=(n+1)*k:=by grind
  have hk0:0<k:=by have:=h.size;omega
  have Uq:∀j,j<k->∃v,vs[n*k+j]?=aa v/\xv[j]?=aa v/\cN v=ab:=λj hj=>by
   have RN:=A.width n (by omega);have hwn:cK n (tN k xs) es' n=es' 0:=by simp[cK]
   rw[hwn]at RN;obtain⟨v,v1,v2⟩:=A.rd n (by omega) j ((es' 0)[j]'(by omega)) (by grind);grind
  have Qv:vs=xs++xv:=by
   apply iY;intro q;by_cases e:q<xs.length
   .have hi:q / k<n:=qc (by grind);have UO:q / k*k+q % k=q:=ql q k;have hwl:=Ca (k:=k) W hi;have hap:cK n (tN k xs) es' (q / k)=tN k xs (q / k):=by simp[cK,hi]
    have hjl:q % k<(tN k xs (q / k)).length:=by rw[hwl];exact iS _ hk0
    obtain⟨v,v1,v2⟩:=A.rd (q / k) (by omega) (q % k) ((tN k xs (q / k))[q % k]) (by grind);obtain⟨u,u1,u2⟩:=Cb (br hjl);grind[Rd.en]
   grind
  subst Qv;have Yg:∀x∈xv,cN x=ab:=λx hx=>by grind[List.getElem_of_mem]
  let w':aA:=s.w.drew.alloc (.cells (xs++xv++g).toArray E);have NY:w'.heap[s.w.heap.size]?=aa (.cells (xs++xv++g).toArray E (0,0)):=dT s.w.drew _;have Ec:w'.heap.size=s.w.heap.size+1:=by show(s.w.drew.heap.push _).size=_;simp
  obtain⟨t1,I⟩:=hh.jM (l:=l) (H':=gf E k (.row s.w.heap.size r) (n+1) (xs++xv)) (L':=⟨L.v,[s.w.heap.size]⟩) (w':=w') hl hL rfl (by omega)
   (λb S _=>cR s.w.drew _ S) (λb S=>by grind)
   ⟨λf=>if f=s.w.heap.size then aa (.cells (xs++xv++g).toArray E (0,0))else af,⟨Z.1,λx hx=>by
    grind,by grind,f2,f3,g,by rw[f4],rfl⟩,λb o S=>by grind,λb=>by by_cases e:b=s.w.heap.size<;>simp[e]⟩ rfl rfl rfl
  refine⟨.row s.w.heap.size r,.value (.slice (aa ⟨s.w.heap.size,0,af⟩) (n+1) r),_,_,?_,.inl rfl,Rd.val rfl,t1,I,?_⟩
  .rw[dn ho,U,hsl];simp only[bT,dx];have f5':(Builtin.append_ #[t,t2] o.type #[.slice a0 n cap,a.eval y]).run P s.w=_:=f5;rw[f5'];rfl
  grind[dn,eU]
 cases bf with
 |nil a0 =>
  obtain⟨_,_,_,rfl,_⟩:=Z;refine mk s.M a0 0 rfl (by simp) (by have:=hh.lW;exact⟨this.mem,this.len,this.box,this.eO,this.lt,this.own⟩) (λ_ _ _ h=>h) Rd.jY (λh=>h)
 |row b cap =>
  obtain⟨g,XF,RO,U1⟩:=Z.lookup;obtain⟨RH,_,_,En,Nz,_⟩:=Z;have B:b∈L.bs:=(RI b).2 (by grind);have m:=Q b _ RO;have hMb:=XD b B;have Yh:b<s.w.heap.size:=hh.lt L V b B;have Qs:∀o v,xs[o]?=aa v->s.w.cell? ⟨b,o,af⟩=aa v:=by intro o v ho;simp only[aV,m];grind
  obtain⟨c1,c2⟩:=hh.Ab (b:=b) (vs:=xs) hMb Qs;have XE:∀{es:Array Event},fg {s with M:=λf o=>if f=b then xs[o]? else s.M f o} es->fg s es:=λhe =>
   he.wq (b:=b) V B c2 λf o v U=>by grind
  have hR:=Rd.U0 (M:=λf o=>if f=b then xs[o]? else s.M f o) (b:=b) (cap:=cap) (xs:=xs) O W En Nz (λo=>by simp);by_cases p:n+1<=cap
  .have G:Rd ({s with M:=λf o=>if f=b then xs[o]? else s.M f o}:St).M (a.eval y) (.sl tx Y.size 1 es'):=by rw[hs];exact hw.mono c2
   obtain⟨d,A,f2⟩:=kE (P:=P) (s:={s with M:=λf o=>if f=b then xs[o]? else s.M f o}) (ty:=o.type) (n:=n) (b:=b) (cap:=cap) hi F D H h.elem c1 m (by grind) G p;have f6:=ma (P:=P) (s:=s) (ty:=o.type) (n:=n) (b:=b) (cap:=cap) hi F D H h.elem hh m (by grind) (x:=a.eval y) (tx:=tx) (es':=es') (by grind) p V B (λo _=>hMb o);rw[hs]at A f2;have RD:d.length=k:=by have:=A.len;omega
   have hw0:=A.width 0 (by omega);have Uq:∀j,j<k->∃v,d[j]?=aa v/\xv[j]?=aa v/\cN v=ab:=λj hj=>by obtain⟨v,v1,v2⟩:=A.rd 0 (by omega) j ((es' 0)[j]'(by omega)) (br (by omega));grind
   have T:d=xv:=by apply iY;grind
   subst T;have Yg:∀x∈d,cN x=ab:=λx hx=>by grind[List.getElem_of_mem]
   have hfk:n*k+k<=cap*k:=by rw[<-lD];exact eP _ p
   have hzk:k<=g.length:=by grind
   have R:((xs++g).take (n*k)++d++(xs++g).drop (n*k+d.length))=xs++d++g.drop k:=by rw[<-W,RD];simp[List.drop_append]
   rw[R]at f2;have RB:(s.w.setRow b (xs++d++g.drop k).toArray).heap[b]?=aa (.cells (xs++d++g.drop k).toArray E (0,0)):=setRow_heap s.w b _ _ E _ m;have Eo:∀f,f≠b->(s.w.setRow b (xs++d++g.drop k).toArray).heap[f]?=s.w.heap[f]?:=λf z=>setRow_other s.w b f _ z;obtain⟨t1,I⟩:=hh.jM (l:=l) (H':=gf E k (.row b cap) (n+1) (xs++d)) (L':=L) (w':=s.w.setRow b (xs++d++g.drop k).toArray) hl hL rfl (by simp)
    (λf z hn=>Eo f (by grind)) (λf z=>.inl z)
    ⟨λf=>if f=b then aa (.cells (xs++d++g.drop k).toArray E (0,0))else af,⟨RH,λx hx=>by
     grind,by grind,p,Nz,g.drop k,by grind,rfl⟩,λf o z=>by
     grind,λf=>by grind⟩ rfl rfl rfl
   refine⟨.row b cap,.value (.slice (aa ⟨b,0,af⟩) (n+1) cap),_,_,?_,.inl rfl,Rd.val rfl,t1,I,?_⟩
   .rw[dn ho,U];simp only[bT,dx,lA];have f2':(Builtin.append_ #[t,t2] o.type #[.slice (aa ⟨b,0,af⟩) n cap,a.eval y]).run P s.w=_:=f2;rw[f2'];rfl
   .rw[dn ho,U];exact eU f6
  .exact mk _ (aa ⟨b,0,af⟩) cap rfl (by omega) c1 c2 hR XE
def AK.oz{k:Nat}{x y:aq}{E:aj}{b:TI}(h:lL P o x y E b)(p:b.size=k){d:Nat}(i:o.dst=aa d)(r:o.guard=af)(s:gg N o.dst=ab){l:Nat}{bf:nC}{xs:List ah}{n:Nat}(q:bU φ x=.e (.one (.v (lA bf n))))(hl:σ[l]?=aa (.cm (gf E k bf n xs))){tx:Bool}{es':Nat->List C}(m:bU φ y=.e (.one (.c (.sl tx k 1 es')))){xv:List ah}(f:xv.length=k)(g:∀(M:Mem) (v:ah) (j:Nat) (c:C),(es' 0)[j]?=aa c->Rd M v c->xv[j]?=aa v/\cN v=ab)(t:(n+1)*b.bytes<=140737488355328)(kk:∀a:nC,AK X N Qf (.ops all rest::K) .normal ((d,.e (.one (.v (lA a (n+1)))))::φ) (σ.set l (.cm (gf E k a (n+1) (xs++xv))))):AK X N Qf (.ops all (o::rest)::K) .normal φ σ :=
 AK.hand (ι:=nC) (λa=>.e (.one (.v (lA a (n+1))))) (λa=>σ.set l (.cm (gf E k a (n+1) (xs++xv)))) r s (.oz h p q hl m f g t) λa=>by rw[i];exact kk a
def AK.N6(t:Nat)(E:aj)(k:Nat){h:Nat}{es:Nat->List C}{c:Code}(m:look φ t=.e (.one (.c (.sl ab h 0 es))))(kk:∀bf:nC,AK X N Qf (.code c::K) .normal ((t,.e (.one (.v (lA bf 0))))::φ) (σ++[.cm (gf E k bf 0 [])])):AK X N Qf (.code c::K) .normal φ σ:=by
 refine AW.tM (λs a d hh=>?_) kk;have g:=d.slot t;rw[m]at g;obtain⟨a0,cap,vs,l,_,_,b,_,_⟩:=(e9 g).flat;have b:=b rfl;subst b;obtain⟨j,f⟩:=hh.ik (B:=.cm (gf E k (.nil a0) 0 [])) (L:=⟨.nilFunc,[]⟩) (.refl _ _) rfl hh ⟨λ_=>af,⟨rfl,by simp,by simp,rfl,rfl⟩,by simp,by simp,by simp⟩ (by simp);refine⟨.nil a0,{s with β:=s.β++[⟨.nilFunc,[]⟩]},rfl,⟨d.size,d.defers.imp λ_ h1=>h1.mono f.ext,λu=>?_⟩,j,f⟩;simp only[look];cases i:aB t u with
 |false=>exact(d.slot u).mono f.ext hh.len
 |true =>
  have e:=bX i;subst e;show Rd _ _ _;rw[l];exact Rd.val rfl
def AK.wy(t l:Nat){E:aj}{k n:Nat}{bf:nC}{xs:List ah}(es:Nat->List C){c:Code}(D:look φ t=.e (.one (.v (lA bf n))))(hl:σ[l]?=aa (.cm (gf E k bf n xs)))(m:∀i,i<n->(es i).length=k/\∀M j c x,(es i)[j]?=aa c->xs[i*k+j]?=aa x->Rd M x c)(kk:AK X N Qf (.code c::K) .normal ((t,.e (.one (.c (.sl ae k n es))))::φ) (σ.set l .dead)):AK X N Qf (.code c::K) .normal φ σ:=by
 refine AK.ghost (λs a g hh=>?_) kk;obtain⟨L,M',p,r,w,A,F,H⟩:=gf.Cc hl es m s hh;have d:l<σ.length:=(b6.1 hl).1;have q:=g.slot t;rw[D]at q;have G:=Rd.en q;have ex:Ext σ s (σ.set l .dead) {s with M:=M'}:=by
  refine⟨r,λl' B L' kv fA=>?_⟩;by_cases e:l=l'
  .subst e;rw[hl]at kv;cases kv;exact⟨.dead,L',by grind,fA,rfl⟩
  .exact⟨B,L',by grind,fA,.refl _ _⟩
 have st:Step σ s (σ.set l .dead) {s with M:=M'}:=by refine⟨bc _,λ_ _ _=>rfl,r,λb _ y o=>w b (y L (bP p)) o,λL h b f=>.inr ⟨L,h,f⟩,ex.box,rfl,rfl,rfl,rfl⟩
 refine⟨{s with M:=M'},rfl,⟨g.size,g.defers.imp λ_ h1=>h1.mono st.ext,λu=>?_⟩,⟨A,by simp[hh.len],?_,hh.eO,hh.lt,hh.own⟩,st⟩
 .simp only[look];cases f:aB t u with
  |false=>exact(g.slot u).mono st.ext hh.len
  |true =>
   have e:=bX f;subst e;show Rd _ _ _;grind
 .intro l' B L' kv fA;by_cases e:l=l'
  .subst e;rw[gn d]at kv;cases kv;trivial
  .rw[kC e]at kv;exact(hh.box l' B L' kv fA).carry ex hh.len λb f=>⟨rfl,w b λz=>e (hh.eO l l' L L' p fA b z f)⟩
end
structure gy(k n:Nat)(es:Nat->List C)(xs:List ah):Prop where
 len:xs.length=n*k
 wid:∀i,i<n->(es i).length=k
 at':∀i,i<n->∀j c,(es i)[j]?=aa c->∃x,xs[i*k+j]?=aa x/\∀M,Rd M x c
def gy.rd{k n:Nat}{es:Nat->List C}{xs:List ah}(h:gy k n es xs):∀i,i<n->(es i).length=k/\∀M j c x,(es i)[j]?=aa c->xs[i*k+j]?=aa x->Rd M x c:=λi hi =>
 ⟨h.wid i hi,λM j c x hj hx=>by obtain⟨y,h1,h2⟩:=h.at' i hi j c hj;grind⟩
def QW(v:ah):A->A
 |.vec 0 _ _ _=>.v v
 |a=>a
def KU(v:ah):E1->E1
 |.one a=>.one (QW v a)
 |e=>e
def EY(v:ah):List E1->List E1
 |[]=>[]
 |a::r=>KU v a::EY v r
def QX(v:ah):D->D
 |.e x=>.e (KU v x)
 |.fa xs=>.fa (EY v xs)
 |.any=>.any
def mZ(n:Nat):A->Bool
 |.vec 0 _ b _=>aB b n
 |a=>wx a
def qK(n:Nat):E1->Bool
 |.one a=>mZ n a
 |e=>JL e
def pQ(n:Nat):List E1->Bool
 |[]=>ab
 |a::r=>match qK n a with|true=>pQ n r|false=>ae
def vU(n:Nat):D->Bool
 |.e x=>qK n x
 |.fa xs=>pQ n xs
 |.any=>ab
section
variable {σ':List aR}{s s':St}{E:aj}{k n:Nat}{es:Nat->List C}{L:Loc}
def KV(g:s.β[0]?=aa L){v:ah}{a:A}(h:mZ n a=ab)(r:gB [aR.vec E k n es] s v a):gB σ' s' v (QW L.v a):=by
 cases a with
 |c x=>exact qx h r
 |any=>exact r
 |vec l k' n' es' =>
  cases l with
  |zero =>
   obtain⟨i,_,b⟩:=r;have b:=b E k n es rfl;have e:=bX h;obtain⟨L',d,f⟩:=b.2 e.symm;rw[g]at d;cases d;show Rd _ _ _;rw[f];exact .val (f▸i.cell)
  |succ l=>simp[mZ,wx]at h
 |ptr=>simp[mZ,wx]at h
 |ref=>simp[mZ,wx]at h
 |bp=>simp[mZ,wx]at h
def CN(b:s.β[0]?=aa L){v:ah}{x:E1}(h:qK n x=ab)(r:nB [aR.vec E k n es] s v x):nB σ' s' v (KU L.v x):=by
 cases x with
 |one a=>exact KV b h r
 |agg cs=>exact Ag (x:=.agg cs) h r
def zc(a:s.β[0]?=aa L):∀{vs:List ah}{cs:List E1},pQ n cs=ab->hY [aR.vec E k n es] s vs cs->hY σ' s' vs (EY L.v cs)
 |[],[],_,_=>trivial
 |[],_::_,_,r=>r.elim
 |_::_,[],_,r=>r.elim
 |v::vs,c::cs,h,r=>by
  simp only[pQ]at h;cases b:qK n c with
  |false=>grind
  |true=>simp only[b]at h;exact⟨CN a b r.1,zc a h r.2⟩
def CO(a:s.β[0]?=aa L){v:ah}{d:D}(h:vU n d=ab)(r:dt [aR.vec E k n es] s v d):dt σ' s' v (QX L.v d):=by
 cases d with
 |e x=>exact CN a h r
 |fa xs=>obtain⟨vs,c,b⟩:=r;exact⟨vs,c,zc a h b⟩
 |any=>trivial
end
def vW:List ResultVar->Bool
 |[]=>ab
 |.tmp _::r=>vW r
 |.cell _ _::_=>ae
def uU{P:ar}{a:Act}:∀{rs:List ResultVar},vW rs=ab->∃vs,(∀w,(rs.mapM (gv a)).run P w=Result.ok vs w)/\di P (rs.mapM (gv a))
 |[],_=>⟨[],by simp,by rw[List.mapM_nil];exact .pure⟩
 |.tmp t::r,h=>by
  obtain⟨vs,c,b⟩:=uU (P:=P) (a:=a) (rs:=r) h;refine⟨a.tmps.getD t ai::vs,λw=>?_,?_⟩
  .simp only[lT,bT,gv,dx,b5,c]
  .rw[lT];exact .bind .pure λ_=>.bind b λ_=>.pure
def vf.tmp{P:ar}{f:aJ}{fn:Func}{fr:aU}{v:ah}{s s':St}(h:vf P f fr v s)(x:P.funcs[f]?=aa fn)(t:vW fn.results.toList=ab)(i:∀b o u,s.M b o=aa u->s.w.cell? ⟨b,o,af⟩=aa u):vf P f fr v s':=by
 obtain⟨h1,h2,m,g,c,l,p⟩:=h;have e:c=fn:=by grind
 subst e;let a:Act:={tmps:=fr.tmps,defers:=[]}
 obtain⟨vs,k1,j⟩:=uU (P:=P) (a:=a) t;have e1:∀w,(c.results.mapM (gv a)).run P w=Result.ok vs.toArray w:=λw=>by grind[Array.mapM_eq_mapM_toList,Sem.run_map,Go.Result.andThen_ok]
 have e2:∀w,(results c fr.tmps).run P w=.ok (if h:vs.toArray.size=1 then vs.toArray[0]else .tuple vs.toArray) w:=λw=>by unfold results;rw[bT];refine(dJ (λr=>Result.andThen r _) (e1 w)).trans ?_;simp
 have e3:di P (results c fr.tmps):=by
  unfold results;have e:di P (c.results.mapM (gv a)):=by rw[ru];exact .map j
  exact .bind e λ_=>.pure
 have d:=(p s.w i).1;rw[e2]at d;cases d;exact⟨h1,h2,m,g,c,l,λw _=>⟨e2 w,λe q=>by rw[e3 w #[]]at q;grind⟩⟩
def Ev.thaw{P:ar}{X:Cx P}[X.hU]{f:aJ}{args:List D}{res:D}{E:aj}{k n:Nat}{es:Nat->List C}(h:Ev X f args [] res [.vec E k n es]){fn:Func}(hf:P.funcs[f]?=aa fn)(ht:vW fn.results.toList=ab)(Q:vU n res=ab)(N:∀i,i<n->(es i).length=k/\∀c∈es i,vj c=ab):
  ef (ι:={q:nC×List ah // gy k n es q.2}) X f args [] (λq=>QX (lA q.1.1 n) res) (λq=>[.cm (gf E k q.1.1 n q.1.2)]):=by
 refine⟨h.1,λs vs hr hh S cs hS=>h.2 s vs hr hh S cs λfr v s' hl mK jh st=>?_⟩;have hβ0:s.β=[]:=jv hh.len;have hlen:s'.β.length=1:=jh.len;obtain⟨L,T⟩:∃L,s'.β=[L]:=by
  match hq:s'.β with
  |[L]=>grind
  |[]=>grind
  |_::_::_=>grind
 have U:s'.β[0]?=aa L:=by grind
 obtain⟨hb1,hb2⟩:=jh.box 0 _ L rfl U;rcases hb2 with⟨⟨RI,Ya⟩,t⟩|⟨b,cap,cells,Va,I,Jo,GC⟩
 .subst Ya;obtain⟨a,cap,vs0,hv,En,Nz,Z,_⟩:=t.flat;have H:cap=0:=Z rfl;subst H;let y:St:={s' with β:=[⟨.nilFunc,[]⟩]}
  have hg:eF s' y:=⟨rfl,λ_ _ _ h=>h,λ_ _ _=>rfl,jh.mem,λb hb=>by grind⟩
  have z:gy k 0 es []:=⟨by simp,λi hi=>by omega,λi hi=>by omega⟩
  refine .ghost hg (hS ⟨(.nil a,[]),z⟩ fr v y (hl.tmp hf ht jh.mem) ?_ ?_ ?_)
  .have:=CO (σ':=[aR.cm (gf E k (.nil a) 0 [])]) (s':=y) U Q mK;rw[hv]at this;exact this
  .refine⟨jh.mem,rfl,λl B L' hB fA=>?_,?_,by grind,λb hb=>⟨(jh.own b hb).1,by grind⟩⟩
   .cases l with
    |zero=>cases hB;cases fA;exact⟨λ_=>af,⟨rfl,by simp,by simp,rfl,rfl⟩,by simp,by simp,by simp⟩
    |succ l=>grind
   grind
  .refine⟨st.size,st.fy,st.mem,st.je,λL' fA b hb=>?_,λl B L' hB=>by grind,st.os,st.tape,st.output,st.own⟩;grind
 .subst Va;have R:b∈(⟨.slice (aa ⟨b,0,af⟩) n cap,[b]⟩:Loc).bs:=by simp
  have abj:s.w.heap.size<=b:=by
   rcases st.vJ _ (by grind) b R with h1|⟨L0,h1,_⟩
   .exact h1
   grind
  have Yh:b<s'.w.heap.size:=jh.lt _ (by grind) b R;obtain⟨a1,ad5,m,V,r,J,_,hF,hm⟩:=hb1.flat;cases V;have K:m.length=n*k:=hF.len;have ad6:∀p u,m[p]?=aa u->cells[p]?=aa u:=λp u hp=>by obtain⟨b1,ad7,e,W⟩:=hm p u hp;cases e;have:=jh.mem _ _ _ W;simp only[aV,I]at this;simpa using this
  have hnk:n*k<=cells.length:=by rw[Jo];exact eP _ r
  have QP:cells.take (n*k)=m:=by apply iY;grind
  have RE:m++cells.drop (n*k)=cells:=by grind[List.take_append_drop]
  have z:gy k n es m:=by refine⟨K,λi hi=>(N i hi).1,λi hi j c hj=>?_⟩;obtain⟨u,u1,u2⟩:=hF.rd i hi j c hj;grind[qx]
  have F:∀x∈m,cN x=ab:=λx hx=>by
   obtain⟨p,hp,rfl⟩:=dG hx;have hk:0<k:=by grind
   have hi:p / k<n:=qc (by grind);have UO:p / k*k+p % k=p:=ql p k;have hj:p % k<(es (p / k)).length:=by rw[(N _ hi).1];exact iS _ hk
   obtain⟨u,u1,u2⟩:=z.at' _ hi _ _ (br hj);rw[UO,br hp]at u1;cases u1;exact(u2 s.M).cell
  have G:∀d o v',s.M d o=aa v'->d≠b:=λd o v' hm' e=>by have:=hh.block hm';omega
  let O:Mem:=λd o=>if d=b then af else s'.M d o;let s1:St:={s' with β:=[],own:=λx=>s'.own x∨x=b}
  let s2:St:={s1 with M:=O}
  let y:St:={s' with β:=[⟨.nilFunc,[b]⟩],M:=O}
  have A:∀d o v',O d o=aa v'->s'.M d o=aa v':=λd o v' h'=>by grind
  have Zd:eF s' s1:=⟨rfl,λ_ _ _ h=>h,λ_ _ _=>rfl,jh.mem,λd g=>by
   rcases g with(g|g)|⟨L',fA,_⟩
   .grind
   .exact .inr ⟨_,by rw[T];simp;rfl,by grind⟩
   grind⟩
  have Y:nk s1 s2:=⟨rfl,rfl,rfl,A,λd o v' h'=>by grind⟩
  have hg3:eF s2 y:=⟨rfl,λ_ _ _ h=>h,λ_ _ _=>rfl,λd o v' h'=>jh.mem _ _ _ (A _ _ _ h'),λd g=>by grind⟩
  refine .ghost Zd (.forget Cx.hU.ok Y (.ghost hg3 (hS ⟨(.row b cap,m),z⟩ fr v y (hl.tmp hf ht jh.mem) ?_ ?_ ?_)))
  .exact CO (L:=⟨.slice (aa ⟨b,0,af⟩) n cap,[b]⟩) U Q mK
  .refine⟨λd o v' h'=>jh.mem _ _ _ (A _ _ _ h'),rfl,λl B L' hB fA=>?_,?_,λL' fA d g=>?_,λd g=>⟨(jh.own d g).1,λL' fA=>?_⟩⟩
   .cases l with
    |zero =>
     cases hB;cases fA;refine⟨λd=>if d=b then aa (.cells (m++cells.drop (n*k)).toArray E (0,0))else af,⟨rfl,F,K,r,J,cells.drop (n*k),?_,rfl⟩,λd o g=>?_,λd=>?_,λd g o=>?_⟩
     .grind
     .grind
     .by_cases e:d=b<;>simp[e]
     grind
    |succ l=>grind
   .grind
   .grind
   .simp[y]at fA;subst fA;have:=(jh.own d g).2 _ (by rw[T];simp;rfl);grind
  .refine⟨st.size,st.fy,λd o v' h'=>?_,λd g hn o=>?_,λL' fA d g=>?_,λl B L' hB=>by grind,st.os,st.tape,st.output,st.own⟩
   .simp only[y,O,aY (G d o v' h')];exact st.mem _ _ _ h'
   .have:d≠b:=by omega
    simp only[y,O,aY this];exact st.je d g hn o
   grind
section
variable {P:ar}{X:Cx P}{N:Nat}{Qf:Post}{K:List It}{φ:Fr}{σ:List aR}{all rest:List au}{o:au}
def AK.fact{p:Prop}(h:∀s,aF σ s->p){c:Code}(k:p->AK X N Qf (.code c::K) .normal φ σ):AK X N Qf (.code c::K) .normal φ σ :=
 λs a b hh=>k (h s hh) s a b hh
def AK.JM{p:Prop}(h:∀s,aF σ s->p)(k:p->AK X N Qf (.ops all rest::K) .normal φ σ):AK X N Qf (.ops all rest::K) .normal φ σ :=
 λs a b hh=>k (h s hh) s a b hh
def gf.len{E:aj}{k n l:Nat}{bf:nC}{xs:List ah}(hl:σ[l]?=aa (.cm (gf E k bf n xs)))(s:St)(hh:aF σ s):xs.length=n*k/\n<=9223372036854775807/\(0<n->∃b cap,bf=.row b cap)/\∀a,bf=.nil a->n=0:=by
 have c:l<s.β.length:=by rw[hh.len];grind
 obtain⟨ch,e,_⟩:=hh.box l _ _ hl (br c);cases bf with
 |nil a=>obtain⟨_,_,f,rfl,_⟩:=e;grind
 |row b cap=>obtain⟨_,_,f,g,h,_⟩:=e;grind
def AK.N7{T:List (Nat×TI)}(hT:cW P T)(l:Nat){x:aq}{f:Array aj}{t:aj}{i:TI}{E0 E:aj}{k n:Nat}{bf:nC}{xs:List ah}(q:o.op=.call {callee:=.builtin .len,args:=#[x],argTypes:=f})(F:f[0]?=aa t)(hi:bG T t=aa i)(r:i.desc=.slice E0)(y:bU φ x=.e (.one (.v (lA bf n))))(hl:σ[l]?=aa (.cm (gf E k bf n xs)))(A:o.guard=af)(B:gg N o.dst=ab)(kk:AK X N Qf (.ops all rest::K) .normal (kH o.dst (.e (.one (.c (.int .i64 n)))) φ) σ):AK X N Qf (.ops all (o::rest)::K) .normal φ σ:=by
 refine AK.hand (ι:=Unit) (λ_=>.e (.one (.c (.int .i64 n)))) (λ_=>σ) A B (λs a D hh=>?_) λ_=>kk;obtain⟨_,h2,_,z⟩:=gf.len hl s hh;have g:=dg D x;rw[y]at g;have g:=Rd.en g;have m:=(hT t i hi).run_underlying (w:=s.w);rw[r]at m;have h:f[0]?=aa t:=F;have j:∃a0 cap,lA bf n=.slice a0 n cap:=by
  cases bf with
  |nil a0=>rw[z a0 rfl];exact⟨a0,0,rfl⟩
  |row b cap=>exact⟨_,cap,rfl⟩
 obtain⟨a0,cap,p⟩:=j;rw[p]at g;refine⟨(),.value (.int .i64 n),s,.int .i64 n,?_,.inl rfl,Rd.int (by simp only[bD];omega),hh,.refl _ _,?_⟩
 .simp[aw,q,resolve,invoke,builtin,Builtin.len_,g,m,goInt,h]
 .have:(aw a.eval o).events P s.w #[]=#[]:=by simp[aw,q,resolve,invoke,builtin,Builtin.len_,g,m,goInt,h]
  rw[this];exact .nil
def qZ:List A->Bool
 |[]=>ab
 |.c x::r=>match vj x with|true=>qZ r|false=>ae
 |_=>ae
def nn(vs:List ah)(cs:List A):Prop:=vs.length=cs.length/\∀(j:Nat)(c:C),cs[j]?=aa (A.c c)->∃v,vs[j]?=aa v/\∀M,Rd M v c
theorem nn.of{σ:List aR}{s:St}:∀{vs:List ah}{cs:List A},qZ cs=ab->ei σ s vs cs->nn vs cs
 |[],[],_,_=>⟨rfl,λj c h=>by grind⟩
 |[],_::_,_,r=>r.elim
 |_::_,[],_,r=>r.elim
 |v::vs,.c x::cs,h,r=>by
  simp only[qZ]at h;cases a:vj x with
  |false=>grind
  |true =>
   simp only[a]at h;obtain⟨h1,h2⟩:=nn.of h r.2;refine⟨by grind,λj c hj=>?_⟩;cases j with
   |zero=>simp at hj;subst hj;exact⟨v,rfl,λM=>qx a r.1⟩
   |succ j=>grind
 |_::_,.ptr _ _::_,h,_=>by simp[qZ]at h
 |_::_,.vec _ _ _ _::_,h,_=>by simp[qZ]at h
 |_::_,.ref _::_,h,_=>by simp[qZ]at h
 |_::_,.bp _ _::_,h,_=>by simp[qZ]at h
 |_::_,.any::_,h,_=>by simp[qZ]at h
theorem ei.cN{σ:List aR}{s:St}:∀{vs:List ah}{cs:List A},ei σ s vs cs->∀v∈vs,AM.cN v=ab
 |[],[],_,v,h=>by grind
 |[],_::_,r,_,_=>r.elim
 |_::_,[],r,_,_=>r.elim
 |u::vs,c::cs,r,v,h=>by
  rcases eB.1 h with rfl|h
  .exact gB.cell r.1
  .exact ei.cN r.2 v h
def ee.Ah{T:List (Nat×TI)}(hT:cW P T)(l:Nat){t:aj}{x y:aq}{E:aj}{k n b cap off:Nat}{xs:List ah}{new:List A}{i:TI}(h:o.op=.store t x y)(hi:bG T t=aa i)(hx:bU φ x=.e (.one (.v (.pointer (aa ⟨b,off,af⟩)))))(hy:kI (bU φ y)=aa new)(NY:new.length=i.size)(Y:qZ new=ab)(hl:σ[l]?=aa (.cm (gf E k (.row b cap) n xs)))(RP:off+new.length<=xs.length):
  ee P N o φ σ (ι:={vs:List ah // nn vs new}) (λ_=>.any) (λvs=>σ.set l (.cm (gf E k (.row b cap) n (xs.take off++vs.1++xs.drop (off+vs.1.length))))):=by
 intro s a hf hh;have I:=dg hf x;rw[hx]at I;have I:=Rd.en I;have D:=l4 hy (dg hf y);have RF:l<σ.length:=(b6.1 hl).1;have G:l<s.β.length:=by rw[hh.len];grind
 have V:=br G;generalize s.β[l]=L at V;obtain⟨ch,hH,z,RI,XD⟩:=hh.box l _ L hl V;obtain⟨f,XF,O,U1⟩:=gf.lookup hH;obtain⟨W,U2,hxl,S,Z,_⟩:=hH;have H:b∈L.bs:=(RI b).2 (by grind);have m:=z b _ O;let vs:=(a.eval y).cells.toList;have U:nn vs new:=nn.of Y D;have Qt:vs.length=new.length:=U.1;have q:off+0+vs.length<=(xs++f).toArray.size:=by grind
 have B:=run_storeCells_at P b off E vs 0 (xs++f).toArray s.w m q D.cell;simp only[iE]at B;have F:(xs++f).take off++vs++(xs++f).drop (off+vs.length)=(xs.take off++vs++xs.drop (off+vs.length))++f:=by grind
 rw[F]at B;have acB:(xs.take off++vs++xs.drop (off+vs.length)).length=xs.length:=by grind
 have RB:=setRow_heap s.w b (xs++f).toArray ((xs.take off++vs++xs.drop (off+vs.length))++f).toArray E (0,0) m;have Q:∀c,c≠b->(s.w.setRow b ((xs.take off++vs++xs.drop (off+vs.length))++f).toArray).heap[c]?=s.w.heap[c]?:=λc p=>setRow_other s.w b c _ p;obtain⟨t1,t2⟩:=hh.jM (l:=l) (H':=gf E k (.row b cap) n (xs.take off++vs++xs.drop (off+vs.length))) (L':=L) (w':=s.w.setRow b ((xs.take off++vs++xs.drop (off+vs.length))++f).toArray) hl V rfl (by simp)
  (λc p hn=>Q c (by grind)) (λc p=>.inl p)
  ⟨λc=>if c=b then aa (.cells ((xs.take off++vs++xs.drop (off+vs.length))++f).toArray E (0,0))else af,⟨W,λx hx=>by
   grind[ei.cN],by grind,S,Z,f,by grind,rfl⟩,λc o p=>by
   simp_all,λc=>by simp_all⟩ rfl rfl rfl
 have R:(a.eval y).cells.size=i.size:=by grind
 refine⟨⟨vs,U⟩,.skip,_,ai,?_,.inr ⟨rfl,rfl⟩,ay,t1,t2,?_⟩
 .have J:(storeCells ⟨b,off,af⟩ (a.eval y).cells.toList).run P s.w=_:=B;simp[aw,h,I,Instr.storeAt,bq,storeVar,(hT t i hi).run_sizeOf,R,J]
 .intro ev g;have e:aw a.eval o=(do storeVar t ⟨b,off,af⟩ (a.eval y);pure .skip):=by simp[aw,h,I,Instr.storeAt,bq]
  rw[e]at g;have M:ev∈(storeCells ⟨b,off,af⟩ (a.eval y).cells.toList).events P s.w #[]:=by
   simp only[storeVar,aM,(hT t i hi).run_sizeOf,R,aP,events_sizeOf,dy,ft,ck,bT,b5,Sem.events_pure]at g;generalize(storeCells ⟨b,off,af⟩ (a.eval y).cells.toList).run P s.w=r at g;cases r with
   |ok v w'=>simpa using g
   |halt x w'=>simpa using g
  rcases dN (a.eval y).cells.toList 0 (xs++f).toArray s.w #[] m q D.cell ev M with NV|⟨j,_,_,rfl⟩
  .grind
  .exact jX (bP V) H (XD b H _)
def AK.Ah{T:List (Nat×TI)}(hT:cW P T)(l:Nat){t:aj}{x y:aq}{E:aj}{k n b cap off:Nat}{xs:List ah}{new:List A}{i:TI}(h:o.op=.store t x y)(hi:bG T t=aa i)(j:bU φ x=.e (.one (.v (.pointer (aa ⟨b,off,af⟩)))))(g:kI (bU φ y)=aa new)(c:new.length=i.size)(f:qZ new=ab)(hl:σ[l]?=aa (.cm (gf E k (.row b cap) n xs)))(a:off+new.length<=xs.length)(m:o.guard=af)(p:gg N o.dst=ab)(kk:∀vs,nn vs new->AK X N Qf (.ops all rest::K) .normal (kH o.dst .any φ) (σ.set l (.cm (gf E k (.row b cap) n (xs.take off++vs++xs.drop (off+vs.length)))))):AK X N Qf (.ops all (o::rest)::K) .normal φ σ :=
 AK.hand _ _ m p (ee.Ah hT l h hi j g c f hl a) λvs=>kk vs.1 vs.2
def AK.swap(i j:Nat){H1 H2:ah->(Nat->Option Obj)->Prop}{c:Code}(M:i≠j)(hi:σ[i]?=aa (.cm H1))(hj:σ[j]?=aa (.cm H2))(h1:∀v ch,H1 v ch->v=.nilFunc)(h2:∀v ch,H2 v ch->v=.nilFunc)(kk:AK X N Qf (.code c::K) .normal φ ((σ.set i (.cm H2)).set j (.cm H1))):AK X N Qf (.code c::K) .normal φ σ:=by
 refine AK.ghost (λs a D hh=>?_) kk;have G:i<σ.length:=(b6.1 hi).1;have J:j<σ.length:=(b6.1 hj).1;have w:i<s.β.length:=by rw[hh.len];grind
 have z:j<s.β.length:=by rw[hh.len];grind
 obtain⟨r,x⟩:∃L,s.β[i]?=aa L:=⟨_,br w⟩;obtain⟨p,y⟩:∃L,s.β[j]?=aa L:=⟨_,br z⟩;have I:=hh.box i _ r hi x;have H:=hh.box j _ p hj y;have S:r.v=.nilFunc:=by obtain⟨ch,O,_⟩:=I;grind
 have Q:p.v=.nilFunc:=by obtain⟨ch,O,_⟩:=H;grind
 let s':St:={s with β:=(s.β.set i p).set j r}
 have A:∀l,((σ.set i (.cm H2)).set j (.cm H1))[l]?=if l=j then aa (.cm H1)else if l=i then aa (.cm H2)else σ[l]?:=λl=>by grind
 have m:∀l,s'.β[l]?=if l=j then aa r else if l=i then aa p else s.β[l]?:=λl=>by grind
 have E:∀L∈s'.β,L∈s.β:=λL f=>by grind
 have ex:Ext σ s ((σ.set i (.cm H2)).set j (.cm H1)) s':=by
  refine⟨λ_ _ _ h=>h,λl B L hB f=>?_⟩;rw[A,m];by_cases e:l=j
  .subst e;rw[hj]at hB;cases hB;rw[y]at f;cases f;exact⟨.cm H1,r,by simp,by simp,by show r.v=_;grind⟩
  .by_cases t:l=i
   .subst t;rw[hi]at hB;cases hB;rw[x]at f;cases f;exact⟨.cm H2,p,by simp[e],by simp[e],by show p.v=_;grind⟩
   .exact⟨B,L,by grind,by grind,.refl _ _⟩
 have st:Step σ s ((σ.set i (.cm H2)).set j (.cm H1)) s':=by exact⟨bc _,λ_ _ _=>rfl,λ_ _ _ h=>h,λ_ _ _ _=>rfl,λL h b g=>.inr ⟨L,E L h,g⟩,ex.box,rfl,rfl,rfl,rfl⟩
 refine⟨s',rfl,⟨D.size,D.defers.imp λ_ h1=>h1.mono ex,λu=>(D.slot u).mono ex hh.len⟩,⟨hh.mem,by simp[s',hh.len],?_,?_,λL f b g=>hh.lt L (E L f) b g,λb g=>⟨(hh.own b g).1,λL f=>(hh.own b g).2 L (E L f)⟩⟩,st⟩
 .intro l B L hB f;rw[A]at hB;rw[m]at f;split at hB
  .rename_i e;rw[bl e]at f;cases hB;cases f;exact I
  .rename_i e;rw[aY e]at f;split at hB
   .rename_i t;rw[bl t]at f;cases hB;cases f;exact H
   .rename_i t;rw[aY t]at f;exact(hh.box l B L hB f).carry ex hh.len λb g=>⟨rfl,λ_=>rfl⟩
 .intro l l' L1 L2 q1 q2 b g F;rw[m]at q1 q2;have key:∀l L,(if l=j then aa r else if l=i then aa p else s.β[l]?)=aa L->s.β[if l=j then i else if l=i then j else l]?=aa L:=λl L q=>by grind
  have:=hh.eO _ _ L1 L2 (key l L1 q1) (key l' L2 q2) b g F;by_cases e1:l=j<;>by_cases e2:l'=j<;>by_cases e3:l=i<;>by_cases R:l'=i<;>simp_all
def AK.JN{T:List (Nat×TI)}(hT:cW P T){t:aj}{x y:aq}{i p:TI}{E:aj}{n:Nat}{L Q:IntKind}(h:o.op=.makeSlice t x y)(hi:bG T t=aa i)(hd:i.desc=.slice E)(hE:bG T E=aa p)(hx:bU φ x=.e (.one (.c (.int L n))))(hy:bU φ y=.e (.one (.c (.int Q n))))(D:n*p.bytes<=140737488355328)(acC:n<=140737488355328)(hg:o.guard=af)(hN:gg N o.dst=ab)(kk:∀b xs,AK X N Qf (.ops all rest::K) .normal (kH o.dst (.e (.one (.v (lA (.row b n) n)))) φ) (σ++[.cm (gf E p.size (.row b n) n xs)])):AK X N Qf (.ops all (o::rest)::K) .normal φ σ:=by
 refine AK.hand (ι:=Nat×List ah) (λq=>.e (.one (.v (lA (.row q.1 n) n)))) (λq=>σ++[.cm (gf E p.size (.row q.1 n) n q.2)]) hg hN (λs a Z hh=>?_) λq=>kk q.1 q.2;have j:=dg Z x;rw[hx]at j;have j:=e9 j;generalize H:a.eval x=vx at j;cases j;have m:=dg Z y;rw[hy]at m;have m:=e9 m;generalize F:a.eval y=vy at m;cases m;have l:=(hT t i hi).Ur;rw[hd]at l;obtain⟨f,z,I,z2,z3,W,Y,z6,z7⟩:=(hT E p hE).info;have g:(f.bytes:Int)*(n:Int)<=281474976710656:=by grind
 have r:=run_make (P:=P) (w:=s.w) t E f z l I W L Q n n (by omega) (Int.le_refl _) g (by omega);simp only[cf]at r;let xs:=(madeCells z.cells (n*f.size)).toList;have V:xs.length=n*p.size:=by grind[size_madeCells]
 have hzc:∀v∈z.cells.toList,cN v=ab:=ei.cN (k7 (σ:=σ) (s:=s) Y);have XF:z.cells.toList.length=p.size:=by have:=dJ List.length Y;grind
 have J:∀v∈xs,cN v=ab:=by intro v hv;simp only[xs,madeCells,Array.toList_map,gH]at hv;grind[Nat.mod_lt]
 have hB:eE (σ++[.cm (gf E p.size (.row s.w.heap.size n) n xs)]) {s with w:=s.w.alloc (.cells xs.toArray E),β:=s.β++[⟨.nilFunc,[s.w.heap.size]⟩]} (.cm (gf E p.size (.row s.w.heap.size n) n xs)) ⟨.nilFunc,[s.w.heap.size]⟩:=by
  refine⟨λB=>if B=s.w.heap.size then aa (.cells (xs++[]).toArray E (0,0))else af,⟨rfl,J,V,bc _,by omega,[],by grind,rfl⟩,λB o g=>?_,λB=>?_,λB g o=>?_⟩
  .by_cases e:B=s.w.heap.size
   .subst e;simp only[cq]at g;grind[dT]
   grind
  .by_cases e:B=s.w.heap.size<;>simp[e]
  .simp at g;subst g;cases O:s.M s.w.heap.size o with
   |none=>rfl
   |some v=>have:=hh.block O;omega
 have G:aF σ {s with w:=s.w.alloc (.cells xs.toArray E)}/\Step σ s σ {s with w:=s.w.alloc (.cells xs.toArray E)} :=
  hh.grow (by simp) (λb D=>cR s.w _ D) (λb D o=>rfl) (λb D o v O=>by have:=hh.block O;omega) rfl rfl rfl
 obtain⟨g1,g2⟩:=G.1.ik G.2 rfl hh hB (λb D=>by simp_all)
 refine⟨(s.w.heap.size,xs),.value (.slice (aa ⟨s.w.heap.size,0,af⟩) n n),_,_,?_,.inl rfl,Rd.val rfl,g1,g2,?_⟩
 .simp[aw,h,H,F,r,xs]
 .have e:aw a.eval o=(do pure (.value (<-Instr.makeSlice t (.int L n) (.int Q n)))):=by simp[aw,h,H,F]
  rw[e];refine eU ?_;intro e A;have hu:∀u,(underlying t).run P u=.ok (.slice E) u:=λu=>by simp[underlying,l]
  have R:∀u,(typeInfo E).run P u=.ok f u:=λu=>by simp[typeInfo,I]
  have U:∀u,(zeroValue E).run P u=.ok z u:=λu=>by simp[zeroValue,typeInfo,I,W]
  have S:∀u,(sizeOf E).run P u=.ok f.size u:=λu=>by simp[sizeOf,typeInfo,I]
  have wl:IntKind.i64.wrap (n:Int)=n:=by grind[IntKind.wrap_i64]
  have n1:¬(n:Int)<0:=by omega
  have n2:¬(281474976710656<(f.bytes:Int)*n):=by omega
  simp[Instr.makeSlice,hu,R,S,asInt,asIntOf,wl,n1,n2]at A;rw[U]at A;simp only[aP,(di.newRow (P:=P)) _ _,ite_self]at A;unfold askRoom at A;split at A
  .have:e=⟨.mark .noRoom,ae,ab⟩:=by simpa using A
   rw[this];exact .inl rfl
  .simp at A
end
section
variable {σ σ':List aR}{s s':St}{k n d:Nat}{es:Nat->List C}{u:ah}
end
def vk{α:Type}{xs vs:List α}{a:Nat}(h:a+vs.length<=xs.length)(p:Nat):(xs.take a++vs++xs.drop (a+vs.length))[p]?=if a<=p/\p<a+vs.length then vs[p-a]? else xs[p]?:=by
 have b:(xs.take a).length=a:=by grind
 grind
def gy.fH{k n:Nat}{es es':Nat->List C}{xs vs:List ah}{new:List A}(h:gy k n es xs)(i j:Nat)(hi:i<n)(p:nn vs new)(r:j+new.length<=k)(D:∀a,a<n->a≠i->es' a=es a)(hl:(es' i).length=k)(t:∀(q:Nat) (c:C),(es' i)[q]?=aa c->(j<=q/\q<j+new.length/\new[q-j]?=aa (A.c c))∨(¬(j<=q/\q<j+new.length)/\(es i)[q]?=aa c)):gy k n es' (xs.take (i*k+j)++vs++xs.drop (i*k+j+vs.length)):=by
 have z:i*k+k<=n*k:=by rw[<-lD];exact eP _ hi
 have v:=p.1;have B:=h.len;have f:i*k+j+vs.length<=xs.length:=by omega
 refine⟨by grind,λa b=>?_,λa b q c x=>?_⟩
 .by_cases e:a=i
  .grind
  .rw[D a b e];exact h.wid a b
 .rw[vk f];by_cases e:a=i
  .subst e;rcases t q c x with⟨h1,h2,y⟩|⟨h1,h2⟩
   .rw[bl (by omega),show a*k+q-(a*k+j)=q-j by omega];exact p.2 _ c y
   .rw[aY (by omega)];exact h.at' a b q c h2
  .have m:(es a)[q]?=aa c:=by grind
   have w:q<k:=by rw[<-h.wid a b];grind
   rw[aY ?_]
   .exact h.at' a b q c m
   .rcases Nat.lt_or_gt_of_ne e with g|l
    .have:a*k+k<=i*k:=by rw[<-lD];exact eP _ g
     omega
    .have:i*k+k<=a*k:=by rw[<-lD];exact eP _ l
     omega
def gy.snoc{k n:Nat}{es es':Nat->List C}{xs vs:List ah}(h:gy k n es xs)(l:∀i,i<n->es' i=es i)(hl:(es' n).length=k)(f:vs.length=k)(m:∀(q:Nat)(c:C),(es' n)[q]?=aa c->∃v,vs[q]?=aa v/\∀M,Rd M v c):gy k (n+1) es' (xs++vs):=by
 have j:=h.len;refine⟨by grind,λi hi=>?_,λi hi q c p=>?_⟩
 .by_cases e:i=n
  .grind
  .rw[l i (by omega)];exact h.wid i (by omega)
 .by_cases e:i=n
  .grind
  .have a:i<n:=by omega
   have b:(es i)[q]?=aa c:=by grind
   have g:q<k:=by rw[<-h.wid i a];grind
   have:i*k+k<=n*k:=by rw[<-lD];exact eP _ a
   rw[jy (by omega)];exact h.at' i a q c b
def Am(T:List (Nat×TI))(φ:Fr):List ResultVar->Option (List D)
 |[]=>aa []
 |.tmp t::r=>match Am T φ r with
  |some q=>aa (look φ t::q)
  |none=>af
 |.cell ad t::r=>match Am T φ r with
  |some q=>match look φ ad with
   |.e (.one (.c (.rp cs)))=>match bG T t with
    |some i=>match lb i (cs.map A.c)with
     |some e=>aa (.e e::q)
     |none=>af
    |none=>af
   |_=>af
  |none=>af
def An{P:ar}{T:List (Nat×TI)}(hT:cW P T){N:Nat}{σ:List aR}{s:St}{φ:Fr}{a:Act}(f:cu N σ s φ a):∀{rs:List ResultVar}{ds:List D},Am T φ rs=aa ds ->
  ∃vs,cp σ s vs ds/\∀w,(∀b o u,s.M b o=aa u->w.cell? ⟨b,o,af⟩=aa u)->(rs.mapM (gv a)).run P w=Result.ok vs w/\∀es,∀e∈(rs.mapM (gv a)).events P w es,e∈es∨∃b o u,e=⟨.cell ⟨b,o,af⟩,ae,ae⟩/\s.M b o=aa u
 |[],ds,h=>by cases h;exact⟨[],ay,λw _=>⟨by simp,λes e l=>.inl (by simpa using l)⟩⟩
 |.tmp t::r,ds,h=>by
  simp only[Am]at h;cases F:Am T φ r with
  |none=>grind
  |some q =>
   simp[F]at h;subst h;obtain⟨vs,Q,V⟩:=An hT f F;refine⟨a.tmps.getD t ai::vs,⟨f.slot t,Q⟩,λw p=>?_⟩;obtain⟨k1,U⟩:=V w p;refine⟨by simp only[lT,bT,gv,dx,b5,k1],λes e l=>U es e ?_⟩;simpa[lT,gv,k1]using l
 |.cell ad t::r,ds,h=>by
  simp only[Am]at h;cases F:Am T φ r with
  |none=>grind
  |some q =>
   simp only[F]at h;have hs:=f.slot ad;generalize look φ ad=x at h hs;split at h
   case h_2=>cases h
   rename_i cs;cases hi:bG T t with
   |none=>grind
   |some i =>
    simp only[hi]at h;cases k:lb i (cs.map A.c)with
    |none=>grind
    |some e0 =>
     simp[k]at h;subst h;obtain⟨vs,Q,V⟩:=An hT f F;have O:=e9 hs;generalize R:a.tmps.getD ad ai=vx at O;cases O;rename_i b off g hm NB;let y:=(bh cs.length).map g;have B:ei σ s y (cs.map A.c):=by
      have key:∀(n:Nat) (ds:List C),(∀j c,ds[j]?=aa c->Rd s.M (g (n+j)) c)->ei σ s ((bh ds.length).map λj=>g (n+j)) (ds.map A.c):=by
       intro n ds;induction ds generalizing n with
       |nil=>intro _;trivial
       |cons d ds ih =>
        intro hd;rw[fb,vD];refine⟨hd 0 d rfl,?_⟩;have:=ih (n+1) (λj c m=>by have:=hd (j+1) c (by grind);grind);grind[Function.comp_def]
      have:=key 0 cs (by grind);grind
     have L:∀(j:Nat) (v:ah),y[j]?=aa v->s.M b (off+j)=aa v:=λj v m=>by
      simp only[y,nj]at m;by_cases E:j<cs.length
      .simp[E]at m;subst m;exact hm j cs[j] (br E)
      grind
     let w0:aA:={s.w with heap:=s.w.heap}
     have J:∃v,nB σ s v e0/\∀w,(∀b o u,s.M b o=aa u->w.cell? ⟨b,o,af⟩=aa u)->(loadVar t ⟨b,off,af⟩).run P w=.ok v w:=by
      have hg:=hT t i hi;cases W:i.agg<;>simp only[lb,W]at k
      .cases I:dC 0 (cs.map A.c)with
       |none=>grind
       |some a0 =>
        simp[I]at k;subst k;obtain⟨v,hv,Y⟩:=B.get (b9 I);refine⟨v,Y,λw p=>?_⟩;have:=p _ _ _ (L 0 v hv);simp only[loadVar,bT,hg.kG,b5,W];grind[run_load]
      .cases I:oU i.size (cs.map A.c)with
       |none=>grind
       |some r0 =>
        simp[I]at k;subst k;obtain⟨q1,q2⟩:=nN I;have z:=B.take i.size;rw[<-q1]at z;have hl:(y.take i.size).length=i.size:=by grind
        refine⟨.agg (y.take i.size).toArray,⟨y.take i.size,rfl,z⟩,λw p=>?_⟩
        have H:=run_loadCells_list (P:=P) w ⟨b,off,af⟩ (y.take i.size) (λj v m=>by grind[du])
        rw[hl]at H;simp only[loadVar,bT,hg.kG,b5,W];simp[hg.run_sizeOf,H]
     obtain⟨v,S,Z⟩:=J;refine⟨v::vs,⟨S,Q⟩,λw p=>?_⟩;obtain⟨k1,U⟩:=V w p;have G:(gv a (.cell ad t))=loadVar t ⟨b,off,af⟩:=by simp[gv,R,asAddr]
     refine⟨by grind[Go.Sem.run_bind,Go.Sem.run_pure,Go.Result.andThen_ok],λes e l=>?_⟩;rw[lT,G]at l;simp only[aM,Z w p,aP,k1,Sem.events_pure]at l;rcases U _ e l with l|l
     .rcases Ej l with l|l
      .grind
      .obtain⟨j,m,rfl⟩:=gu (hT t i hi) (w:=w) (n:=cs.length) (λj m=>⟨g j,p _ _ _ (hm j cs[j] (br m))⟩) (by have:=ld k;grind) e l;exact .inr ⟨b,off+j,g j,rfl,hm j cs[j] (br m)⟩
     grind
theorem Al.U5{P:ar}{T:List (Nat×TI)}(hT:cW P T){fn:Func}{φ:Fr}{ds:List D}{d:D}(h:Am T φ fn.results.toList=aa ds)(hj:sF ds=aa d):Al P fn φ d:=by
 intro N σ s a f;obtain⟨vs,h1,h2⟩:=An hT f h;refine⟨_,Ci hj h1,λw i=>?_⟩;obtain⟨k1,j⟩:=h2 w i;have e1:(fn.results.mapM (gv a)).run P w=Result.ok vs.toArray w:=by grind[Array.mapM_eq_mapM_toList,Sem.run_map,Go.Result.andThen_ok]
 have e2:∀es,∀e∈(fn.results.mapM (gv a)).events P w es,e∈es∨∃b o u,e=⟨.cell ⟨b,o,af⟩,ae,ae⟩/\s.M b o=aa u:=by rw[ru];intro es e c;exact j es e (by simpa using c)
 constructor
 .unfold results;rw[bT];refine(dJ (λr=>Result.andThen r _) (Eq.trans ?_ e1)).trans ?_
  .congr 2
  .simp
 .intro e c;have g:e∈(fn.results.mapM (gv a)).events P w #[]:=by unfold results at c;rw[aM]at c;change e∈((fn.results.mapM (gv a)).run P w).evThen ((fn.results.mapM (gv a)).events P w #[]) _ at c;rw[e1]at c;simpa using c
  grind
section
variable {P:ar}{X:Cx P}{N:Nat}{K:List It}{φ:Fr}{σ:List aR}
def HR(T:List (Nat×TI))(rs:List ResultVar)(ks:List Nat)(φ:Fr)(res:D):Option (List Prop) :=
 match Am T φ rs with
 |some ds=>match sF ds with
  |some d=>match wC ks.length res with
   |true=>Ed d (iu ks res)
   |false=>af
  |none=>af
 |none=>af
def AK.RU{T:List (Nat×TI)}(hT:cW P T){fn:Func}{a:Nat}{res:D}{σ':List aR}(ks:List Nat){ps:List Prop}(h:HR T fn.results.toList ks φ res=aa ps)(e:az ps)(d:j3 ks σ=aa σ')(b:kJ σ'=ab)(c:dH ks=ab)(hk:∀j,j<a->ks[j]?=aa j):
  AK X N (rD P fn a res σ') (.code .ret::K) .normal φ σ:=by refine AK.ret ⟨.inl rfl,ks,?_⟩;unfold HR at h;grind[Al.U5]
def Ev.sH{f:aJ}{fn:Func}{c:Code}{args:List D}{σ σ':List aR}{res:D}(d:P.funcs[f]?=aa fn)(a:(fn.name== "runtime.NumGoroutine")=ae)(e:fn.body=aa c)(b:bA args.length fn.ntmps=ab)(h:Fits args σ->AK X fn.ntmps (rD P fn σ.length res σ') [.code c] .normal (ji 0 args) σ):Ev X f args σ res σ':=by refine⟨⟨fn,d,a,by grind⟩,λs vs hr hh=>?_⟩;have:=ef.JQ (X:=X) (ι:=Unit) (σ':=λ_=>σ') (res:=λ_=>res) d a e (db b) (AW.mono (AK.of_code (h ⟨s,vs,hr,hh⟩)) λ_ _ _ q=>⟨(),q⟩);exact this.Ce.2 s vs hr hh
def cw.mk{fn:Func}{a:Nat}{res:D}{σ':List aR}(ks:List Nat){ps:List Prop}(h:Ao fn.results.toList ks φ res=aa ps)(e:az ps)(d:j3 ks σ=aa σ')(b:kJ σ'=ab)(c:dH ks=ab)(hk:∀j,j<a->ks[j]?=aa j):cw fn a res σ' .ret φ σ:=by refine⟨.inl rfl,ks,?_⟩;unfold Ao at h;grind
end
def G0{α:Type}{l:Nat}{x:α}:∀{ks:List Nat}{a r:List α},j3 ks a=aa r->l∉ks->j3 ks (a.set l x)=aa r
 |[],a,r,h,_=>h
 |k::ks,a,r,h,b=>by
  simp only[eB,not_or]at b;simp only[j3,fC]at h⊢;rw[kC b.1];cases hk:a[k]? with
  |none=>simp[hk]at h
  |some y =>
   simp only[hk]at h⊢;cases c:j3 ks a with
   |none=>simp[c]at h
   |some q=>rw[G0 c b.2];simp only[c]at h;exact h
def CM{k:Nat}{l:List Nat}(h:iv k l=ae):k∉l:=λhk=>by rw[vN hk]at h;cases h
def oR:Option (Tmp×E1)->List ResultVar
 |none=>[]
 |some q=>[.tmp q.1]
def oD(cs:List A):Option (Tmp×E1)->D
 |none=>.e (.agg cs)
 |some q=>.fa [.agg cs,q.2]
def KR(T:List (Nat×TI))(fn:Func)(a:Nat)(res:D)(σ':List aR):Post:=λe φ σ1 =>
 (e=.ret∨e=.normal)/\∃ks l E cs t ty it ps,∃o:Option (Tmp×E1),(∀q,o=aa q->look φ q.1=.e q.2)/\fn.results.toList=.cell t ty::oR o/\bG T ty=aa it/\it.agg=ab/\cs.length=it.size/\look φ t=.e (.one (.ptr l 0))/\σ1[l]?=aa (.cells E cs)/\l∉ks /\
  Ed (oD cs o) (iu ks res)=aa ps/\az ps/\wC ks.length res=ab/\j3 ks σ1=aa σ'/\kJ σ'=ab/\dH ks=ab/\(∀j,j<a->ks[j]?=aa j)
def ef.SG{P:ar}{ι:Type}{X:Cx P}{T:List (Nat×TI)}(hT:cW P T){f:aJ}{fn:Func}{c:Code}{args:List D}{σ:List aR}{σ':ι->List aR}{res:ι->D}(hf:P.funcs[f]?=aa fn)(OH:(fn.name== "runtime.NumGoroutine")=ae)(r:fn.body=aa c)(hlen:args.length<=fn.ntmps)(h:∀s a,cu fn.ntmps σ s (ji 0 args) a->aF σ s->∀(b:aU) (k:List Item) (cs:List aU) (S:av->St->Prop),b.kind≠.early->b.roundOf=af ->
  (∀e φ' σ1 s' a',(∃j,KR T fn σ.length (res j) (σ' j) e φ' σ1)->cu fn.ntmps σ1 s' φ' a'->aF σ1 s'->cY σ s σ1 s'->ends X S b k cs e a' s')->fL X S (G (b.aT a (.code c::k)) cs) s):ef X f args σ res σ':=by
 refine⟨⟨fn,hf,OH,by rw[r];rfl⟩,λs vs hr hh S cs hS=>?_⟩;obtain⟨hl,hg⟩:=cp.get hr;let b:aU:={fn:=f,tmps:=#[],todo:=[],defers:=[],mode:=.run,kind:=.normal,roundOf:=af}
 have I:Frame.enter P f vs.toArray .normal=b.aT {tmps:=vs.toArray++Array.replicate (fn.ntmps-vs.toArray.size) ai,defers:=[]} [.code c]:=by simp[Frame.enter,Frame.aT,hf,r,b]
 rw[I];refine h s {tmps:=vs.toArray++Array.replicate (fn.ntmps-vs.toArray.size) ai,defers:=[]} ⟨by simp;omega,⟨[],ay⟩,λt=>?_⟩ hh b [] cs S (by simp[b]) rfl ?_
 .rw[oB];simp only[kD,cq,lU];have:=hg t;rcases cM t vs.length with vg|Uv
  .have e:(vs.toArray++Array.replicate (fn.ntmps-vs.toArray.size) ai).getD t ai=(vs[t]?).getD ai:=by simp only[dZ];grind
   rw[e];exact this
  .rw[r9 (by omega)];trivial
 .rintro e φ' σ0 s0 a1 ⟨jj,he,ks,l,E,Y,t,ty,it,ps,o,q0,q1,q2,q3,q4,q5,q6,q7,h3,h4,h5,h6',h7',h8,h9⟩ f0 W YS;obtain⟨h7,h7n⟩:=y3 h7';have C:=f0.slot t;rw[q5]at C;obtain⟨_,L,bb,p,XW,Zh⟩:=C;obtain⟨b2,d,Va,O,hrv,hM⟩:=W.box l _ L q6 p;subst Va;cases XW;let M':Mem:=λm o=>if m=bb then d[o]? else s0.M m o;have U2:∀o v,d[o]?=aa v->s0.w.cell? ⟨bb,o,af⟩=aa v:=λo v ho=>by simpa[aV,O]using ho
  have UP:∀m o v,s0.M m o=aa v->M' m o=aa v:=λm o v hv=>by grind
  have hcM:∀m o v,M' m o=aa v->s0.w.cell? ⟨m,o,af⟩=aa v:=λm o v hv=>by
   by_cases e:m=bb
   .grind
   .simp only[M',e,ck]at hv;exact W.mem m o v hv
  obtain⟨h',H⟩:=W.gJ (M':=M') (w':=s0.w) (B':=.dead) (L':=⟨.pointer (aa ⟨bb,0,af⟩),[]⟩) q6 p rfl (bc _) (λ_ _ _=>rfl) (λm _ U o=>by grind) UP hcM (by simp) rfl rfl rfl ay
  have XT:eF s0 ⟨s0.β.set l ⟨.pointer (aa ⟨bb,0,af⟩),[]⟩,M',s0.w,s0.own⟩:=⟨rfl,UP,λm U o=>by
   have:m≠bb:=by rintro rfl;exact U _ (bP p) (by simp)
   simp only[M',this,ck],hcM,λm U=>by grind⟩
  have f':cu fn.ntmps (σ0.set l .dead) ⟨s0.β.set l ⟨.pointer (aa ⟨bb,0,af⟩),[]⟩,M',s0.w,s0.own⟩ φ' a1:=⟨f0.size,f0.defers.imp λ_ h1=>h1.mono H.ext,λu=>(f0.slot u).mono H.ext W.len⟩
  have h6:=G0 (x:=aR.dead) h6' q7;have Zi:ei (σ0.set l .dead) ⟨s0.β.set l ⟨.pointer (aa ⟨bb,0,af⟩),[]⟩,M',s0.w,s0.own⟩ d Y:=hrv.mono H.ext W.len;have st:=YS.trans (H.nD W);let V:ah:=match o with|none=>.agg d.toArray|some q=>.tuple #[.agg d.toArray,a1.tmps.getD q.1 ai]
  have K:∀w,(∀b o u,M' b o=aa u->w.cell? ⟨b,o,af⟩=aa u)->(results fn a1.tmps).run P w=.ok V w/\∀e∈(results fn a1.tmps).events P w #[],∃b o u,e=⟨.cell ⟨b,o,af⟩,ae,ae⟩/\M' b o=aa u:=by
   intro w hw;have Q:=hT ty it q2;have hrl:d.length=it.size:=by rw[hrv.length,q4]
   have Uq:∀j v,d[j]?=aa v->w.cell? ⟨bb,0+j,af⟩=aa v:=λj v hj=>hw _ _ _ (by grind);have XI:=run_loadCells_list (P:=P) w ⟨bb,0,af⟩ d (λj v hj=>by rw[du];exact Uq j v hj);rw[hrl]at XI;have HL:(loadVar ty ⟨bb,0,af⟩).run P w=.ok (.agg d.toArray) w:=by simp only[loadVar,bT,Q.kG,b5,q3];simp[Q.run_sizeOf,XI]
   have hra:fn.results=(ResultVar.cell t ty::oR o).toArray:=by apply Array.ext';simpa using q1
   have N:asAddr (a1.tmps[t]?.getD ai)=(pure ⟨bb,0,af⟩:Sem Addr):=by rw[<-dZ,Zh];rfl
   refine⟨by cases o<;>simp[results,hra,N,HL,V,oR],λe he=>?_⟩;have RM:e∈(loadVar ty ⟨bb,0,af⟩).events P w #[]:=by cases o<;>simpa[results,hra,N,HL,oR]using he
   obtain⟨j,hj,rfl⟩:=gu Q (w:=w) (n:=d.length) (λj hj=>⟨_,Uq j d[j] (br hj)⟩) (by rw[q3,hrl];simp) e RM;exact⟨bb,0+j,d[j],rfl,by grind⟩
  have fin:∀(fr:aU) s2,cv (⟨s0.β.set l ⟨.pointer (aa ⟨bb,0,af⟩),[]⟩,M',s0.w,s0.own⟩:St) s2->fr.fn=f->fr.tmps=a1.tmps->fr.defers=a1.defers->fr.mode=.returning->fr.kind=.normal->fL X S (G fr cs) s2:=by
   intro fr s2 tH e1 e2 e3 e4 e5;have f2:=f'.rely tH h';have z:=h'.rely tH;have g:=st.trans tH.stepW;have r2:dt (σ0.set l .dead) s2 V (oD Y o):=by
    have hr3:=Zi.mono tH.stepW.ext h'.len;cases o with
    |none=>exact⟨d,rfl,hr3⟩
    |some q =>
     have hx:=f2.slot q.1;rw[q0 q rfl]at hx;exact⟨[.agg d.toArray,a1.tmps.getD q.1 ai],rfl,⟨d,rfl,hr3⟩,hx,ay⟩
   obtain⟨i,J⟩:=wz (l':=s2.β) h6 z.len;have r4:=(oC h3 h4 r2).sub h6 J h5;obtain⟨c1,c2⟩:=iT h6;obtain⟨d1,d2⟩:=iT J;have R:∀L∈i,L∈s2.β:=Ak J;have Uy:aF (σ' jj) {s2 with β:=i}:=by obtain⟨g1,_⟩:=z.sub h6 J h7 h8;refine⟨g1.mem,g1.len,λj B L hB p=>?_,g1.eO,g1.lt,λb r=>⟨(z.own b r).1,λL p=>(z.own b r).2 L (R L p)⟩⟩;exact eE.plain (σ:=σ' jj) (s:={s2 with β:=i,own:=wE s2 i}) (s':={s2 with β:=i}) rfl rfl (k8 h7 B (bP hB)) (g1.box j B L hB p)
   have SF:cY σ s (σ' jj) {s2 with β:=i}:=by refine⟨g.size,g.fy,g.mem,g.je,λL p b r=>g.vJ _ (R L p) b r,λl B L hB p=>?_,g.os,g.tape,g.output,g.own⟩;have hl:l<σ.length:=(b6.1 hB).1;obtain⟨B',L',p1,p2,p3⟩:=g.box l B L hB p;grind
   obtain⟨ls,XX⟩:=f2.defers;refine rH ls fr s2 _ z.lW (by grind) e4 (by rw[e3];exact XX.taken z) λs3 A=>?_;have F:cv {s2 with β:=i} {s3 with β:=i}:=by
    refine⟨rfl,A.M,A.own,A.size,λb r=>A.fy b (r.imp id ?_),A.mem,A.os,A.tape,A.output⟩;rintro⟨L,p,r⟩;obtain⟨j,hj,rfl⟩:=dG p;have hj':j<ks.length:=by rw[<-d1];exact hj
    obtain⟨y,y1,y2⟩:=d2 j _ (br hj');obtain⟨x,x1,x2⟩:=c2 j _ (br hj');rw[br hj]at y1;cases y1;refine⟨_,_,y2,λhc=>?_,r⟩;rw[XX.Cz _ hc]at x2;cases x2;exact nO h7n _ (bP x1) rfl
   have hG:eF s3 {s3 with β:=i}:=⟨rfl,λ_ _ _ h=>h,λ_ _ _=>rfl,λb o v hv=>A.mem b o v (by rw[<-A.M];exact hv),λb r=>r.imp id λ⟨L,p,r⟩=>⟨L,by rw[A.β];exact R L p,r⟩⟩
   have Z:s2.M=M':=tH.M;refine .ghost hG (hS jj _ V _ ⟨e1,e4,rfl,e5,fn,by grind,λw hw=>?_⟩ (r4.mono F.stepW.ext Uy.len) (Uy.rely F) (SF.trans F.stepW));show(results fn fr.tmps).run P w=_/\∀e∈(results fn fr.tmps).events P w #[],_;rw[e2];have hw':∀b o u,M' b o=aa u->w.cell? ⟨b,o,af⟩=aa u:=λb o u h=>hw b o u (by show s3.M b o=aa u;rw[A.M,Z];exact h);refine⟨(K w hw').1,λe he=>?_⟩;obtain⟨b,o,u,q1,q2⟩:=(K w hw').2 e he;exact⟨b,o,u,q1,by show s3.M b o=aa u;rw[A.M,Z];exact q2⟩
  rcases he with rfl|rfl
  .intro pre;exact .ghost XT (.ctl h' rfl (λ_=>Ek rfl) λs2 tH=>fin _ s2 tH rfl rfl (iD _) rfl rfl)
  .exact .ghost XT (.ctl h' rfl (λ_=>El rfl) λs2 tH=>fin _ s2 tH rfl rfl (iD _) rfl rfl)
def ef.sH{P:ar}{ι:Type}{X:Cx P}{T:List (Nat×TI)}(hT:cW P T){f:aJ}{fn:Func}{c:Code}{args:List D}{σ:List aR}{σ':ι->List aR}{res:ι->D}(l:P.funcs[f]?=aa fn)(d:(fn.name== "runtime.NumGoroutine")=ae)(i:fn.body=aa c)(g:bA args.length fn.ntmps=ab)(h:Fits args σ->AK X fn.ntmps (λe φ σ1=>∃j,KR T fn σ.length (res j) (σ' j) e φ σ1) [.code c] .normal (ji 0 args) σ):ef X f args σ res σ':=by refine⟨⟨fn,l,d,by rw[i];rfl⟩,λs0 vs hr NV=>?_⟩;have:=ef.SG (X:=X) (σ':=σ') (res:=res) hT l d i (db g) λs a f hh b k cs S hk _ m=>(show AW X fn.ntmps c _ (ji 0 args) σ from AK.of_code (h ⟨s0,vs,hr,NV⟩)) s a f hh b k cs S hk m;exact this.2 s0 vs hr NV
def ei.set{σ:List aR}{s:St}{a:A}{v:ah}:∀{vs:List ah}{cs:List A}{j:Nat},ei σ s vs cs->vs[j]?=aa v->gB σ s v a->ei σ s vs (cs.set j a)
 |[],[],_,_,h,_=>by grind
 |[],_::_,_,h,_,_=>h.elim
 |_::_,[],_,h,_,_=>h.elim
 |u::vs,c::cs,0,h,b,d=>by simp at b;subst b;exact⟨d,h.2⟩
 |u::vs,c::cs,j+1,h,b,d=>⟨h.1,ei.set h.2 (by grind) d⟩
section
variable {P:ar}{X:Cx P}{N:Nat}{Qf:Post}{K:List It}{φ:Fr}{σ:List aR}{c:Code}
def AK.hZ(l j:Nat)(E k:Nat)(es':Nat->List C){E0:aj}{cs:List A}{k':Nat}{q:Nat->List C}(hl:dC l σ=aa (.cells E0 cs))(hj:dC j cs=aa (.c (.sl ab k' 0 q)))(kk:AK X N Qf (.code c::K) .normal φ ((σ++[aR.vec E k 0 es']).set l (.cells E0 (cs.set j (.vec σ.length k 0 es'))))):AK X N Qf (.code c::K) .normal φ σ:=by
 refine AK.ghost (λs a t hh=>?_) kk;have hB:=b9 hl;have J:=b9 hj;have H:l<σ.length:=(b6.1 hB).1;have f:l<s.β.length:=by rw[hh.len];grind
 have p:=br f;generalize s.β[l]=L at p;obtain⟨b,vs,z,d,o,O⟩:=hh.box l _ L hB p;obtain⟨v,Q,S⟩:=o.get J;have h1:Rd s.M v (.sl ab k 0 es'):=(Rd.vH (k:=k') (k':=k) (.inr rfl) S).Eh λi hi=>by omega
 have x:eE (σ++[aR.vec E k 0 es']) {s with β:=s.β++[⟨v,[]⟩]} (.vec E k 0 es') ⟨v,[]⟩:=⟨h1.loose,.inl ⟨⟨rfl,rfl⟩,h1⟩⟩;obtain⟨I,G⟩:=hh.ik (.refl _ _) rfl hh x (by simp)
 have D:(σ++[aR.vec E k 0 es'])[l]?=aa (.cells E0 cs):=by grind
 have y:(s.β++[(⟨v,[]⟩:Loc)])[l]?=aa L:=by grind
 have n:(s.β++[(⟨v,[]⟩:Loc)]).set l L=s.β++[⟨v,[]⟩]:=by apply iY;grind
 have r:gI (.cells E0 cs) L (.cells E0 (cs.set j (.vec σ.length k 0 es'))) L:=rfl;have T:σ.length≠l:=by omega
 have g:eE ((σ++[aR.vec E k 0 es']).set l (.cells E0 (cs.set j (.vec σ.length k 0 es')))) ⟨(s.β++[(⟨v,[]⟩:Loc)]).set l L,s.M,s.w,s.own⟩ (.cells E0 (cs.set j (.vec σ.length k 0 es'))) L:=by
  rw[n];refine⟨b,vs,z,d,?_,O⟩;have ex:Ext (σ++[aR.vec E k 0 es']) {s with β:=s.β++[⟨v,[]⟩]} ((σ++[aR.vec E k 0 es']).set l (.cells E0 (cs.set j (.vec σ.length k 0 es')))) {s with β:=s.β++[⟨v,[]⟩]}:=by
   refine⟨λ_ _ _ h=>h,λi B L' kv fA=>?_⟩;by_cases e:l=i
   .grind
   .exact⟨B,L',by grind,fA,.refl _ _⟩
  have m:ei (σ++[aR.vec E k 0 es']) {s with β:=s.β++[⟨v,[]⟩]} vs cs:=o.mono G.ext hh.len;refine ei.set (m.mono ex I.len) Q ?_;refine⟨h1.loose,by simp,λE2 k2 n2 Aa h=>?_⟩;rw[kC (by omega),gk (by omega),Nat.sub_self]at h;cases h;refine⟨bc _,λ_=>⟨⟨v,[]⟩,?_,rfl⟩⟩;simp[<-hh.len]
 obtain⟨R,q2⟩:=I.gJ (M':=s.M) (w':=s.w) (L':=L) D y r (bc _) (λ_ _ _=>rfl) (λ_ _ _ _=>rfl) (λ_ _ _ h=>h) hh.mem (λb F=>⟨.inl F,hh.lt L (bP p) b F⟩) rfl rfl rfl g;have st:=G.trans q2;exact⟨⟨(s.β++[(⟨v,[]⟩:Loc)]).set l L,s.M,s.w,s.own⟩,rfl,⟨t.size,t.defers.imp λ_ h1=>h1.mono st.ext,λu=>(t.slot u).mono st.ext hh.len⟩,R,st⟩
end
section
variable {P:ar}{X:Cx P}{N:Nat}{Qf:Post}{K:List It}{φ:Fr}{σ:List aR}{c:Code}
def AK.VQ(t:Nat)(E k:Nat)(es':Nat->List C){k':Nat}{f:Nat->List C}(j:look φ t=.e (.one (.c (.sl ab k' 0 f))))(kk:AK X N Qf (.code c::K) .normal ((t,.e (.one (.bp σ.length (.sl 0 k 0 0))))::φ) (σ++[.buf E k 0 es'])):AK X N Qf (.code c::K) .normal φ σ:=by
 refine AK.ghost (λs a b hh=>?_) kk;have g:=b.slot t;rw[j]at g;obtain⟨i,d⟩:=hh.ik (B:=.buf E k 0 es') (L:=⟨.slice af 0 0,[]⟩) (.refl _ _) rfl hh (.inl ⟨rfl,rfl⟩) (by simp);refine⟨{s with β:=s.β++[⟨.slice af 0 0,[]⟩]},rfl,⟨b.size,b.defers.imp λ_ h1=>h1.mono d.ext,λu=>?_⟩,i,d⟩;simp only[look];cases h:aB t u with
 |false=>exact(b.slot u).mono d.ext hh.len
 |true =>
  have e:=bX h;subst e;exact vI (E:=E) (es:=es') (e9 g) (by simp) (by simp[<-hh.len])
def AK.tc(l j:Nat)(E k:Nat)(es':Nat->List C){E0:aj}{cs:List A}{k':Nat}{t:Nat->List C}(hl:dC l σ=aa (.cells E0 cs))(hj:dC j cs=aa (.c (.sl ab k' 0 t)))(kk:AK X N Qf (.code c::K) .normal φ ((σ++[aR.buf E k 0 es']).set l (.cells E0 (cs.set j (.bp σ.length (.sl 0 k 0 0)))))):AK X N Qf (.code c::K) .normal φ σ:=by
 refine AK.ghost (λs a y hh=>?_) kk;have hB:=b9 hl;have Q:=b9 hj;have J:l<σ.length:=(b6.1 hB).1;have g:l<s.β.length:=by rw[hh.len];grind
 have r:=br g;generalize s.β[l]=L at r;obtain⟨b,vs,F,f,q,S⟩:=hh.box l _ L hB r;obtain⟨v,T,V⟩:=q.get Q;let d:Loc:=⟨.slice af 0 0,[]⟩
 obtain⟨O,I⟩:=hh.ik (B:=.buf E k 0 es') (L:=d) (.refl _ _) rfl hh (.inl ⟨rfl,rfl⟩) (by grind);have G:(σ++[aR.buf E k 0 es'])[l]?=aa (.cells E0 cs):=by grind
 have D:(s.β++[d])[l]?=aa L:=by grind
 have p:(s.β++[d]).set l L=s.β++[d]:=by apply iY;grind
 have x:gI (.cells E0 cs) L (.cells E0 (cs.set j (.bp σ.length (.sl 0 k 0 0)))) L:=rfl;have m:eE ((σ++[aR.buf E k 0 es']).set l (.cells E0 (cs.set j (.bp σ.length (.sl 0 k 0 0))))) ⟨(s.β++[d]).set l L,s.M,s.w,s.own⟩ (.cells E0 (cs.set j (.bp σ.length (.sl 0 k 0 0)))) L:=by
  rw[p];refine⟨b,vs,F,f,?_,S⟩;have ex:Ext (σ++[aR.buf E k 0 es']) {s with β:=s.β++[d]} ((σ++[aR.buf E k 0 es']).set l (.cells E0 (cs.set j (.bp σ.length (.sl 0 k 0 0))))) {s with β:=s.β++[d]}:=by
   refine⟨λ_ _ _ h=>h,λi B L R z=>?_⟩;by_cases e:l=i
   .grind
   .exact⟨B,L,by grind,z,.refl _ _⟩
  have o:ei (σ++[aR.buf E k 0 es']) {s with β:=s.β++[d]} vs cs:=q.mono I.ext hh.len;exact ei.set (o.mono ex O.len) T (vI (E:=E) (es:=es') V (by grind) (by simp[<-hh.len,d]))
 obtain⟨U,q2⟩:=O.gJ (M':=s.M) (w':=s.w) (L':=L) G D x (bc _) (λ_ _ _=>rfl) (λ_ _ _ _=>rfl) (λ_ _ _ h=>h) hh.mem (λb H=>⟨.inl H,hh.lt L (bP r) b H⟩) rfl rfl rfl m;have st:=I.trans q2;exact⟨⟨(s.β++[d]).set l L,s.M,s.w,s.own⟩,rfl,⟨y.size,y.defers.imp λ_ h1=>h1.mono st.ext,λu=>(y.slot u).mono st.ext hh.len⟩,U,st⟩
end
def rE:Nat->(Nat->List C)->Nat->List C
 |0,es=>es
 |o+1,es=>mf (o+1) es
def vP(o:Nat)(es:Nat->List C)(i:Nat):rE o es i=es (o+i):=by cases o<;>simp[rE,mf]
def AU(l k n:Nat)(es:Nat->List C)(a:A):Option (A×List Prop):=match HP l a with
 |true=>aa (a,[])
 |false=>match a with
  |.bp l' (.sl g k' o m)=>match aB l' l,aB k' k with
   |true,ab=>aa (.c (.sl ae k m (rE o es)),[g=n,o+m<=n])
   |_,_=>af
  |_=>af
def AV(l k n:Nat)(es:Nat->List C):List A->Option (List A×List Prop)
 |[]=>aa ([],[])
 |a::r=>match AU l k n es a with
  |some (a',p)=>match AV l k n es r with
   |some (r',q)=>aa (a'::r',la p q)
   |none=>af
  |none=>af
def xy(l k n:Nat)(es:Nat->List C):E1->Option (E1×List Prop)
 |.one a=>match AU l k n es a with|some (a,p)=>aa (.one a,p)|none=>af
 |.agg cs=>match AV l k n es cs with|some (cs,p)=>aa (.agg cs,p)|none=>af
def vY(l k n:Nat)(es:Nat->List C):List E1->Option (List E1×List Prop)
 |[]=>aa ([],[])
 |a::r=>match xy l k n es a with
  |some (a',p)=>match vY l k n es r with
   |some (r',q)=>aa (a'::r',la p q)
   |none=>af
  |none=>af
def xz(l k n:Nat)(es:Nat->List C):D->Option (D×List Prop)
 |.e x=>match xy l k n es x with|some (x,p)=>aa (.e x,p)|none=>af
 |.fa xs=>match vY l k n es xs with|some (xs,p)=>aa (.fa xs,p)|none=>af
 |.any=>aa (.any,[])
section
variable {σ1:List aR}{s s2:St}{E k n:Nat}{es:Nat->List C}
structure mq(σ1:List aR)(E k n:Nat)(es:Nat->List C)(s s2:St):Prop where
 fy:∀v a,gB (σ1++[.buf E k n es]) s v a->HP σ1.length a=ab->gB σ1 s2 v a
 JS:∀v k' o m,gB (σ1++[.buf E k n es]) s v (.bp σ1.length (.sl n k' o m))->k'=k->o+m<=n->Rd s2.M v (.sl ae k m (rE o es))
def mq.a(h:mq σ1 E k n es s s2){v:ah}{a a':A}{ps:List Prop}(b:AU σ1.length k n es a=aa (a',ps))(e:az ps)(r:gB (σ1++[.buf E k n es]) s v a):gB σ1 s2 v a':=by
 unfold AU at b;split at b
 .rename_i d;cases b;exact h.fy v a r d
 .split at b
  .rename_i l' g k' o m _;split at b
   .rename_i e1 e2;cases b;have e1:=bX e1;have e2:=bX e2;subst e1 e2;obtain⟨rfl,h2⟩:g=n/\o+m<=n:=e;exact h.JS v _ _ _ r rfl h2
   grind
  grind
def mq.l(h:mq σ1 E k n es s s2):∀{vs:List ah}{cs nF:List A}{ps:List Prop},AV σ1.length k n es cs=aa (nF,ps)->az ps->ei (σ1++[.buf E k n es]) s vs cs->ei σ1 s2 vs nF
 |[],[],_,_,b,_,_=>by cases b;trivial
 |[],_::_,_,_,_,_,r=>r.elim
 |_::_,[],_,_,_,_,r=>r.elim
 |v::vs,c::cs,nF,ps,b,d,r=>by
  simp only[AV]at b;split at b
  .rename_i a' p h1;split at b
   .rename_i r' q h2;cases b;rw[az.cat]at d;exact⟨h.a h1 d.1 r.1,h.l h2 d.2 r.2⟩
   grind
  grind
def mq.e(h:mq σ1 E k n es s s2){v:ah}{x f:E1}{ps:List Prop}(b:xy σ1.length k n es x=aa (f,ps))(d:az ps)(r:nB (σ1++[.buf E k n es]) s v x):nB σ1 s2 v f:=by
 cases x with
 |one a =>
  simp only[xy]at b;split at b
  .rename_i a' p h1;cases b;exact h.a h1 d r
  grind
 |agg cs =>
  simp only[xy]at b;split at b
  .rename_i a' p h1;cases b;obtain⟨vs,i,g⟩:=r;exact⟨vs,i,h.l h1 d g⟩
  grind
def mq.es'(h:mq σ1 E k n es s s2):∀{vs:List ah}{cs nF:List E1}{ps:List Prop},vY σ1.length k n es cs=aa (nF,ps)->az ps->hY (σ1++[.buf E k n es]) s vs cs->hY σ1 s2 vs nF
 |[],[],_,_,a,_,_=>by cases a;trivial
 |[],_::_,_,_,_,_,r=>r.elim
 |_::_,[],_,_,_,_,r=>r.elim
 |v::vs,c::cs,nF,ps,a,b,r=>by
  simp only[vY]at a;split at a
  .rename_i a' p h1;split at a
   .rename_i r' q h2;cases a;rw[az.cat]at b;exact⟨h.e h1 b.1 r.1,h.es' h2 b.2 r.2⟩
   grind
  grind
def mq.d(h:mq σ1 E k n es s s2){v:ah}{x f:D}{ps:List Prop}(a:xz σ1.length k n es x=aa (f,ps))(b:az ps)(r:dt (σ1++[.buf E k n es]) s v x):dt σ1 s2 v f:=by
 cases x with
 |e x =>
  simp only[xz]at a;split at a
  .rename_i a' p h1;cases a;exact h.e h1 b r
  grind
 |fa xs =>
  simp only[xz]at a;split at a
  .rename_i a' p h1;cases a;obtain⟨vs,i,g⟩:=r;exact⟨vs,i,h.es' h1 b g⟩
  grind
 |any=>cases a;trivial
def aF.JS(hh:aF (σ1++[.buf E k n es]) s)(D:sJ σ1.length σ1=ab):
  ∃s2:St,aF σ1 s2/\eF s s2/\mq σ1 E k n es s s2/\∀{σ0:List aR} {s0:St},cY σ0 s0 (σ1++[.buf E k n es]) s->σ0.length<=σ1.length->cY σ0 s0 σ1 s2:=by
 have hB:(σ1++[aR.buf E k n es])[σ1.length]?=aa (.buf E k n es):=by simp
 have G:s.β.length=σ1.length+1:=by rw[hh.len];simp
 have q:s.β[σ1.length]?=aa s.β[σ1.length]:=br (by omega);generalize s.β[σ1.length]=L at q;have x:=hh.box _ _ L hB q;obtain⟨M',Q,F,O,W⟩:∃M':Mem,(∀b o v,s.M b o=aa v->M' b o=aa v)/\(∀b,b∉L.bs->∀o,M' b o=s.M b o)/\(∀b o v,M' b o=aa v->s.w.cell? ⟨b,o,af⟩=aa v) /\
   (∀v k' o m,gB (σ1++[.buf E k n es]) s v (.bp σ1.length (.sl n k' o m))->k'=k->o+m<=n->Rd M' v (.sl ae k m (rE o es))):=by
  rcases x with⟨rfl,rfl⟩|⟨b,c0,vs,zs,rfl,T,Z,Ye,U,R,hM⟩
  .refine⟨s.M,λ_ _ _ h=>h,λ_ _ _=>rfl,hh.mem,λv k' o m r e l=>?_⟩;obtain⟨lv,⟨a,a0,cap,c0,p,h1,h2,h3,B,S⟩,_,H⟩:=r;grind[Rd.jY]
  .let M':Mem:=λd o=>if d=b then vs[o]? else s.M d o;have J:∀d o v,s.M d o=aa v->M' d o=aa v:=λd o v p=>by grind
   refine⟨M',J,λd B6 o=>?_,λd o v p=>?_,λv k' o m r e l=>?_⟩
   .grind
   .by_cases e:d=b
    .subst e;simp only[M',cq]at p;simp only[aV,T];grind
    .simp only[M',e,ck]at p;exact hh.mem d o v p
   .subst e;obtain⟨lv,⟨a,a0,cap,c1,p,h1,h2,h3,B,S⟩,_,H⟩:=r;obtain⟨L',f,t⟩:=(H _ _ _ _ hB).2 rfl;rw[q]at f;cases f;rw[B]at t;cases t;rw[p];have A:∀i,i<m->∀j c,(rE o es i)[j]?=aa c->∃u,vs[(o+i)*k'+j]?=aa u/\Rd s.M u c:=λi hi j c hj=>by rw[vP]at hj;exact R.rd (o+i) (by omega) j c hj
    refine .sl b (o*k') (λi j=>(vs[(o+i)*k'+j]?).getD ai) h1 (by omega) (by simp) (λi hi=>by rw[vP];exact R.width _ (by omega)) (λhm=>?_) (λi hi j c hj=>?_) (λi hi j c hj=>?_)
    .grind
    .grind
    .obtain⟨u,Y,V⟩:=A i hi j c hj;rw[Y];exact V.mono J
 have z:(σ1++[aR.buf E k n es]).set σ1.length .dead=σ1++[.dead]:=by simp
 obtain⟨I,q2⟩:=hh.gJ (M':=M') (w':=s.w) (B':=.dead) (L':=⟨L.v,[]⟩) hB q ay (bc _) (λ_ _ _=>rfl) (λb _ g o=>F b g o) Q O (by simp) rfl rfl rfl ay;rw[z]at I q2;have q3:=I.drop (rest:=[.dead]) D;refine⟨_,q3,⟨rfl,Q,λb g o=>F b (g L (bP q)) o,O,λb g=>?_⟩,⟨λv a r y=>?_,λv k' o m r e l=>W v k' o m r e l⟩,λ{σ0 s0} st hle=>(st.trans (q2.nD hh)).drop (rest:=[.dead]) hle⟩
 .rcases g with g|⟨L',f,g⟩
  .exact .inl g
  .have:=fM f;grind
 .exact(r.mono q2.ext hh.len).drop (rest:=[.dead]) y
end
def ef.K1{P:ar}{ι:Type}{X:Cx P}{f:aJ}{args:List D}{σ:List aR}{res ub:ι->D}{σ1:ι->List aR}{E k:Nat}{n:ι->Nat}{es:ι->Nat->List C}(h:ef X f args σ res (λi=>σ1 i++[.buf E k (n i) (es i)])){ps:ι->List Prop}(e:∀i,xz (σ1 i).length k (n i) (es i) (res i)=aa (ub i,ps i))(g:∀i,az (ps i))(b:∀i,sJ (σ1 i).length (σ1 i)=ab)(a:∀i,σ.length<=(σ1 i).length):ef X f args σ ub σ1:=by refine⟨h.1,λs vs hr hh S cs hS=>h.2 s vs hr hh S cs λi fr v s' hl mK jh st=>?_⟩;obtain⟨s2,c1,c2,c3,c4⟩:=jh.JS (b i);exact .ghost c2 (hS i fr v s2 (hl.mono c2.mem) (c3.d (e i) (g i) mK) c1 (c4 st (a i)))
def Ev.K1{P:ar}{X:Cx P}{f:aJ}{args:List D}{σ:List aR}{res ub:D}{σ1:List aR}{E k n:Nat}{es:Nat->List C}(h:Ev X f args σ res (σ1++[.buf E k n es])){ps:List Prop}(d:xz σ1.length k n es res=aa (ub,ps))(e:az ps)(b:sJ σ1.length σ1=ab)(a:σ.length<=σ1.length):Ev X f args σ ub σ1 :=
 (ef.K1 (ι:=Unit) h.tO (λ_=>d) (λ_=>e) (λ_=>b) (λ_=>a)).Ce
section
variable {P:ar}{T:List (Nat×TI)}{o:au}{d:aq->D}{σ:List aR}
def Ap{x:aq}{t:aj}(h:o.op=.call {callee:=.builtin .clear,args:=#[x],argTypes:=#[t]})(a:aq->ah):
  aw a o=(do pure (.value (<-Builtin.clear_ #[t] o.type #[a x]))):=by simp[aw,h,resolve,invoke,builtin]
def JR{M:Mem}{z:ah}{f:List C}{m k:Nat}(n:z.cells.toList.map sI=f.map aa)(hk:f.length=k):Flat M k m (λ_=>f) (Builtin.zeroCells z.cells m).toList:=by
 have b:z.cells.size=k:=by have:=dJ List.length n;grind
 have l:ei [] ⟨[],M,default,λ_=>False⟩ z.cells.toList (f.map A.c):=k7 n;refine⟨by simp[Builtin.zeroCells,b],λ_ _=>hk,λi hi j c s=>?_⟩;have q:j<k:=by grind
 obtain⟨v,v1,p⟩:=l.get (j:=j) (a:=A.c c) (by grind);refine⟨v,?_,p⟩;have g:i*k+j<m*k:=by
  have:i*k+k<=m*k:=by rw[<-lD];exact eP k hi
  omega
 have e:(i*k+j) % k=j:=by grind[Nat.add_mul_mod_self_right,Nat.mod_eq_of_lt]
 have r:j<z.cells.size:=by omega
 have t:z.cells[j]=v:=by grind
 have h:z.cells[j]! = v:=by grind
 simp[Builtin.zeroCells,b,g,e,h]
def bM.RV(hT:cW P T){x:aq}{t:aj}(h:o.op=.call {callee:=.builtin .clear,args:=#[x],argTypes:=#[t]}){i c:TI}{E:aj}(hi:bG T t=aa i)(hd:i.desc=.slice E)(hE:bG T E=aa c){l n q m:Nat}{J:aj}{es:Nat->List C}(hx:d x=.e (.one (.bp l (.sl n c.size q m))))(hl:σ[l]?=aa (.buf J c.size n es))(G:q+m<=n):
  bM P o d σ .any (σ.set l (.buf J c.size n (tS q (q+m) c.zero es))):=by
 intro s ρ hh hr;have h1:=hr x;rw[hx]at h1;change gB σ s (ρ x) (.bp l _)at h1;obtain⟨lv,⟨a,a0,cap,c0,hv,Qq,Up,X5,X,Q⟩,_,R⟩:=h1;obtain⟨L,N,r⟩:=(R _ _ _ _ hl).2 rfl;rw[X]at r;have f:=(hT t i hi).Ur;rw[hd]at f;rw[Ap h,hv];by_cases hm:m=0
 .subst hm;have hz:tS q (q+0) c.zero es=es:=by funext j;simp only[tS];grind
  have hs:σ.set l (.buf J c.size n es)=σ:=by apply iY;grind
  rw[hz,hs];refine⟨.value (.tuple #[]),s,?_,ay,hh,.refl _ _,?_⟩
  .cases a<;>simp[Builtin.clear_,run_underlying f]
  .intro V p;cases a<;>simp[Builtin.clear_,run_underlying f,aM]at p
 .obtain⟨b,rfl,rfl⟩:=Q (by omega);rcases hh.box l _ L hl N with⟨_,rfl⟩|⟨b',c1,vs,I,rfl,g,S,U,W,hF,hM⟩
  .cases r
  .cases r;obtain⟨inf,z,Z,z2,z3,z4,z5,z6,z7⟩:=(hT E c hE).info;have y:=JR (M:=s.M) (m:=m) z5 z7;have Y:(Builtin.zeroCells z.cells m).toList.length=m*c.size:=y.len;have Qt:=hF.len;have hb:q*c.size+m*c.size<=n*c.size:=by rw[<-iF];exact eP _ G
   have q2:=hF.UJ y G;have he:(λi=>if q<=i/\i<q+m then(λ_=>c.zero) (i-q)else es i)=tS q (q+m) c.zero es:=rfl;rw[he]at q2;obtain⟨t1,t2⟩:=hh.dW hl N S U W g q2 (by grind) hM;have k:∀v∈(Builtin.zeroCells z.cells m).toList,v.oneCell'=ab:=y.cell;have A:=run_storeCells_at P b (q*c.size) J (Builtin.zeroCells z.cells m).toList 0 (vs++I).toArray s.w g (by grind) k;have B:((vs++I).toArray.toList.take (q*c.size+0)++(Builtin.zeroCells z.cells m).toList++(vs++I).toArray.toList.drop (q*c.size+0+(Builtin.zeroCells z.cells m).toList.length))=vs.take (q*c.size)++(Builtin.zeroCells z.cells m).toList++vs.drop (q*c.size+(Builtin.zeroCells z.cells m).toList.length)++I:=by grind
   rw[B]at A;have H:∀u,(zeroValue E).run P u=.ok z u:=λu=>by simp[zeroValue,typeInfo,Z,z4]
   have O:∀u es,(zeroValue E).events P u es=es:=λu es=>by simp[zeroValue,typeInfo,Z,z4,aM]
   obtain⟨K,rfl⟩:∃K,m=K+1:=⟨m-1,by omega⟩
   refine⟨.value (.tuple #[]),_,?_,ay,t1,t2,?_⟩
   .simp[Builtin.clear_,run_underlying f,H,A]
   .intro V p;have F:V∈(storeCells ⟨b,q*c.size,af⟩ (Builtin.zeroCells z.cells (K+1)).toList).events P s.w #[]:=by simp only[Builtin.clear_,aM,iB,kB]at p;simpa[run_underlying f,H,O,A]using p
    rcases dN (Builtin.zeroCells z.cells (K+1)).toList 0 (vs++I).toArray s.w #[] g (by grind) k V F with NV|⟨j,_,_,rfl⟩
    .grind
    .exact jX (bP N) (by simp) (hM _)
end
section
variable {P:ar}{X:Cx P}{N:Nat}{Qf:Post}{K:List It}{φ:Fr}{σ:List aR}{all rest:List au}{o:au}
theorem AK.KB{φ':Fr}{σ':List aR}(h:∀s a,cu N σ s φ a->aF σ s->∃s':St,s'.w=s.w/\cu N σ' s' φ' a/\aF σ' s'/\Step σ s σ' s')(k:AK X N Qf (.ops all rest::K) .normal φ' σ'):AK X N Qf (.ops all rest::K) .normal φ σ:=by intro s a j hh b kk cs S idx hb jE hQ;obtain⟨s',i,e,d,st⟩:=h s a j hh;have c:=st.nD hh;refine .ghost (.of hh d i c) ?_;exact k s' a e d b kk cs S idx hb jE λf σ2 s2 a2 q g h2 mI=>hQ f σ2 s2 a2 q g h2 (c.trans mI)
def AK.GP(t:Nat)(E k:Nat)(es':Nat->List C){k':Nat}{f:Nat->List C}(j:look φ t=.e (.one (.c (.sl ab k' 0 f))))(kk:AK X N Qf (.ops all rest::K) .normal ((t,.e (.one (.bp σ.length (.sl 0 k 0 0))))::φ) (σ++[.buf E k 0 es'])):AK X N Qf (.ops all rest::K) .normal φ σ:=by
 refine AK.KB (λs a b hh=>?_) kk;have g:=b.slot t;rw[j]at g;obtain⟨i,d⟩:=hh.ik (B:=.buf E k 0 es') (L:=⟨.slice af 0 0,[]⟩) (.refl _ _) rfl hh (.inl ⟨rfl,rfl⟩) (by simp);refine⟨{s with β:=s.β++[⟨.slice af 0 0,[]⟩]},rfl,⟨b.size,b.defers.imp λ_ h1=>h1.mono d.ext,λu=>?_⟩,i,d⟩;simp only[look];cases h:aB t u with
 |false=>exact(b.slot u).mono d.ext hh.len
 |true =>
  have e:=bX h;subst e;exact vI (E:=E) (es:=es') (e9 g) (by simp) (by simp[<-hh.len])
def AK.GQ{T:List (Nat×TI)}(hT:cW P T){t ty:aj}{x:aq}{d j:Nat}(h:o.op=.binOp .eql t x (.const (.slice af d j)) ty){i:TI}{E:aj}(hi:bG T t=aa i)(B:i.desc=.slice E){tt:Bool}{k n:Nat}{es:Nat->List C}(z:bU φ x=.e (.one (.c (.sl tt k n es))))(G:o.guard=af)(H:gg N o.dst=ab)(kk:∀b:Bool,(b=ab->n=0)->AK X N Qf (.ops all rest::K) .normal (kH o.dst (.e (.one (.c (.bool b)))) φ) σ):AK X N Qf (.ops all (o::rest)::K) .normal φ σ:=by
 refine AK.hand (ι:={b:Bool // b=ab->n=0}) (λb=>.e (.one (.c (.bool b.1)))) (λ_=>σ) G H (λs a v hh=>?_) λb=>kk b.1 b.2;have m:=dg v x;rw[z]at m;obtain⟨ad,cap,vs,m,_,_,_,_,F⟩:=(e9 m).flat;have g:=(hT t i hi).Ur;rw[B]at g;have r:=e9 (by have:=dg v x;rw[z]at this;exact this);have q:ad.isNone=ab->n=0:=by
  intro J;rw[m]at r;cases r with
  |sl b off f A I L hk ha F u =>
   grind
 refine⟨⟨ad.isNone,q⟩,.value (.bool ad.isNone),s,.bool ad.isNone,?_,.inl rfl,Rd.bool,hh,.refl _ _,?_⟩
 .have u:(binOp .eql t (.slice ad n cap) (.slice af d j)).run P s.w=.ok (.bool ad.isNone) s.w:=Go.Lib.run_eql_slice_nil s.w t E ad n cap d j g;have l:∀y,eqGuard .eql t x y (.slice ad n cap) (.slice af d j)=pure ():=λy=>by simp[eqGuard]
  have e1:a.eval (.const (.slice af d j))=.slice af d j:=rfl;simp only[aw,h,m,e1,l];simp[u]
 .have D:∀es,(Op.equal t (.slice ad n cap) (.slice af d j)).events P s.w es=es:=λes=>by show(aZ (9999+1) t _ _).events P s.w es=es;unfold aZ;cases ad<;>simp[underlying,g]
  have u:(Op.equal t (.slice ad n cap) (.slice af d j)).run P s.w=.ok ad.isNone s.w:=by show(aZ (9999+1) t _ _).run P s.w=_;grind[Go.Lib.run_equalIn_slice_nil]
  have l:∀y,eqGuard .eql t x y (.slice ad n cap) (.slice af d j)=pure ():=λy=>by simp[eqGuard]
  have e1:a.eval (.const (.slice af d j))=.slice af d j:=rfl;intro M p;exfalso;simp only[aw,h,m,e1,l,binOp]at p;simp[u,D,aM]at p
end
def eG{P:ar}{t:aj}{i:TypeInfo}(h:P.types[t]?=aa i):P.info? t=aa i:=by unfold Tables.info?;rw[bl (iA.1 h).1];exact h
def cW.nil{P:ar}:cW P []:=λ_ _ h=>by cases h
def cW.cons{P:ar}{t:aj}{i:TI}{T:List (Nat×TI)}(h:bH P t i)(r:cW P T):cW P ((t,i)::T):=by
 intro b i2 h2;simp only[bG]at h2;cases a:aB t b with
 |true=>rw[a]at h2;cases h2;rw[<-bX a];exact h
 |false=>rw[a]at h2;exact r b i2 h2
def bH.ic{P:ar}{t:aj}{i:TI}{n:TypeInfo}(h:P.underlying t=aa i.desc)(k:P.types[t]?=aa n)(a:(ET i.desc==i.agg&&n.size==i.size&&n.bytes==i.bytes&&(!i.agg||n.zero.any λz=>match z with|.agg _=>ab|_=>ae)&&i.zero.length==i.size&&i.eq.isEmpty)=ab:=by rfl)(b:n.zero.map (λz=>z.cells.toList.map sI)=aa (i.zero.map aa):=by rfl):bH P t i:=by
 simp only[bR,gp,List.isEmpty_iff]at a;obtain⟨⟨⟨⟨⟨a1,a2⟩,a3⟩,a4⟩,a5⟩,a6⟩:=a;cases c:n.zero with
 |none=>rw[c]at b;cases b
 |some z =>
  rw[c]at b a4;refine⟨h,a1,⟨n,z,eG k,a2,a3,c,sq b,?_,a5⟩,λh=>absurd a6 h⟩;cases d:i.agg with
  |false=>exact⟨#[],rfl⟩
  |true =>
   rw[d]at a4;cases z<;>first|exact⟨_,rfl⟩|cases a4
namespace R1
abbrev f0(a:String)(b c:Nat)(d:String)(e:Nat):Field:={name:=a,type:=b,offset:=c,embedded:=ae,tag:= "",pkgPath:=d,byteOffset:=e}
def i2:TI:=⟨1,8,ae,TypeDesc.int IntKind.i64,[.int .i64 0],[]⟩
def i3:TI:=⟨1,8,ae,TypeDesc.int IntKind.i64,[.int .i64 0],[]⟩
def i4:TI:=⟨1,1,ae,TypeDesc.bool,[.bool ae],[]⟩
def i5:TI:=⟨1,1,ae,TypeDesc.int IntKind.u8,[.int .u8 0],[]⟩
def i6:TI:=⟨1,1,ae,TypeDesc.int IntKind.u8,[.int .u8 0],[]⟩
def i8:TI:=⟨4,24,ab,bu #[(f0 "x" 2 0 "runtime" 0),(f0 "y" 3 1 "runtime" 8),(f0 "signed" 4 2 "runtime" 16),(f0 "code" 6 3 "runtime" 17)],[.int .i64 0,.int .i64 0,.bool ae,.int .u8 0],[]⟩
def i9:TI:=⟨1,16,ae,TypeDesc.string,[.str []],[]⟩
def i12:TI:=⟨1,8,ae,TypeDesc.int IntKind.u64,[.int .u64 0],[]⟩
def i16:TI:=⟨1,8,ae,TypeDesc.pointer 326,[.fz],[]⟩
def i17:TI:=⟨1,8,ae,TypeDesc.pointer 333,[.fz],[]⟩
def i20:TI:=⟨1,16,ae,TypeDesc.interface #[],[.iI],[]⟩
def i21:TI:=⟨1,4,ae,TypeDesc.int IntKind.i32,[.int .i32 0],[]⟩
def i22:TI:=⟨1,24,ae,TypeDesc.slice 5,[.sl ab 0 0 (λ_=>[])],[]⟩
def i23:TI:=⟨1,24,ae,TypeDesc.slice 67,[.sl ab 0 0 (λ_=>[])],[]⟩
def i24:TI:=⟨1,24,ae,TypeDesc.slice 71,[.sl ab 0 0 (λ_=>[])],[]⟩
def i25:TI:=⟨1,24,ae,TypeDesc.slice 48,[.sl ab 0 0 (λ_=>[])],[]⟩
def i27:TI:=⟨3,72,ab,bu #[(f0 "Packs" 23 0 "" 0),(f0 "Snaps" 24 1 "" 24),(f0 "Log" 25 2 "" 48)],[.sl ab 0 0 (λ_=>[]),.sl ab 0 0 (λ_=>[]),.sl ab 0 0 (λ_=>[])],[]⟩
def i28:TI:=⟨1,24,ae,TypeDesc.slice 82,[.sl ab 0 0 (λ_=>[])],[]⟩
def i36:TI:=⟨1,24,ae,TypeDesc.slice 9,[.sl ab 0 0 (λ_=>[])],[]⟩
def i38:TI:=⟨1,24,ae,TypeDesc.slice 91,[.sl ab 0 0 (λ_=>[])],[]⟩
def i48:TI:=⟨2,16,ab,bu #[(f0 "By" 3 0 "" 0),(f0 "Snap" 3 1 "" 8)],[.int .i64 0,.int .i64 0],[TypeDesc.int IntKind.i64,TypeDesc.int IntKind.i64]⟩
def g48:bH ag 48 i48:=⟨Tryz.underlying48,rfl,⟨_,_,eG Tryz.type48,rfl,rfl,rfl,rfl,⟨_,rfl⟩,rfl⟩,λ_=>ll (fs:=[(f0 "By" 3 0 "" 0),(f0 "Snap" 3 1 "" 8)]) Tryz.underlying48 (by decide +kernel) Tryz.eqGuardType48 ⟨by decide,rfl,Tryz.underlying3,ay,by decide,rfl,Tryz.underlying3,ay,ay⟩⟩
def i50:TI:=⟨1,8,ae,TypeDesc.pointer 104,[.fz],[]⟩
def i57:TI:=⟨1,16,ae,TypeDesc.interface #[("Error",264)],[.iI],[]⟩
def i60:TI:=⟨1,8,ae,TypeDesc.pointer 118,[.fz],[]⟩
def i62:TI:=⟨1,8,ae,TypeDesc.pointer 60,[.fz],[]⟩
def i65:TI:=⟨1,24,ae,TypeDesc.slice 76,[.sl ab 0 0 (λ_=>[])],[]⟩
def i67:TI:=⟨2,32,ab,bu #[(f0 "No" 3 0 "" 0),(f0 "Item" 65 1 "" 8)],[.int .i64 0,.sl ab 0 0 (λ_=>[])],[]⟩
def i69:TI:=⟨1,24,ae,TypeDesc.slice 140,[.sl ab 0 0 (λ_=>[])],[]⟩
def i71:TI:=⟨2,32,ab,bu #[(f0 "No" 3 0 "" 0),(f0 "All" 69 1 "" 8)],[.int .i64 0,.sl ab 0 0 (λ_=>[])],[]⟩
def i72:TI:=⟨1,24,ae,TypeDesc.slice 3,[.sl ab 0 0 (λ_=>[])],[]⟩
def i76:TI:=⟨2,24,ab,bu #[(f0 "Name" 3 0 "" 0),(f0 "Body" 9 1 "" 8)],[.int .i64 0,.str []],[TypeDesc.int IntKind.i64,TypeDesc.string]⟩
def g76:bH ag 76 i76:=⟨Tryz.underlying76,rfl,⟨_,_,eG Tryz.type76,rfl,rfl,rfl,rfl,⟨_,rfl⟩,rfl⟩,λ_=>ll (fs:=[(f0 "Name" 3 0 "" 0),(f0 "Body" 9 1 "" 8)]) Tryz.underlying76 (by decide +kernel) Tryz.eqGuardType76 ⟨by decide,rfl,Tryz.underlying3,ay,by decide,rfl,Tryz.underlying9,ay,ay⟩⟩
def i82:TI:=⟨2,32,ab,bu #[(f0 "Path" 9 0 "" 0),(f0 "Text" 9 1 "" 16)],[.str [],.str []],[TypeDesc.string,TypeDesc.string]⟩
def g82:bH ag 82 i82:=⟨Tryz.underlying82,rfl,⟨_,_,eG Tryz.type82,rfl,rfl,rfl,rfl,⟨_,rfl⟩,rfl⟩,λ_=>ll (fs:=[(f0 "Path" 9 0 "" 0),(f0 "Text" 9 1 "" 16)]) Tryz.underlying82 (by decide +kernel) Tryz.eqGuardType82 ⟨by decide,rfl,Tryz.underlying9,ay,by decide,rfl,Tryz.underlying9,ay,ay⟩⟩
def i85:TI:=⟨1,8,ae,TypeDesc.pointer 151,[.fz],[]⟩
def i91:TI:=⟨2,16,ab,bu #[(f0 "Name" 3 0 "" 0),(f0 "Pack" 3 1 "" 8)],[.int .i64 0,.int .i64 0],[TypeDesc.int IntKind.i64,TypeDesc.int IntKind.i64]⟩
def g91:bH ag 91 i91:=⟨Tryz.underlying91,rfl,⟨_,_,eG Tryz.type91,rfl,rfl,rfl,rfl,⟨_,rfl⟩,rfl⟩,λ_=>ll (fs:=[(f0 "Name" 3 0 "" 0),(f0 "Pack" 3 1 "" 8)]) Tryz.underlying91 (by decide +kernel) Tryz.eqGuardType91 ⟨by decide,rfl,Tryz.underlying3,ay,by decide,rfl,Tryz.underlying3,ay,ay⟩⟩
def i94:TI:=⟨1,24,ae,TypeDesc.slice 67,[.sl ab 0 0 (λ_=>[])],[]⟩
def i96:TI:=⟨3,72,ab,bu #[{name:= "packed",type:=94,offset:=0,embedded:=ab,tag:= "",pkgPath:= "loop.example/depositary/impl",byteOffset:=0},(f0 "snaps" 24 1 "loop.example/depositary/impl" 24),(f0 "log" 25 2 "loop.example/depositary/impl" 48)],[.sl ab 0 0 (λ_=>[]),.sl ab 0 0 (λ_=>[]),.sl ab 0 0 (λ_=>[])],[]⟩
def i104:TI:=⟨2,32,ab,bu #[(f0 "b" 22 0 "loop.example/depositary/spec" 0),(f0 "p" 3 1 "loop.example/depositary/spec" 24)],[.sl ab 0 0 (λ_=>[]),.int .i64 0],[]⟩
def i118:TI:=⟨1,16,ab,bu #[(f0 "what" 9 0 "loop.example/depositary/impl" 0)],[.str []],[TypeDesc.string]⟩
def ZT:bH ag 118 i118:=⟨Tryz.underlying118,rfl,⟨_,_,eG Tryz.type118,rfl,rfl,rfl,rfl,⟨_,rfl⟩,rfl⟩,λ_=>ll (fs:=[(f0 "what" 9 0 "loop.example/depositary/impl" 0)]) Tryz.underlying118 (by decide +kernel) Tryz.eqGuardType118 ⟨by decide,rfl,Tryz.underlying9,ay,ay⟩⟩
def i123:TI:=⟨1,8,ae,TypeDesc.unsafePointer,[.fz],[]⟩
def i124:TI:=⟨1,8,ae,TypeDesc.int IntKind.u64,[.int .u64 0],[]⟩
def i126:TI:=⟨3,24,ab,bu #[(f0 "typ_" 17 0 "internal/reflectlite" 0),(f0 "ptr" 123 1 "internal/reflectlite" 8),{name:= "flag",type:=124,offset:=2,embedded:=ab,tag:= "",pkgPath:= "internal/reflectlite",byteOffset:=16}],[.fz,.fz,.int .u64 0],[]⟩
def i129:TI:=⟨1,16,ae,TypeDesc.interface #[("AssignableTo",134),("Comparable",133),("Elem",130),("Implements",134),("Kind",132),("Name",264),("PkgPath",264),("Size",334),("String",264),("internal/reflectlite.common",327),("internal/reflectlite.uncommon",335)],[.iI],[]⟩
def i131:TI:=⟨1,1,ae,TypeDesc.int IntKind.u8,[.int .u8 0],[]⟩
def i140:TI:=⟨2,40,ab,bu #[(f0 "Path" 9 0 "" 0),(f0 "Names" 72 1 "" 16)],[.str [],.sl ab 0 0 (λ_=>[])],[]⟩
def i145:TI:=⟨1,24,ae,TypeDesc.slice 38,[.sl ab 0 0 (λ_=>[])],[]⟩
def i151:TI:=⟨4,32,ab,bu #[(f0 "spot" 91 0 "loop.example/depositary/impl" 0),(f0 "left" 85 2 "loop.example/depositary/impl" 16),(f0 "right" 85 3 "loop.example/depositary/impl" 24)],[.int .i64 0,.int .i64 0,.fz,.fz],[]⟩
def i152:TI:=⟨1,8,ae,TypeDesc.int IntKind.i64,[.int .i64 0],[]⟩
def i162:TI:=⟨1,8,ae,TypeDesc.pointer 165,[.fz],[]⟩
def i165:TI:=⟨3,24,ab,bu #[(f0 "head" 48 0 "loop.example/depositary/impl" 0),(f0 "next" 162 2 "loop.example/depositary/impl" 16)],[.int .i64 0,.int .i64 0,.fz],[]⟩
def i181:TI:=⟨1,8,ae,TypeDesc.pointer 182,[.fz],[]⟩
def i182:TI:=⟨1,24,ae,TypeDesc.slice 76,[.sl ab 0 0 (λ_=>[])],[]⟩
def i191:TI:=⟨1,16,ae,TypeDesc.interface #[("As",193)],[.iI],[]⟩
def i194:TI:=⟨1,16,ae,TypeDesc.interface #[("Unwrap",195)],[.iI],[]⟩
def i196:TI:=⟨1,16,ae,TypeDesc.interface #[("Unwrap",198)],[.iI],[]⟩
def i197:TI:=⟨1,24,ae,TypeDesc.slice 57,[.sl ab 0 0 (λ_=>[])],[]⟩
def i205:TI:=⟨1,24,ae,TypeDesc.slice 218,[.sl ab 0 0 (λ_=>[])],[]⟩
def i207:TI:=⟨0,0,ab,bu #[],[],[]⟩
def i208:TI:=⟨0,0,ab,bu #[],[],[]⟩
def i209:TI:=⟨0,0,ab,bu #[],[],[]⟩
def i210:TI:=⟨1,8,ae,TypeDesc.int IntKind.u64,[.int .u64 0],[]⟩
def i212:TI:=⟨1,8,ab,bu #[(f0 "_" 208 0 "sync/atomic" 0),(f0 "_" 209 0 "sync/atomic" 0),(f0 "v" 210 0 "sync/atomic" 0)],[.int .u64 0],[]⟩
def i213:TI:=⟨1,4,ae,TypeDesc.int IntKind.u32,[.int .u32 0],[]⟩
def i215:TI:=⟨2,16,ab,bu #[(f0 "noCopy" 207 0 "sync" 0),(f0 "state" 212 0 "sync" 0),(f0 "sema" 213 1 "sync" 8)],[.int .u64 0,.int .u32 0],[]⟩
def i218:TI:=⟨2,24,ab,bu #[(f0 "piece" 9 0 "loop.example/depositary/impl" 0),(f0 "ok" 4 1 "loop.example/depositary/impl" 16)],[.str [],.bool ae],[TypeDesc.string,TypeDesc.bool]⟩
def ZU:bH ag 218 i218:=⟨Tryz.underlying218,rfl,⟨_,_,eG Tryz.type218,rfl,rfl,rfl,rfl,⟨_,rfl⟩,rfl⟩,λ_=>ll (fs:=[(f0 "piece" 9 0 "loop.example/depositary/impl" 0),(f0 "ok" 4 1 "loop.example/depositary/impl" 16)]) Tryz.underlying218 (by decide +kernel) Tryz.eqGuardType218 ⟨by decide,rfl,Tryz.underlying9,ay,by decide,rfl,Tryz.underlying4,ay,ay⟩⟩
def i230:TI:=⟨1,8,ae,TypeDesc.int IntKind.u64,[.int .u64 0],[]⟩
def i234:TI:=⟨1,16,ae,TypeDesc.interface #[("Len",98),("Less",202),("Pop",239),("Push",235),("Swap",237)],[.iI],[]⟩
def i242:TI:=⟨1,16,ae,TypeDesc.interface #[("Is",244)],[.iI],[]⟩
def i259:TI:=⟨1,8,ae,TypeDesc.pointer 261,[.fz],[]⟩
def i261:TI:=⟨2,32,ab,bu #[(f0 "addr" 259 0 "strings" 0),(f0 "buf" 22 1 "strings" 8)],[.fz,.sl ab 0 0 (λ_=>[])],[]⟩
def i268:TI:=⟨1,8,ae,TypeDesc.int IntKind.i64,[.int .i64 0],[]⟩
def i288:TI:=⟨1,8,ae,TypeDesc.pointer 5,[.fz],[]⟩
def i290:TI:=⟨1,8,ae,TypeDesc.int IntKind.u64,[.int .u64 0],[]⟩
def i293:TI:=⟨1,8,ae,TypeDesc.pointer 3,[.fz],[]⟩
def i308:TI:=⟨1,8,ae,TypeDesc.pointer 304,[.fz],[]⟩
def i319:TI:=⟨2,2,ab,bu #[(f0 "lo" 5 0 "unicode/utf8" 0),(f0 "hi" 5 1 "unicode/utf8" 1)],[.int .u8 0,.int .u8 0],[TypeDesc.int IntKind.u8,TypeDesc.int IntKind.u8]⟩
def ZV:bH ag 319 i319:=⟨Tryz.underlying319,rfl,⟨_,_,eG Tryz.type319,rfl,rfl,rfl,rfl,⟨_,rfl⟩,rfl⟩,λ_=>ll (fs:=[(f0 "lo" 5 0 "unicode/utf8" 0),(f0 "hi" 5 1 "unicode/utf8" 1)]) Tryz.underlying319 (by decide +kernel) Tryz.eqGuardType319 ⟨by decide,rfl,Tryz.underlying5,ay,by decide,rfl,Tryz.underlying5,ay,ay⟩⟩
def i320:TI:=⟨32,32,ab,TypeDesc.array 16 319,[.int .u8 0,.int .u8 0,.int .u8 0,.int .u8 0,.int .u8 0,.int .u8 0,.int .u8 0,.int .u8 0,.int .u8 0,.int .u8 0,.int .u8 0,.int .u8 0,.int .u8 0,.int .u8 0,.int .u8 0,.int .u8 0,.int .u8 0,.int .u8 0,.int .u8 0,.int .u8 0,.int .u8 0,.int .u8 0,.int .u8 0,.int .u8 0,.int .u8 0,.int .u8 0,.int .u8 0,.int .u8 0,.int .u8 0,.int .u8 0,.int .u8 0,.int .u8 0],[]⟩
def i321:TI:=⟨1,8,ae,TypeDesc.pointer 339,[.fz],[]⟩
def i324:TI:=⟨0,0,ab,TypeDesc.array 0 16,[],[]⟩
def i326:TI:=⟨0,0,ab,bu #[(f0 "_" 324 0 "runtime" 0)],[],[]⟩
def i328:TI:=⟨1,1,ae,TypeDesc.int IntKind.u8,[.int .u8 0],[]⟩
def i330:TI:=⟨1,4,ae,TypeDesc.int IntKind.i32,[.int .i32 0],[]⟩
def i331:TI:=⟨1,4,ae,TypeDesc.int IntKind.i32,[.int .i32 0],[]⟩
def i333:TI:=⟨11,48,ab,bu #[(f0 "Size_" 12 0 "" 0),(f0 "PtrBytes" 12 1 "" 8),(f0 "Hash" 213 2 "" 16),(f0 "TFlag" 328 3 "" 20),(f0 "Align_" 5 4 "" 21),(f0 "FieldAlign_" 5 5 "" 22),(f0 "Kind_" 131 6 "" 23),(f0 "Equal" 329 7 "" 24),(f0 "GCData" 288 8 "" 32),(f0 "Str" 330 9 "" 40),(f0 "PtrToThis" 331 10 "" 44)],[.int .u64 0,.int .u64 0,.int .u32 0,.int .u8 0,.int .u8 0,.int .u8 0,.int .u8 0,.yw,.fz,.int .i32 0,.int .i32 0],[]⟩
def i339:TI:=⟨1,16,ab,bu #[(f0 "s" 9 0 "errors" 0)],[.str []],[TypeDesc.string]⟩
def ZW:bH ag 339 i339:=⟨Tryz.underlying339,rfl,⟨_,_,eG Tryz.type339,rfl,rfl,rfl,rfl,⟨_,rfl⟩,rfl⟩,λ_=>ll (fs:=[(f0 "s" 9 0 "errors" 0)]) Tryz.underlying339 (by decide +kernel) Tryz.eqGuardType339 ⟨by decide,rfl,Tryz.underlying9,ay,ay⟩⟩
def tt:List (Nat×TI):=[(2,i2),(3,i3),(4,i4),(5,i5),(6,i6),(8,i8),(9,i9),(12,i12),(16,i16),(17,i17),(20,i20),(21,i21),(22,i22),(23,i23),(24,i24),(25,i25),(27,i27),(28,i28),(36,i36),(38,i38),(48,i48),(50,i50),(57,i57),(60,i60),(62,i62),(65,i65),(67,i67),(69,i69),(71,i71),(72,i72),(76,i76),(82,i82),(85,i85),(91,i91),(94,i94),(96,i96),(104,i104),(118,i118),(123,i123),(124,i124),(126,i126),(129,i129),(131,i131),(140,i140),(145,i145),(151,i151),(152,i152),(162,i162),(165,i165),(181,i181),(182,i182),(191,i191),(194,i194),(196,i196),(197,i197),(205,i205),(207,i207),(208,i208),(209,i209),(210,i210),(212,i212),(213,i213),(215,i215),(218,i218),(230,i230),(234,i234),(242,i242),(259,i259),(261,i261),(268,i268),(288,i288),(290,i290),(293,i293),(308,i308),(319,i319),(320,i320),(321,i321),(324,i324),(326,i326),(328,i328),(330,i330),(331,i331),(333,i333),(339,i339)]
def tok:cW ag tt:=(cW.cons (bH.ic Tryz.underlying2 Tryz.type2) (cW.cons (bH.ic Tryz.underlying3 Tryz.type3) (cW.cons (bH.ic Tryz.underlying4 Tryz.type4) (cW.cons (bH.ic Tryz.underlying5 Tryz.type5) (cW.cons (bH.ic Tryz.underlying6 Tryz.type6) (cW.cons (bH.ic Tryz.underlying8 Tryz.type8) (cW.cons (bH.ic Tryz.underlying9 Tryz.type9) (cW.cons (bH.ic Tryz.underlying12 Tryz.type12) (cW.cons (bH.ic Tryz.underlying16 Tryz.type16) (cW.cons (bH.ic Tryz.underlying17 Tryz.type17) (cW.cons (bH.ic Tryz.underlying20 Tryz.type20) (cW.cons (bH.ic Tryz.underlying21 Tryz.type21) (cW.cons (bH.ic Tryz.underlying22 Tryz.type22) (cW.cons (bH.ic Tryz.underlying23 Tryz.type23) (cW.cons (bH.ic Tryz.underlying24 Tryz.type24) (cW.cons (bH.ic Tryz.underlying25 Tryz.type25) (cW.cons (bH.ic Tryz.underlying27 Tryz.type27) (cW.cons (bH.ic Tryz.underlying28 Tryz.type28) (cW.cons (bH.ic Tryz.underlying36 Tryz.type36) (cW.cons (bH.ic Tryz.underlying38 Tryz.type38) (cW.cons g48 (cW.cons (bH.ic Tryz.underlying50 Tryz.type50) (cW.cons (bH.ic Tryz.underlying57 Tryz.type57) (cW.cons (bH.ic Tryz.underlying60 Tryz.type60) (cW.cons (bH.ic Tryz.underlying62 Tryz.type62) (cW.cons (bH.ic Tryz.underlying65 Tryz.type65) (cW.cons (bH.ic Tryz.underlying67 Tryz.type67) (cW.cons (bH.ic Tryz.underlying69 Tryz.type69) (cW.cons (bH.ic Tryz.underlying71 Tryz.type71) (cW.cons (bH.ic Tryz.underlying72 Tryz.type72) (cW.cons g76 (cW.cons g82 (cW.cons (bH.ic Tryz.underlying85 Tryz.type85) (cW.cons g91 (cW.cons (bH.ic Tryz.underlying94 Tryz.type94) (cW.cons (bH.ic Tryz.underlying96 Tryz.type96) (cW.cons (bH.ic Tryz.underlying104 Tryz.type104) (cW.cons ZT (cW.cons (bH.ic Tryz.underlying123 Tryz.type123) (cW.cons (bH.ic Tryz.underlying124 Tryz.type124) (cW.cons (bH.ic Tryz.underlying126 Tryz.type126) (cW.cons (bH.ic Tryz.underlying129 Tryz.type129) (cW.cons (bH.ic Tryz.underlying131 Tryz.type131) (cW.cons (bH.ic Tryz.underlying140 Tryz.type140) (cW.cons (bH.ic Tryz.underlying145 Tryz.type145) (cW.cons (bH.ic Tryz.underlying151 Tryz.type151) (cW.cons (bH.ic Tryz.underlying152 Tryz.type152) (cW.cons (bH.ic Tryz.underlying162 Tryz.type162) (cW.cons (bH.ic Tryz.underlying165 Tryz.type165) (cW.cons (bH.ic Tryz.underlying181 Tryz.type181) (cW.cons (bH.ic Tryz.underlying182 Tryz.type182) (cW.cons (bH.ic Tryz.underlying191 Tryz.type191) (cW.cons (bH.ic Tryz.underlying194 Tryz.type194) (cW.cons (bH.ic Tryz.underlying196 Tryz.type196) (cW.cons (bH.ic Tryz.underlying197 Tryz.type197) (cW.cons (bH.ic Tryz.underlying205 Tryz.type205) (cW.cons (bH.ic Tryz.underlying207 Tryz.type207) (cW.cons (bH.ic Tryz.underlying208 Tryz.type208) (cW.cons (bH.ic Tryz.underlying209 Tryz.type209) (cW.cons (bH.ic Tryz.underlying210 Tryz.type210) (cW.cons (bH.ic Tryz.underlying212 Tryz.type212) (cW.cons (bH.ic Tryz.underlying213 Tryz.type213) (cW.cons (bH.ic Tryz.underlying215 Tryz.type215) (cW.cons ZU (cW.cons (bH.ic Tryz.underlying230 Tryz.type230) (cW.cons (bH.ic Tryz.underlying234 Tryz.type234) (cW.cons (bH.ic Tryz.underlying242 Tryz.type242) (cW.cons (bH.ic Tryz.underlying259 Tryz.type259) (cW.cons (bH.ic Tryz.underlying261 Tryz.type261) (cW.cons (bH.ic Tryz.underlying268 Tryz.type268) (cW.cons (bH.ic Tryz.underlying288 Tryz.type288) (cW.cons (bH.ic Tryz.underlying290 Tryz.type290) (cW.cons (bH.ic Tryz.underlying293 Tryz.type293) (cW.cons (bH.ic Tryz.underlying308 Tryz.type308) (cW.cons ZV (cW.cons (bH.ic Tryz.underlying320 Tryz.type320) (cW.cons (bH.ic Tryz.underlying321 Tryz.type321) (cW.cons (bH.ic Tryz.underlying324 Tryz.type324) (cW.cons (bH.ic Tryz.underlying326 Tryz.type326) (cW.cons (bH.ic Tryz.underlying328 Tryz.type328) (cW.cons (bH.ic Tryz.underlying330 Tryz.type330) (cW.cons (bH.ic Tryz.underlying331 Tryz.type331) (cW.cons (bH.ic Tryz.underlying333 Tryz.type333) (cW.cons ZW cW.nil))))))))))))))))))))))))))))))))))))))))))))))))))))))))))))))))))))))))))))))))))))
end R1
abbrev Bs:=List UInt8
abbrev dS(s:Bs):D:=.e (.one (.c (.str s)))
abbrev dI(n:Int):D:=.e (.one (.c (.int .i64 n)))
abbrev dU(n:Int):D:=.e (.one (.c (.int .u8 n)))
abbrev dB(b:Bool):D:=.e (.one (.c (.bool b)))
def kQ{s:Bs}{i:Nat}:jb s i=s.getD i 0:=rfl
namespace R1
variable {X:Cx ag}
def jk:Tryz.prog.follows Departure.mixedOrders=ab:=rfl
def ZX{X:Cx ag}{CT:List (Nat×dv)}(c:bL X CT)(ds:List (Nat×Bool)){N:Nat}{Qf:Post}(n:Nat){K b:List It}{φ φ':Fr}{σ σ':List aR}{a:List Prop}(h:AM.ln tt CT ds N n K φ σ []=aa (b,φ',σ',a))(d:az a)(k:AK X N Qf b .normal φ' σ'):AK X N Qf K .normal φ σ:=AK.ln jk tok c ds n h d k
def oJ{X:Cx ag}(ds:List (Nat×Bool)){N:Nat}{Qf:Post}(n:Nat){K b:List It}{φ φ':Fr}{σ σ':List aR}{a:List Prop}(h:AM.ln tt [] ds N n K φ σ []=aa (b,φ',σ',a))(c:az a)(k:AK X N Qf b .normal φ' σ'):AK X N Qf K .normal φ σ:=AK.ln jk tok bL.nil ds n h c k
def bt{X:Cx ag}{N:Nat}{Qf:Post}{K b:List It}{φ φ':Fr}{σ σ':List aR}{a:List Prop}(h:AM.ln tt [] [] N 100 K φ σ []=aa (b,φ',σ',a))(c:az a)(k:AK X N Qf b .normal φ' σ'):AK X N Qf K .normal φ σ:=AK.ln jk tok bL.nil [] 100 h c k
def dm{X:Cx ag}{N:Nat}{Qf:Post}{K b:List It}{φ φ':Fr}{σ σ':List aR}{a:List Prop}(h:AM.ln tt [] [] N 200 K φ σ []=aa (b,φ',σ',a))(c:az a)(k:AK X N Qf b .normal φ' σ'):AK X N Qf K .normal φ σ:=AK.ln jk tok bL.nil [] 200 h c k
def aW{X:Cx ag}{CT:List (Nat×dv)}(c:bL X CT)(ds:List (Nat×Bool)){N:Nat}{Qf:Post}{K b:List It}{φ φ':Fr}{σ σ':List aR}{a:List Prop}(h:AM.ln tt CT ds N 100 K φ σ []=aa (b,φ',σ',a))(d:az a)(k:AK X N Qf b .normal φ' σ'):AK X N Qf K .normal φ σ:=AK.ln jk tok c ds 100 h d k
def bn{X:Cx ag}{CT:List (Nat×dv)}(c:bL X CT)(ds:List (Nat×Bool)){N:Nat}{Qf:Post}{K b:List It}{φ φ':Fr}{σ σ':List aR}{a:List Prop}(h:AM.ln tt CT ds N 200 K φ σ []=aa (b,φ',σ',a))(d:az a)(k:AK X N Qf b .normal φ' σ'):AK X N Qf K .normal φ σ:=AK.ln jk tok c ds 200 h d k
def aX{X:Cx ag}(ds:List (Nat×Bool)){N:Nat}{Qf:Post}{K b:List It}{φ φ':Fr}{σ σ':List aR}{a:List Prop}(h:AM.ln tt [] ds N 100 K φ σ []=aa (b,φ',σ',a))(c:az a)(k:AK X N Qf b .normal φ' σ'):AK X N Qf K .normal φ σ:=AK.ln jk tok bL.nil ds 100 h c k
def bO{X:Cx ag}(ds:List (Nat×Bool)){N:Nat}{Qf:Post}{K b:List It}{φ φ':Fr}{σ σ':List aR}{a:List Prop}(h:AM.ln tt [] ds N 200 K φ σ []=aa (b,φ',σ',a))(c:az a)(k:AK X N Qf b .normal φ' σ'):AK X N Qf K .normal φ σ:=AK.ln jk tok bL.nil ds 200 h c k
def b8{X:Cx ag}{CT:List (Nat×dv)}(c:bL X CT){N:Nat}{Qf:Post}{K b:List It}{φ φ':Fr}{σ σ':List aR}{a:List Prop}(h:AM.ln tt CT [] N 100 K φ σ []=aa (b,φ',σ',a))(d:az a)(k:AK X N Qf b .normal φ' σ'):AK X N Qf K .normal φ σ:=AK.ln jk tok c [] 100 h d k
def cG{X:Cx ag}{CT:List (Nat×dv)}(c:bL X CT){N:Nat}{Qf:Post}{K b:List It}{φ φ':Fr}{σ σ':List aR}{a:List Prop}(h:AM.ln tt CT [] N 200 K φ σ []=aa (b,φ',σ',a))(d:az a)(k:AK X N Qf b .normal φ' σ'):AK X N Qf K .normal φ σ:=AK.ln jk tok c [] 200 h d k
def my(b:Int):Bool:=decide (97<=b)&&decide (b<=101)
theorem PE(b:Int):Ev X 88 [dU b] [] (dB (my b)) []:=by
 refine Ev.bQ Tryz.func88 rfl λ_=>?_;by_cases h:97<=b
 .refine aX [(4,ab)] rfl ?_ (AK.bz rfl ?_)<;>simp[h,my]
 .refine aX [(4,ae)] rfl ?_ (AK.bz rfl ?_)<;>simp[h,my]
def eZ(b:UInt8):Bool:=decide (97<=b.toNat)&&decide (b.toNat<=122)
def cj(s:Bs):Bool:=s.all eZ
def tw{s:Bs}(h:∀j,j<s.length->eZ (s.getD j 0)=ab):cj s=ab:=by simp only[cj,bC];grind[List.getElem_of_mem]
def kY{s:Bs}{j:Nat}(h:j<s.length)(b:eZ (s.getD j 0)=ae):cj s=ae:=by
 cases a:cj s with
 |false=>rfl
 |true =>
  simp only[cj,bC]at a;grind
theorem FQ(s:Bs):Ev X 89 [dS s] [] (dB (cj s)) []:=by
 refine Ev.bQ Tryz.func89 rfl λe=>?_;have f:=e.str 0 rfl;refine bt rfl ay ?_;refine AK.xe (λi=>i<=s.length/\∀j,j<i->eZ (s.getD j 0)=ab) (λi:Nat=>[(0,dS s),(3,dI i)]) (λ_=>[]) (λi=>s.length-i) 0 rfl (by simp) ⟨by omega,by omega⟩ rfl ?_;rintro i ⟨hi,c⟩;by_cases h:i<s.length
 .generalize a:s.getD i 0=b;by_cases g:b.toNat<97
  .refine aX [(7,ab),(13,ab)] rfl ?_ (AK.ir (cw.zero rfl ?_))
   .simp only[az,kQ,a9,a];omega
   .rw[az,kY h (by rw[a];simp only[eZ,qb,bS];omega)]
  .by_cases k:b.toNat>122
   .refine aX [(7,ab),(13,ae),(18,ab)] rfl ?_ (AK.ir (cw.zero rfl ?_))
    .simp only[az,kQ,a9,bS,a];omega
    .rw[az,kY h (by rw[a];simp only[eZ,qb,bS];omega)]
   .refine aX [(7,ab),(13,ae),(18,ae)] rfl ?_ (AK.again (i+1) rfl ?_ ?_ ?_ rfl)
    .simp only[az,kQ,a9,bS,a,bD];omega
    .simp
    .refine⟨by omega,λj d=>?_⟩;rcases vB.1 d with d|rfl
     .grind
     .rw[a];simp only[eZ,bR,a9];omega
    .omega
 .refine aX [(7,ae)] rfl (by simp;omega) (AK.leave rfl rfl ?_);refine bt rfl ay (AK.bz rfl ?_);rw[az,tw (λj d=>c j (by omega))]
end R1
def Ev.args{P:ar}{X:Cx P}{f:aJ}{args Dx:List D}{σ σ':List aR}{res:D}(h:Ev X f Dx σ res σ')(hl:∀s vs,cp σ s vs args->cp σ s vs Dx):Ev X f args σ res σ' :=
 ⟨h.1,λs vs hr hh=>h.2 s vs (hl s vs hr) hh⟩
def ky(a:Nat):D->Option (Nat×(Nat->List C))
 |.e (.one (.c (.sl _ k n es)))=>match aB k a with
  |true=>aa (n,es)
  |false=>match aB n 0 with
   |true=>aa (0,λ_=>[])
   |false=>af
 |_=>af
def Mo{g:Nat}{d:D}{n:Nat}{es:Nat->List C}(h:ky g d=aa (n,es)){σ:List aR}{s:St}{v:ah}(r:dt σ s v d):Rd s.M v (.sl ae g n es):=by
 unfold ky at h;split at h
 .rename_i t k m es';split at h
  .rename_i hk;have e:=bX hk;subst e;cases h;exact(e9 r).loose
  .split at h
   .rename_i i;have e:=bX i;subst e;cases h;have r':=e9 r;cases r' with
    |sl b off f a j l hk ha hm hr=>exact Rd.sl b off f a j (by simp) (by omega) (by omega) (by omega) (by omega)
   grind
 grind
def Bc{α:Type}(enc:α->List C)(cd:α)(l:List α):Nat->List C:=λi=>enc (l.getD i cd)
structure mJ(α:Type) where
 k:Nat
 enc:α->List C
 dec:List C->α
 cd:α
 inv:∀a,dec (enc a)=a
 len:∀a,(enc a).length=k
namespace mJ
variable {α:Type}(c:mJ α)
def list(n:Nat)(es:Nat->List C):List α:=(bh n).map λi=>c.dec (es i)
def fn(l:List α):Nat->List C:=Bc c.enc c.cd l
def fits(n:Nat)(es:Nat->List C):Prop:=∀i,i<n->es i=c.enc (c.dec (es i))
def sl(l:List α):D:=.e (.one (.c (.sl ae c.k l.length (c.fn l))))
def Dy{n:Nat}{es:Nat->List C}:(c.list n es).length=n:=by simp[list]
def list_fn(l:List α):c.list l.length (c.fn l)=l:=by
 apply sj
 .simp[list]
 .intro i b a;simp[list,fn,Bc,ak,br a,c.inv]
def aO(l:List α){n:Nat}:c.fits n (c.fn l):=λi _=>by simp[fn,Bc,c.inv]
def PF{n:Nat}{es:Nat->List C}(h:c.fits n es):cA n es (c.fn (c.list n es)):=by intro i hi;rw[h i hi];simp[fn,Bc,list,ak,hi]
def jH{d:D}{n:Nat}{es:Nat->List C}(h:ky c.k d=aa (n,es))(b:c.fits n es){σ:List aR}{s:St}{v:ah}(r:dt σ s v d):dt σ s v (c.sl (c.list n es)):=by have e:=Mo h r;have a:=e.Eh (c.PF b);show Rd s.M v (.sl ae c.k (c.list n es).length _);rw[c.Dy];exact a
end mJ
def cT(s:Bs)(i:Nat):Int:=(s.getD i 0).toNat
theorem cU(s:Bs)(j:Int):((jb s j).toNat:Int)=cT s j.toNat:=rfl
abbrev bw:=Bs×Bs
def C0(cs:List C)(j:Nat):Bs:=match dC j cs with|some (.str s)=>s|_=>[]
def xI(cs:List C)(j:Nat):Int:=match dC j cs with|some (.int _ s)=>s|_=>0
def cF:mJ bw:={k:=2,enc:=λf=>[.str f.1,.str f.2],dec:=λcs=>(C0 cs 0,C0 cs 1),cd:=([],[]),inv:=λ_=>rfl,len:=λ_=>rfl}
namespace R1
variable {X:Cx ag}
def ZY:dv:=λargs σ=>match args,σ with
 |[.e (.one (.c (.int .u8 b)))],[]=>aa (dB (my b),[],[])
 |_,_=>af
def t88:er X 88 ZY:=by intro args σ res σ' obs h _;unfold ZY at h;grind[PE]
def X0:dv:=λargs σ=>match args,σ with
 |[.e (.one (.c (.str b)))],[]=>aa (dB (cj b),[],[])
 |_,_=>af
def t89:er X 89 X0:=by intro args σ res σ' obs h _;unfold X0 at h;grind[FQ]
def ct1:List (Nat×dv):=[(88,ZY),(89,X0)]
def Dz:bL X ct1:=bL.cons t88 (bL.cons t89 bL.nil)
def dM(s:Bs):Bool:=if s.length=1 then my (cT s 0)else if s.length=3 then my (cT s 0)&&(cT s 1==47)&&my (cT s 2)else ae
theorem I1(s:Bs):Ev X 37 [dS s] [] (dB (dM s)) []:=by
 refine Ev.bQ Tryz.func37 rfl λf=>?_;by_cases e:s.length=1
 .refine aW Dz [(6,ab)] rfl ?_ (AK.bz rfl ?_)
  .simp[e]
  .simp[dM,e,cU]
 .by_cases a:s.length=3
  .by_cases b:my (cT s 0)=ab
   .by_cases d:cT s 1=47
    .refine aW Dz [(6,ae),(11,ab),(14,ab),(18,ab)] rfl ?_ (AK.bz rfl ?_)
     .simp[a,cU,b,d]
     .simp[dM,a,b,d,cU]
    .refine aW Dz [(6,ae),(11,ab),(14,ab),(18,ae)] rfl ?_ (AK.bz rfl ?_)
     .simp[a,cU,b,d]
     .simp[dM,a,b,d]
   .refine aW Dz [(6,ae),(11,ab),(14,ae)] rfl ?_ (AK.bz rfl ?_)
    .simp[a,cU,b]
    .simp[dM,a,b]
  .refine aW Dz [(6,ae),(11,ae)] rfl ?_ (AK.bz rfl ?_)
   .simp;omega
   .simp[dM,e,a]
def et(s:Bs):Bool:=decide (s.length<=40)&&cj s
theorem I2(s:Bs):Ev X 38 [dS s] [] (dB (et s)) []:=by
 refine Ev.bQ Tryz.func38 rfl λb=>?_;by_cases a:s.length<=40
 .refine aW Dz [(5,ab)] rfl ?_ (AK.bz rfl ?_)
  .simp;omega
  .simp[et,a]
 .refine aW Dz [(5,ae)] rfl ?_ (AK.bz rfl ?_)
  .simp;omega
  .simp[et,a]
def clash(a b:Bs):Bool:=(a.length != b.length)&&(cT a 0==cT b 0)
def Mp(a b:Bs)(g:a≠[])(h:b≠[]):Ev X 39 [dS a,dS b] [] (dB (clash a b)) []:=by
 have e:=List.length_pos_iff.2 g;have f:=List.length_pos_iff.2 h;refine Ev.bQ Tryz.func39 rfl λi=>?_;by_cases d:a.length=b.length
 .refine aX [(9,ae)] rfl ?_ (AK.bz rfl ?_)
  .simp[d]
  .simp[clash,d]
 .refine aX [(9,ab)] rfl ?_ (AK.bz rfl ?_)
  .simp[e,f];omega
  .simp[clash,d,cU]
end R1
section
variable {P:ar}{X:Cx P}
def Yields{ι:Type}(X:Cx P)(d:Nat)(ds:List D)(σ:List aR)(res:Bool)(σ':ι->List aR):Prop :=
 ∀s (vs:List ah) (l:Nat),cp σ s vs ds->aF σ s->(∃L,s.β[d]?=aa L/\L.v=.func (.yield l) #[] #[]) ->
  ∃fn tmps assign body,(Instr.yield l vs.toArray).run P s.w=.ok (.round l fn tmps assign body) s.w/\(Instr.yield l vs.toArray).events P s.w #[]=#[⟨.obj l,ae,ae⟩] /\
  ∀(S:av->St->Prop) (c:aU) (cs:List aU),(∀i s',aF (σ' i) s'->cY σ s (σ' i) s'->fL X S (G (c.finish (.bool res)) cs) s') ->
   fL X S (G (Frame.round l fn tmps assign body .normal) (c::cs)) s
def mW{w:aA}{l:Nat}{r:Loop}(h:w.heap[l]?=aa (.loop r)):(Instr.getLoop l).run P w=.ok r w/\∀es,(Instr.getLoop l).events P w es=es.push ⟨.obj l,ae,ae⟩:=by
 have c:(getObj l).run P w=.ok (.loop r) w:=by simp only[getObj,Sem.run,h]
 have d:∀es,(getObj l).events P w es=es.push ⟨.obj l,ae,ae⟩:=λes=>by simp only[getObj,Sem.events,Sem.runT,h];rfl
 constructor
 .simp[Instr.getLoop,c]
 .intro es;simp[Instr.getLoop,c,d]
def pK{w:aA}{l:Nat}{r r':Loop}(h:w.heap[l]?=aa (.loop r)):(setObj l (.loop r')).run P w=.ok () {w with heap:=w.heap.setIfInBounds l (.loop r')}/\∀es,(setObj l (.loop r')).events P w es=es.push ⟨.obj l,ab,ae⟩:=by
 constructor
 .simp only[setObj,Sem.run,h]
 .intro es;simp only[setObj,Sem.events,Sem.runT,h];rfl
def H6{w:aA}{l:Nat}{r:Loop}{args:Array ah}(h:w.heap[l]?=aa (.loop r))(c:args.size=r.params.size):
  (Instr.yield l args).run P w=.ok (.round l r.fn ((r.params.zip args).foldl (λtmps (t,a)=>tmps.setIfInBounds t a) r.tmps) r.assign r.body) w/\(Instr.yield l args).events P w #[]=#[⟨.obj l,ae,ae⟩]:=by
 obtain⟨d,e⟩:=mW (P:=P) h;constructor
 .simp[Instr.yield,d,c]
 .simp[Instr.yield,d,e,c]
def H7{w:aA}{l:Nat}{r:Loop}(h:w.heap[l]?=aa (.loop r))(d:r.state=.ready):
  (Instr.beginRound l).run P w=.ok () {w with heap:=w.heap.setIfInBounds l (.loop {r with state:=.busy})}/\(Instr.beginRound l).events P w #[]=#[⟨.obj l,ae,ae⟩,⟨.obj l,ab,ae⟩]:=by
 obtain⟨c,g⟩:=mW (P:=P) h;obtain⟨e,f⟩:=pK (P:=P) (r':={r with state:=.busy}) h;constructor
 .simp[Instr.beginRound,c,e,d]
 .simp[Instr.beginRound,c,g,e,f,d]
def AB{w:aA}{l:Nat}{r:Loop}(h:w.heap[l]?=aa (.loop r))(j:Option Code):
  (Instr.endRound l j).run P w=.ok (.bool j.isNone) {w with heap:=w.heap.setIfInBounds l (.loop {r with state:=if j.isNone then .ready else .done,pending:=j})}/\(Instr.endRound l j).events P w #[]=#[⟨.obj l,ae,ae⟩,⟨.obj l,ab,ae⟩]:=by
 obtain⟨d,e⟩:=mW (P:=P) h;obtain⟨c,f⟩:=pK (P:=P) (r':={r with state:=if j.isNone then .ready else .done,pending:=j}) h;constructor
 .simp only[Instr.endRound,bT,d,c,b5,dx]
 .simp only[Instr.endRound,aM,d,e,c,f,aP,Sem.events_pure];rfl
def Cu{w:aA}{l:Nat}{r:Loop}(h:w.heap[l]?=aa (.loop r))(d:r.state≠.busy):
  (Instr.endLoop l).run P w=.ok r.pending {w with heap:=w.heap.setIfInBounds l (.loop {r with state:=.exhausted})}/\(Instr.endLoop l).events P w #[]=#[⟨.obj l,ae,ae⟩,⟨.obj l,ab,ae⟩]:=by
 obtain⟨c,g⟩:=mW (P:=P) h;obtain⟨f,e⟩:=pK (P:=P) (r':={r with state:=.exhausted}) h;have j:(r.state==.busy)=ae:=by cases i:r.state<;>simp_all
 constructor
 .simp[Instr.endLoop,c,f,d]
 .simp[Instr.endLoop,c,g,e,d]
section steps
variable {b:aU}{a:Act}{k:List Item}{cs:List aU}{w:aA}{main:Bool}
def Cv{o:au}{f:aq}{xs:Array aq}{c:Array aj}{l:Nat}(g:o.op=.call {callee:=.value f,args:=xs,argTypes:=c})(e:a.eval f=.func (.yield l) #[] #[]):
  (aw a.eval o).run P w=(Instr.yield l (xs.toList.map a.eval).toArray).run P w/\(aw a.eval o).events P w #[]=(Instr.yield l (xs.toList.map a.eval).toArray).events P w #[]:=by
 have d:xs.map a.eval=(xs.toList.map a.eval).toArray:=by grind
 constructor
 .simp[aw,g,resolve,e,Deferred.ofValue,invoke,d]
 .simp[aw,g,resolve,e,Deferred.ofValue,invoke,d]
def Kw{ops:Array au}{i:Nat}{rest:List Nat}{o:au}{l:Nat}{fn:aJ}{tmps:Array ah}{assign body:Code}{w':aA}(g:ops[i]?=aa o)(e:bg o (yielded ops a.tmps)=ab)(hk:b.kind≠.early)(f:(aw a.eval o).run P w=.ok (.round l fn tmps assign body) w'):
  aH P main (G (b.aT a (.inRegion ops (i::rest)::k)) cs) w=.go (G (Frame.round l fn tmps assign body .normal) (b.aT a (.inRegion ops (i::rest)::k)::cs)) w' (Go.Conc.listed P b.fn a o w):=by
 have d:(b.kind==CallKind.early)=ae:=by grind
 rw[vL g e (λc h=>by grind[sD])];simp[stepG.apply,f,G,Frame.aT,d,GStep.after,Go.Conc.listed]
def Kx{l:Nat}{r:Loop}(g:b.roundOf=aa l)(hk:b.kind≠.early)(h:w.heap[l]?=aa (.loop r))(e:r.state=.ready):
  aH P main (G (b.aT a (.beginRound::k)) cs) w=.go (G (b.aT a k) cs) {w with heap:=w.heap.setIfInBounds l (.loop {r with state:=.busy})} (seen P b.fn #[⟨.obj l,ae,ae⟩,⟨.obj l,ab,ae⟩]):=by
 obtain⟨d,f⟩:=H7 (P:=P) h e;have c:(b.kind==CallKind.early)=ae:=by grind
 simp[G,aH,stepG.exec,stepG.apply,Frame.aT,g,c,d,f,GStep.after,Frame.finish]
def Cw{l:Nat}{r:Loop}{j:Option Code}{e:List Item}{c:aU}(g:b.roundOf=aa l)(hk:b.kind=.normal)(h:w.heap[l]?=aa (.loop r))(i:(j=af/\e=[])∨(j=aa .ret/\∃k1,e=.code .ret::k1)∨(∃id k1,j=aa (.exit id)/\e=.code (.exit id)::k1/\exitTo id k1=af)):
  aH P main (G (b.aT a e) (c::cs)) w=.go (G (c.finish (.bool j.isNone)) cs) {w with heap:=w.heap.setIfInBounds l (.loop {r with state:=if j.isNone then .ready else .done,pending:=j})} (seen P b.fn #[⟨.obj l,ae,ae⟩,⟨.obj l,ab,ae⟩]):=by
 obtain⟨d,f⟩:=AB (P:=P) h j;rcases i with⟨rfl,rfl⟩|⟨rfl,k1,rfl⟩|⟨id,k1,rfl,rfl,m⟩
 .simp only[Option.isNone_none,cq]at d;simp[G,aH,stepG.exec,Frame.aT,g,d,f,GStep.after,doReturn,hk]
 .simp only[Option.isNone_some,ck,jP]at d;simp[G,aH,stepG.exec,Frame.aT,g,d,f,GStep.after,doReturn,hk]
 .simp only[Option.isNone_some,ck,jP]at d;simp[G,aH,stepG.exec,Frame.aT,g,d,f,GStep.after,doReturn,hk,m]
def EJ{l:Nat}{r:Loop}(h:w.heap[l]?=aa (.loop r))(e:r.state≠.busy):
  aH P main (G (b.aT a (.endRangeFunc l::k)) cs) w=.go (G (b.aT a ((r.pending.map Item.code).toList++k)) cs) {w with heap:=w.heap.setIfInBounds l (.loop {r with state:=.exhausted})} (seen P b.fn #[⟨.obj l,ae,ae⟩,⟨.obj l,ab,ae⟩]):=by obtain⟨d,c⟩:=Cu (P:=P) h e;simp[G,aH,stepG.exec,Frame.aT,d,c,GStep.after]
def yF{fn:aJ}{tmps:Array ah}{params:Array Tmp}{assign body:Code}:
  (Instr.enterLoop fn tmps params assign body af).run P w=.ok (w.heap.size+1,[{target:=.collected w.heap.size,args:=#[]}]) {w with heap:=(w.heap.push (.deferred (aa []))).push (.loop {state:=.ready,pending:=af,fn,tmps,params,assign,body,defers:=w.heap.size})} /\
  (Instr.enterLoop fn tmps params assign body af).events P w #[]=#[]:=by
 have c:∀(o:Obj) (w:aA),(newObj o).run P w=.ok w.heap.size {w with heap:=w.heap.push o}:=λo w=>by simp only[newObj,Sem.run]
 have d:∀(o:Obj) (w:aA) es,(newObj o).events P w es=es:=λo w es=>by simp only[newObj,Sem.events,Sem.runT]
 constructor
 .simp[Instr.enterLoop,c];rfl
 .simp[Instr.enterLoop,c,d]
def AD{f:aq}{ps:Array Tmp}{assign body:Code}{F:aJ}{fn:Func}{c:List ah}(r:b.roundOf=af)(hk:b.kind≠.early)(j:P.funcs[F]?=aa fn)(l:(fn.name== "runtime.NumGoroutine")=ae)(i:fn.body.isNone=ae)(p:a.eval f=.func (.func F) #[] c.toArray):
  aH P main (G (b.aT a (.code (.rangeFunc f ps assign body)::k)) cs) w =
   .go (G (Frame.enter P F (Value.func (.yield (w.heap.size+1)) #[] #[]::c).toArray .normal) (b.aT {a with defers:={target:=.collected w.heap.size,args:=#[]}::a.defers} (.inRangeFunc (w.heap.size+1)::k)::cs))
    {w with heap:=(w.heap.push (.deferred (aa []))).push (.loop {state:=.ready,pending:=af,fn:=b.fn,tmps:=a.tmps,params:=ps,assign,body,defers:=w.heap.size})} #[]:=by
 obtain⟨o,q⟩:=yF (P:=P) (w:=w) (fn:=b.fn) (tmps:=a.tmps) (params:=ps) (assign:=assign) (body:=body);have h:(b.kind==CallKind.early)=ae:=by grind
 have g:fn.name≠ "runtime.NumGoroutine":=by grind
 have e:fn.body≠af:=by grind
 have n:∀(d:List Deferred) (t:List Item) (m:FrameMode),({fn:=b.fn,tmps:=a.tmps,todo:=t,defers:=d,mode:=m,kind:=b.kind,roundOf:=b.roundOf}:aU).eval f=.func (.func F) #[] c.toArray:=by intro d t m;rw[<-p];cases f<;>rfl
 simp only[G,aH,stepG.exec,Frame.aT,r]at n⊢;simp[o,q,GStep.after,stepG.apply,resolve,n,Deferred.ofValue,invoke,callFunc,j,g,e,h,seen];rfl
end steps
end
section
variable {P:ar}{X:Cx P}
def aF.AE{σ:List aR}{s:St}(hh:aF σ s){a N:Nat}{φ0:Fr}{r:Loop}(hB:σ[a]?=aa (.loop N φ0 r)){l:Nat}(hl:∃L,s.β[a]?=aa L/\L.v=.func (.yield l) #[] #[]):
  ∃tmps fn df,s.β[a]?=aa ⟨.func (.yield l) #[] #[],[l]⟩/\s.w.heap[l]?=aa (.loop {r with tmps:=tmps,fn:=fn,defers:=df})/\tmps.size=N/\(∀t,dt σ s (tmps.getD t ai) (look φ0 t))/\(∀o,s.M l o=af):=by obtain⟨L,h1,h2⟩:=hl;obtain⟨l',tmps,fn,df,d,b,c,e,f⟩:=hh.box a _ L hB h1;grind
def aF.AF{σ:List aR}{s:St}(hh:aF σ s){a N:Nat}{φ0:Fr}{r r':Loop}{B':aR}(hB:σ[a]?=aa (.loop N φ0 r)){l:Nat}{tmps:Array ah}{fn df:Nat}(j:s.β[a]?=aa ⟨.func (.yield l) #[] #[],[l]⟩)(A:s.w.heap[l]?=aa (.loop {r with tmps:=tmps,fn:=fn,defers:=df}))(x:tmps.size=N)(g:∀t,dt σ s (tmps.getD t ai) (look φ0 t))(z:∀o,s.M l o=af)(c:B'=.dead∨B'=.loop N φ0 r'):
  aF (σ.set a B') {s with w:={s.w with heap:=s.w.heap.setIfInBounds l (.loop {r' with tmps:=tmps,fn:=fn,defers:=df})}}/\Step σ s (σ.set a B') {s with w:={s.w with heap:=s.w.heap.setIfInBounds l (.loop {r' with tmps:=tmps,fn:=fn,defers:=df})}}:=by
 have y:l<s.w.heap.size:=hh.lt _ (bP j) l (by simp);have hk:∀b,b≠l->(s.w.heap.setIfInBounds l (.loop {r' with tmps:=tmps,fn:=fn,defers:=df}))[b]?=s.w.heap[b]?:=λb m=>by grind
 have n:s.β.set a ⟨.func (.yield l) #[] #[],[l]⟩=s.β:=by apply iY;grind
 have k:a<σ.length:=(b6.1 hB).1;have d:gI (.loop N φ0 r) ⟨.func (.yield l) #[] #[],[l]⟩ B' ⟨.func (.yield l) #[] #[],[l]⟩:=by rcases c with rfl|rfl<;>rfl
 have ex:Ext σ s (σ.set a B') {s with w:={s.w with heap:=s.w.heap.setIfInBounds l (.loop {r' with tmps:=tmps,fn:=fn,defers:=df})}}:=by
  refine⟨λ_ _ _ h=>h,λi B L p f=>?_⟩;by_cases e:a=i
  .grind
  .exact⟨B,L,by grind,f,.refl _ _⟩
 have:=hh.gJ (M':=s.M) (w':={s.w with heap:=s.w.heap.setIfInBounds l (.loop {r' with tmps:=tmps,fn:=fn,defers:=df})}) (B':=B') (L':=⟨.func (.yield l) #[] #[],[l]⟩) hB j d (by simp) (λb _ m=>hk b (by grind)) (λ_ _ _ _=>rfl) (λ_ _ _ h=>h)
  (λb o v u=>by
   have q:b≠l:=by grind
   rw[<-hh.mem b o v u];simp only[aV]
   grind) (λb m=>by grind) rfl rfl rfl (by
   rcases c with rfl|rfl
   .trivial
   .refine⟨l,tmps,fn,df,rfl,?_,x,λt=>?_,z⟩
    .grind
    .have:=(g t).mono ex hh.len
     grind)
 grind
def AK.yield{ι:Type}{N:Nat}{Qf:Post}{K:List It}{φ:Fr}{σ:List aR}{σ':ι->List aR}{all rest:List au}{o:au}{B:aq}{xs:Array aq}{z:Array aj}{h:Nat}{ds:List D}{res:Bool}(I:Yields X h ds σ res σ')(Q:o.guard=af)(R:gg N o.dst=ab)(V:o.op=.call {callee:=.value B,args:=xs,argTypes:=z}){N0:Nat}{φ0:Fr}{r:Loop}(n:σ[h]?=aa (.loop N0 φ0 r))(M:bU φ B=.e (.one (.ref h)))(v:xs.toList.map (bU φ)=ds)(k:∀j,AK X N Qf (.ops all rest::K) .normal (kH o.dst (.e (.one (.c (.bool res)))) φ) (σ' j)):AK X N Qf (.ops all (o::rest)::K) .normal φ σ:=by
 intro s a f hh b kk cs S idx hb jE hQ;cases idx with
 |nil=>exact jE.elim
 |cons j idx =>
 refine .next rfl λi C=>?_;have x:=X.iH C;have d:=hh.rely x;have E:=f.rely x hh;have F:=dg E B;rw[M]at F;obtain⟨_,L,m,p,_⟩:=(show gB _ i _ (.ref h)from F)
 obtain⟨l,tmps,fn,df,h3,h4,h5,h6,h7⟩:=d.box h _ L n m;subst h3;have u:cp σ i (xs.toList.map a.eval) ds:=by grind[lX,dg]
 obtain⟨T,A,assign,body,J,Y,U⟩:=I i (xs.toList.map a.eval) l u d ⟨_,m,rfl⟩;obtain⟨W,O⟩:=Cv (P:=P) (w:=i.w) (a:=a) V p;refine⟨_,i,_,Kw jE.1 (dK Q) hb (W.trans J),⟨⟨σ,σ,d,d,.refl _ _⟩,fg.seen ?_⟩,U S _ _ λG s' jh st=>?_⟩
 .rw[O,Y];exact .one (pA (L:=⟨.func (.yield l) #[] #[],[l]⟩) (bP m) (by simp))
 have g:=kF (b:=b) (a:=a) (k:=kk) all.toArray j idx (.bool res);rw[jE.1]at g;simp only[oo]at g;rw[g];refine k G s' _ ?_ jh b kk cs S idx hb jE.2 λy σ2 s2 a2 q Z h2 mI=>hQ y σ2 s2 a2 q Z h2 ((x.stepW.trans st).trans mI);cases H:o.dst with
 |none=>exact E.mono st d.len
 |some t=>exact(E.mono st d.len).put (gK R t H) (show dt (σ' G) s' (.bool res) (.e (.one (.c (.bool res))))from Rd.bool)
def rL:List Tmp->List D->Fr->Fr
 |t::ts,d::ds,φ=>rL ts ds ((t,d)::φ)
 |_,_,φ=>φ
def OF(N:Nat):List Tmp->Bool
 |[]=>ab
 |t::ts=>match bA (t+1) N with|true=>OF N ts|false=>ae
def GN{N:Nat}{σ:List aR}{s:St}:∀{ps:List Tmp}{ds:List D}{vs:List ah}{φ:Fr}{a:Act},cu N σ s φ a->cp σ s vs ds->OF N ps=ab->cu N σ s (rL ps ds φ) {a with tmps:=(ps.zip vs).foldl (λtmps (t,v)=>tmps.setIfInBounds t v) a.tmps}
 |[],ds,vs,φ,a,h,_,_=>by simpa[rL]using h
 |_::_,[],[],φ,a,h,_,_=>by simpa[rL]using h
 |_::_,[],_::_,φ,a,h,b,_=>b.elim
 |_::_,_::_,[],φ,a,h,b,_=>b.elim
 |t::ts,d::ds,v::vs,φ,a,h,b,c=>by
  simp only[OF]at c;split at c
  .rename_i e;have:=GN (h.put (d:=t) (db e) b.1) b.2 c;simpa[rL,Act.put]using this
  grind
def Sp:Exit->Option (Option Code)
 |.normal=>aa af
 |.ret=>aa (aa .ret)
 |.exit id=>aa (aa (.exit id))
 |_=>af
def Yields.intro{ι:Type}{f N:Nat}{φ0:Fr}{r:Loop}{ds:List D}{σ:List aR}{σ':ι->List aR}{j:Option Code}(n:σ[f]?=aa (.loop N φ0 r))(Z:r.state=.ready)(hlen:ds.length=r.params.size)(Q:OF N r.params.toList=ab)(h:AW X N r.assign (λe u σ1=>e=.normal/\σ1[f]?=aa (.loop N φ0 r)/\AW X N r.body (λe φ2 σ2=>Sp e=aa j/\σ2[f]?=aa (.loop N φ0 {r with state:=.busy}) /\
   ∃i,EK (σ2.set f (.loop N φ0 {r with state:=if j.isNone then .ready else .done,pending:=j})) (σ' i)) u (σ1.set f (.loop N φ0 {r with state:=.busy}))) (rL r.params.toList ds φ0) σ):Yields X f ds σ j.isNone σ':=by
 intro s vs l Qv hh hl;obtain⟨tmps,fn,df,h1,h2,h3,h4,h5⟩:=hh.AE n hl;have Qt:vs.length=r.params.size:=by grind[cp.get]
 obtain⟨y1,y2⟩:=H6 (P:=P) (args:=vs.toArray) h2 (by grind);refine⟨_,_,_,_,y1,y2,λS c cs hS=>?_⟩;let b:aU:={fn:=fn,tmps:=#[],todo:=[],defers:=[],mode:=.run,kind:=.normal,roundOf:=aa l}
 have J:b.kind≠.early:=by simp[b]
 have hf:cu N σ s (rL r.params.toList ds φ0) {tmps:=(r.params.zip vs.toArray).foldl (λtmps (t,a)=>tmps.setIfInBounds t a) tmps,defers:=[]}:=by
  have:=GN (a:={tmps:=tmps,defers:=[]}) (φ:=φ0) ⟨h3,⟨[],ay⟩,h4⟩ Qv Q;have e:(r.params.zip vs.toArray).foldl (λtmps (x:Tmp×ah)=>tmps.setIfInBounds x.1 x.2) tmps=(r.params.toList.zip vs).foldl (λtmps (x:Tmp×ah)=>tmps.setIfInBounds x.1 x.2) tmps:=by rw[<-Array.foldl_toList];simp
  grind
 show fL X S (G (b.aT {tmps:=(r.params.zip vs.toArray).foldl (λtmps (t,a)=>tmps.setIfInBounds t a) tmps,defers:=[]} [.code r.assign,.beginRound,.code r.body]) (c::cs)) s;refine h s _ hf hh b [.beginRound,.code r.body] (c::cs) S J ?_;rintro e u σ1 s1 a1 ⟨rfl,o,q⟩ f1 y F;refine .next rfl λs2 tH=>?_;have M:=X.iH tH;have g:=y.rely M;have f2:=f1.rely M y;have R:∃L,s2.β[f]?=aa L/\L.v=.func (.yield l) #[] #[]:=by obtain⟨B',L',k1,U,T⟩:=(F.trans M.stepW).box f _ _ n h1;rw[o]at k1;cases k1;exact⟨L',U,T⟩
 obtain⟨aaX,fn2,XQ,g1,g2,g3,g4,g5⟩:=g.AE o R;have K:=g.AF (r':={r with state:=.busy}) o g1 g2 g3 g4 g5 (.inr rfl);have z:∀{s:St} {σ:List aR} {L:Loc},s.β[f]?=aa L->L.bs=[l]->fg s #[⟨.obj l,ae,ae⟩,⟨.obj l,ab,ae⟩]:=λ{s σ L} hL J =>
  .two (pA (bP hL) (by grind)) (pA (bP hL) (by grind))
 refine⟨_,_,_,Kx (l:=l) rfl J g2 Z,⟨⟨_,_,g,K.1,K.2⟩,fg.seen (z (σ:=σ1) g1 rfl)⟩,?_⟩;have H:=K.2.nD g;have V:=K.1;refine q _ a1 (f2.mono H g.len) V b [] (c::cs) S J ?_;rintro e φ3 σ3 s3 a3 ⟨hj,p,ii,I⟩ f3 E Y;have stA:=((F.trans M.stepW).trans H).trans Y;have fin:∀C k,cv s3 k->((j=af/\C=[])∨(j=aa .ret/\∃k1,C=.code .ret::k1)∨(∃id k1,j=aa (.exit id)/\C=.code (.exit id)::k1/\exitTo id k1=af)) ->
   ∃g' s' es,aH P X.main (G (b.aT a3 C) (c::cs)) k.w=.go g' s'.w es/\rB k s' es/\fL X S g' s':=by
  intro C k d W;have m:=E.rely d;have A:∃L,k.β[f]?=aa L/\L.v=.func (.yield l) #[] #[]:=by obtain⟨B',L',k1,U,T⟩:=(stA.trans d.stepW).box f _ _ n h1;rw[p]at k1;cases k1;exact⟨L',U,T⟩
  obtain⟨O,fn5,df5,p1,p2,p3,p4,p5⟩:=m.AE p A;have B:=m.AF (r':={r with state:=if j.isNone then .ready else .done,pending:=j}) p p1 p2 p3 p4 p5 (.inr rfl);obtain⟨p7,p8,_⟩:=I _ B.1;exact⟨_,_,_,Cw (l:=l) rfl rfl p2 W,⟨⟨_,_,m,B.1,B.2⟩,fg.seen (z (σ:=σ3) p1 rfl)⟩,hS ii _ p7 (((stA.trans d.stepW).trans (B.2.nD m)).trans (p8.nD B.1))⟩
 cases e with
 |normal =>
  cases hj;exact .next rfl λk d=>fin [] k (X.iH d) (.inl ⟨rfl,rfl⟩)
 |ret =>
  cases hj;intro pre;exact .next rfl λk d=>fin _ k (X.iH d) (.inr (.inl ⟨rfl,pre,rfl⟩))
 |exit id =>
  cases hj;intro pre hp;refine .next rfl λk d=>fin _ k (X.iH d) (.inr (.inr ⟨id,_,rfl,rfl,?_⟩));have:=hp [];simpa[exitTo]using this
 |_=>cases hj
end
def jO{P:ar}(X:Cx P)(N:Nat)(c:Code)(Q:Post)(φ:Fr)(σ:List aR):Prop :=
 ∀s a,cu N σ s φ a->aF σ s->∀(b:aU) (k:List Item) (cs:List aU) (S:av->St->Prop),b.kind≠.early->b.roundOf=af ->
  (∀e φ' σ' s' a',Q e φ' σ'->cu N σ' s' φ' a'->aF σ' s'->cY σ s σ' s'->ends X S b k cs e a' s')->fL X S (G (b.aT a (.code c::k)) cs) s
section
variable {P:ar}{X:Cx P}{N:Nat}{Q:Post}{φ:Fr}{σ:List aR}
def AW.top{c:Code}(h:AW X N c Q φ σ):jO X N c Q φ σ:=λs a f hh b k cs S e _ d=>h s a f hh b k cs S e d
theorem jO.seq{x y:Code}(h:jO X N x (Cy (jO X N y Q) Q) φ σ):jO X N (.seq x y) Q φ σ:=by
 intro s a n hh b k cs S g d l;refine .ctl hh rfl (λ_=>ox) λm h1=>?_;refine h m a (n.rely h1 hh) (hh.rely h1) b (.code y::k) cs S g d ?_;intro e φ' σ' s' a' q i j st;have c:=h1.stepW.trans st;cases e with
 |normal=>exact q s' a' i j b k cs S g d λe f σ2 s2 a2 q2 f2 h2 mI=>l e f σ2 s2 a2 q2 f2 h2 (c.trans mI)
 |_=>exact ends.cons (λ_ _=>rfl) (by simp) (l _ _ _ _ _ q i j c)
theorem jO.block{id:Nat}{c:Code}(h:jO X N c (xc id Q) φ σ):jO X N (.block id c) Q φ σ:=by
 intro s a p hh b k cs S n j i;refine .ctl hh rfl (λ_=>sC) λo h1=>?_;refine h o a (p.rely h1 hh) (hh.rely h1) b (.inBlock id::k) cs S n j ?_;intro e φ' σ' s' a' q g f st;have d:=h1.stepW.trans st;cases e with
 |normal =>
  exact .ctl f rfl (λ_=>rC) λs2 h2=>i .normal φ' σ' s2 a' q (g.rely h2 f) (f.rely h2) (d.trans h2.stepW)
 |exit Jx =>
  simp only[xc]at q;split at q
  .rename_i e;subst e;intro pre hp;refine .ctl f rfl (λ_=>Ad (k':=k) (by rw[hp];simp[exitTo])) λs2 h2=>?_;exact i .normal φ' σ' s2 a' q (g.rely h2 f) (f.rely h2) (d.trans h2.stepW)
  .rename_i m
   intro pre hp;have:=i (.exit Jx) φ' σ' s' a' q g f d (pre++[.inBlock id]) (λk'=>by
    rw[l8,hp];have:(id==Jx)=ae:=by grind
    simp[exitTo,this])
   grind
 |ret=>exact i _ _ _ _ _ q g f d
 |panic ch=>exact i _ _ _ _ _ q g f d
 |goto l=>exact i _ _ _ _ _ q g f d
 |outgrown=>exact i _ _ _ _ _ q g f d
def aF.Sq{s:St}(h:aF σ s){o:Nat->Prop}(c:∀b,o b->b<s.w.heap.size/\∀L∈s.β,b∉L.bs):aF σ {s with own:=o} :=
 ⟨h.mem,h.len,λl B L hB hL=>eE.carry (σ:=σ) (s:=s) (σ':=σ) (s':={s with own:=o}) ⟨λ_ _ _ h=>h,λ_ B L h a=>⟨B,L,h,a,.refl _ _⟩⟩ h.len (λ_ _=>⟨rfl,λ_=>rfl⟩) (h.box l B L hB hL),h.eO,h.lt,c⟩
def aF.iM{s:St}(h:aF σ s){r:Nat}{o:Nat->Prop}(j:s.own r)(m:∀b,o b->s.own b)(f:¬o r)(g:∀i,s.M r i=af)(e:s.w.heap[r]?=aa (.deferred (aa []))):
  aF (σ++[.qX]) {s with β:=s.β++[⟨.int .i64 r,[r]⟩],own:=o}/\eF s {s with β:=s.β++[⟨.int .i64 r,[r]⟩],own:=o}:=by
 obtain⟨n,p⟩:=h.own r j;have ex:Ext σ s (σ++[.qX]) {s with β:=s.β++[⟨.int .i64 r,[r]⟩],own:=o}:=by
  refine⟨λ_ _ _ h=>h,λl B L hB hL=>⟨B,L,?_,?_,.refl _ _⟩⟩
  .grind
  grind
 refine⟨⟨h.mem,by simp[h.len],?_,?_,?_,?_⟩,⟨rfl,λ_ _ _ h=>h,λ_ _ _=>rfl,h.mem,?_⟩⟩
 .intro l B L hB hL;rcases gq hL with d|⟨hl,rfl⟩
  .have hl:l<σ.length:=by rw[<-h.len];grind
   rw[jy hl]at hB;exact(h.box l B L hB d).carry ex h.len λ_ _=>⟨rfl,λ_=>rfl⟩
  .rw[hl,h.len,gk (bc _)]at hB;simp at hB;subst hB;exact⟨r,rfl,e,g⟩
 .intro l l' L L' hL fA b a c;rcases gq hL with k1|⟨e1,rfl⟩<;>rcases gq fA with k|⟨e2,rfl⟩
  .exact h.eO l l' L L' k1 k b a c
  .grind
  .grind
  grind
 .intro L hL b a;simp only[fx,fN]at hL;rcases hL with hL|rfl
  .exact h.lt L hL b a
  grind
 .intro b a;obtain⟨q,p2⟩:=h.own b (m b a);grind
 grind
def GM:Option Code->Option Exit
 |none=>aa .normal
 |some .ret=>aa .ret
 |some (.exit id)=>aa (.exit id)
 |_=>af
def jO.rangeFunc{ι:Type}{f:aq}{ps:Array Tmp}{assign body:Code}{F:aJ}{capD:List D}{res:ι->D}{σ':ι->List aR}{r':ι->Loop}(Jo:∀s a,cu N σ s φ a->aF σ s->∃n:List ah,a.eval f=.func (.func F) #[] n.toArray/\cp σ s n capD)(Qu:ef X F (.e (.one (.ref σ.length))::capD) (σ++[.loop N φ {state:=.ready,pending:=af,fn:=0,tmps:=#[],params:=ps,assign:=assign,body:=body,defers:=0}]) res σ')(hl:∀i,(σ' i)[σ.length]?=aa (.loop N φ (r' i))/\(r' i).state≠.busy)(k:∀i,∃e,GM (r' i).pending=aa e/\Q e φ ((σ' i).set σ.length .dead++[.qX])):jO X N (.rangeFunc f ps assign body) Q φ σ:=by
 intro s a fr hh b kk cs S m OD hQ;obtain⟨⟨fn,Vw,U,I⟩,A⟩:=Qu;refine .next rfl λd QQ=>?_;have hr:=X.iH QQ;have j:=hh.rely hr;have W:=fr.rely hr hh;obtain⟨n,hv,J⟩:=Jo d a W j;generalize Xx:d.w.heap.size=r;have q:=λmain=>AD (P:=P) (main:=main) (k:=kk) (cs:=cs) (ps:=ps) (assign:=assign) (body:=body) (b:=b) (w:=d.w) OD m Vw U I hv;rw[Xx]at q;let w1:aA:={d.w with heap:=d.w.heap.push (.deferred (aa []))}
 let lo:Loop:={state:=.ready,pending:=af,fn:=b.fn,tmps:=a.tmps,params:=ps,assign:=assign,body:=body,defers:=r}
 let w2:aA:={d.w with heap:=(d.w.heap.push (.deferred (aa []))).push (.loop lo)}
 have Ec:w2.heap.size=r+2:=by grind
 have adp:w1.heap.size=r+1:=by grind
 have hk1:∀b,b<d.w.heap.size->w1.heap[b]?=d.w.heap[b]?:=λb m=>by grind
 have Z:∀b,b<w1.heap.size->w2.heap[b]?=w1.heap[b]?:=λb m=>by grind
 have hk2:∀b,b<d.w.heap.size->w2.heap[b]?=d.w.heap[b]?:=λb m=>by grind
 have V:w2.heap[r]?=aa (.deferred (aa [])):=by grind
 have Y4:w2.heap[r+1]?=aa (.loop lo):=by grind
 have nM:∀b,d.w.heap.size<=b->∀o,d.M b o=af:=λb m o=>by
  cases y:d.M b o with
  |none=>rfl
  |some v=>have:=j.block y;omega
 let L1:Loc:=⟨.func (.yield (r+1)) #[] #[],[r+1]⟩
 let L2:Loc:=⟨.int .i64 r,[r]⟩
 let T:Loop:={state:=.ready,pending:=af,fn:=0,tmps:=#[],params:=ps,assign:=assign,body:=body,defers:=0}
 obtain⟨g1,g2⟩:=j.grow (M':=d.M) (w':=w2) (by omega) hk2 (λ_ _ _=>rfl) (λb m o v y=>by grind) rfl rfl rfl;have E:Ext σ d (σ++[.loop N φ T]) ⟨d.β++[L1],d.M,w2,d.own⟩:=by
  refine⟨λ_ _ _ h=>h,λl B L hB hL=>⟨B,L,?_,?_,.refl _ _⟩⟩
  .grind
  grind
 obtain⟨a1,a2⟩:=g1.ik (B:=.loop N φ T) (L:=L1) g2 rfl j ⟨r+1,a.tmps,b.fn,r,rfl,Y4,W.size,λt=>(W.slot t).mono E j.len,λo=>nM _ (by omega) o⟩ (λb m=>by grind)
 have hD:=a1.Sq (o:=λb=>d.own b∨b=r) (by
  rintro b (m|rfl)
  .exact a1.own b m
  .refine⟨by grind,λL hL=>?_⟩;simp only[fx,fN]at hL;rcases hL with hL|rfl
   .intro hc;have:=j.lt L hL b hc;omega
   grind)
 have d1:=j.lW;obtain⟨e1,e2⟩:=d1.grow (M':=d.M) (w':=w1) (by omega) hk1 (λ_ _ _=>rfl) (λb m o v y=>by grind) rfl rfl rfl;obtain⟨e3,e4⟩:=e1.ik (B:=.dead) (L:=L2) e2 rfl d1 ay (λb m=>by grind)
 obtain⟨e5,e6⟩:=e3.grow (M':=d.M) (w':=w2) (by grind) Z (λ_ _ _=>rfl) (λb m o v y=>by grind) rfl rfl rfl
 obtain⟨e7,e8⟩:=e5.ik (B:=.dead) (L:=L1) e6 rfl e3 ay (λb m=>by grind);have XT:eF ⟨d.β++[L2]++[L1],d.M,w2,d.own⟩ ⟨d.β++[L1],d.M,w2,λb=>d.own b∨b=r⟩:=by
  refine⟨rfl,λ_ _ _ h=>h,λ_ _ _=>rfl,a1.mem,?_⟩;rintro b ((m|rfl)|⟨L,hL,m⟩)
  .grind
  .exact .inr ⟨L2,by simp,by grind⟩
  grind
 refine⟨_,⟨d.β++[L2]++[L1],d.M,w2,d.own⟩,_,q X.main,⟨⟨_,_,d1,e7,e4.trans e8⟩,.nil⟩,.ghost XT (A _ (Value.func (.yield (r+1)) #[] #[]::n) ?_ hD S _ λi Us v s4 C mK Uw st4=>?_)⟩
 .refine⟨⟨λB p=>?_,L1,?_,rfl,rfl⟩,?_⟩
  .rw[gk (bc _)]at p;simp at p;subst p;rfl
  .show (d.β++[L1])[σ.length]?=_;rw[<-j.len,gk (bc _)];simp
  .exact J.mono (σ:=σ) (s:=d) (σ':=σ++[.loop N φ T]) (s':=⟨d.β++[L1],d.M,w2,λb=>d.own b∨b=r⟩) ⟨E.mem,E.box⟩ j.len
 have Y5:(b.aT {a with defers:={target:=.collected r,args:=#[]}::a.defers} (.inRangeFunc (r+1)::kk)).finish v=b.aT {a with defers:={target:=.collected r,args:=#[]}::a.defers} (.endRangeFunc (r+1)::kk):=by simp[Frame.finish,Frame.aT]
 refine qy (cs:=cs) (c:=b.aT {a with defers:={target:=.collected r,args:=#[]}::a.defers} (.inRangeFunc (r+1)::kk)) Uw C λs5 hr5=>?_;rw[Y5];refine .next rfl λs6 O=>?_;have hr6:=X.iH O;have x:=(Uw.rely hr5).rely hr6;have R:=(st4.trans hr5.stepW).trans hr6.stepW;obtain⟨K,Vx⟩:=hl i;have hLl:∃L,s6.β[σ.length]?=aa L/\L.v=.func (.yield (r+1)) #[] #[]:=by
  obtain⟨B',L',k1,k2,k3⟩:=R.box σ.length (.loop N φ T) L1 (show(σ++[aR.loop N φ T])[σ.length]?=_ from List.getElem?_concat_length) (by show(d.β++[L1])[σ.length]?=_;rw[<-j.len,gk (bc _)];simp)
  rw[K]at k1;cases k1;exact⟨L',k2,k3⟩
 obtain⟨z,fn6,df6,p1,p2,p3,p4,p5⟩:=x.AE K hLl;obtain⟨q1,q2⟩:=x.AF (r':={r' i with state:=.exhausted}) (B':=.dead) K p1 p2 p3 p4 p5 (.inl rfl);refine⟨_,_,_,EJ p2 Vx,⟨⟨_,_,x,q1,q2⟩,fg.seen (.two (pA (bP p1) (by simp)) (pA (bP p1) (by simp)))⟩,?_⟩;have g:=R.trans (q2.nD x);generalize hs7:({s6 with w:={s6.w with heap:=s6.w.heap.setIfInBounds (r+1) (.loop {{r' i with state:=.exhausted}with tmps:=z,fn:=fn6,defers:=df6})}}:St)=s7 at q1 q2 g;have h7r:s7.own r:=by rw[g.own];grind
 have h7d:s7.w.heap[r]?=aa (.deferred (aa [])):=by rw[g.fy r (.inr rfl)];exact V
 have h7M:∀o,s7.M r o=af:=λo=>by rw[g.je r (by grind) (λL hL=>(hD.own r (.inr rfl)).2 L hL)];grind
 obtain⟨t1,t2⟩:=q1.iM (r:=r) (o:=d.own) h7r (λb m=>by rw[g.own];grind) (λhc=>by have:=(j.own r hc).1;omega) h7M h7d;refine .ghost t2 ?_;have H:cY σ d ((σ' i).set σ.length .dead++[.qX]) {s7 with β:=s7.β++[⟨.int .i64 r,[r]⟩],own:=d.own}:=by
  refine⟨?_,λb m=>?_,λb o v y=>g.mem b o v y,λb m hn o=>?_,λL hL b m=>?_,λl B L hB hL=>?_,g.os,g.tape,g.output,rfl⟩
  .grind
  .show s7.w.heap[b]?=_;rw[g.fy b (.inl m)];exact hk2 b (j.own b m).1
  .show s7.M b o=_;rw[g.je b (by grind) (λL hL=>?_)];grind
  .simp only[fx,fN]at hL;rcases hL with hL|rfl
   .rcases g.vJ L hL b m with h1|⟨L0,h1,h2⟩
    .grind
    grind
   grind
  .have RF:=(b6.1 hB).1;have RG:=(b6.1 hL).1;obtain⟨B',L',k1,k2,k3⟩:=g.box l B L (by grind) (by grind);grind
 have fF:cu N ((σ' i).set σ.length .dead++[.qX]) {s7 with β:=s7.β++[⟨.int .i64 r,[r]⟩],own:=d.own} φ {a with defers:={target:=.collected r,args:=#[]}::a.defers}:=by
  have y:=W.mono H j.len;obtain⟨ls,Y⟩:=W.defers;refine⟨y.size,⟨((σ' i).set σ.length .dead).length::ls,⟨⟨?_,⟨.int .i64 r,[r]⟩,r,?_,rfl,rfl⟩,λhc=>?_,Y.mono H.ext⟩⟩,y.slot⟩
  .grind
  .show (s7.β++_)[_]?=_;rw[<-q1.len,gk (bc _)];simp
  .have h1:=Y.Cz _ hc;grind
 obtain⟨e,p,hq⟩:=k i;have u:=hQ e φ _ _ _ hq fF t1 (hr.stepW.trans H);revert p;show GM (r' i).pending=aa e->fL X S (G (b.aT _ (((r' i).pending.map Item.code).toList++kk)) cs) _;intro p;cases hp:(r' i).pending with
 |none=>rw[hp]at p;cases p;exact u
 |some c =>
  rw[hp]at p;cases c<;>simp only[GM,reduceCtorEq,dw]at p
  .subst p;exact u [] (λ_=>rfl)
  .subst p;exact u kk
def cu.callee{t:Nat}{F:aJ}{cap:List C}(hl:look φ t=.e (.one (.c (.fn (.func F) [] cap)))):∀s a,cu N σ s φ a->aF σ s->∃b:List ah,a.eval (.tmp t)=.func (.func F) #[] b.toArray/\cp σ s b (fP cap):=by
 intro s a d _;have h:=d.slot t;rw[hl]at h;have h:=e9 h;show ∃b:List ah,a.tmps.getD t ai=.func (.func F) #[] b.toArray/\_;generalize a.tmps.getD t ai=v at h;cases h with
 |fn fs cs hl Eb f1 f2 h1 h2 r1 r2 =>
  grind[nL]
def ef.AG{ι:Type}{f:aJ}{fn:Func}{c:Code}{args:List D}{σ':ι->List aR}{res:ι->D}(l:P.funcs[f]?=aa fn)(d:(fn.name== "runtime.NumGoroutine")=ae)(m:fn.body=aa c)(g:bA args.length fn.ntmps=ab)(h:Fits args σ->jO X fn.ntmps c (λe φ σ1=>∃j,cw fn σ.length (res j) (σ' j) e φ σ1) (ji 0 args) σ):ef X f args σ res σ':=by refine⟨⟨fn,l,d,by grind⟩,λs0 vs hr hh=>?_⟩;exact(ef.QR l d m (db g) λs a f i b k cs S hk OD hQ=>h ⟨s0,vs,hr,hh⟩ s a f i b k cs S hk OD hQ).2 s0 vs hr hh
def Y6(fn:Func)(res:D)(σ':List aR):Post:=λe φ σ1 =>
 (e=.ret∨e=.normal)/\σ1=σ'/\lM σ'=ab/\∃ds d ps,yy φ fn.results.toList=aa ds/\sF ds=aa d/\Ed d res=aa ps/\az ps
def ef.EL{ι:Type}{f:aJ}{fn:Func}{c:Code}{args:List D}{σ':ι->List aR}{res:ι->D}(p:P.funcs[f]?=aa fn)(k:(fn.name== "runtime.NumGoroutine")=ae)(A:fn.body=aa c)(g:bA args.length fn.ntmps=ab)(h:AW X fn.ntmps c (λe φ σ1=>∃j,Y6 fn (res j) (σ' j) e φ σ1) (ji 0 args) σ):ef X f args σ res σ':=by
 refine⟨⟨fn,p,k,by grind⟩,λs vs hr hh S cs hS=>?_⟩;obtain⟨hl,E⟩:=cp.get hr;let b:aU:={fn:=f,tmps:=#[],todo:=[],defers:=[],mode:=.run,kind:=.normal,roundOf:=af}
 have a:Frame.enter P f vs.toArray .normal=b.aT {tmps:=vs.toArray++Array.replicate (fn.ntmps-vs.toArray.size) ai,defers:=[]} [.code c]:=by simp[Frame.enter,Frame.aT,p,A,b]
 rw[a];have g:=db g;refine h s {tmps:=vs.toArray++Array.replicate (fn.ntmps-vs.toArray.size) ai,defers:=[]} ⟨by grind,⟨[],ay⟩,λt=>?_⟩ hh b [] cs S (by simp[b]) ?_
 .rw[oB];simp only[kD,cq,lU];have:=E t;rcases cM t vs.length with y|x
  .have e:(vs.toArray++Array.replicate (fn.ntmps-vs.toArray.size) ai).getD t ai=(vs[t]?).getD ai:=by simp only[dZ];grind
   grind
  .rw[r9 (by omega)];trivial
 .rintro e φ' σ1 s1 a1 ⟨B,n,rfl,o,ds,d,ps,h1,h2,J,u⟩ F m st;have fin:∀(fr:aU) s2,cv s1 s2->fr.fn=f->fr.tmps=a1.tmps->fr.defers=a1.defers->fr.mode=.returning->fr.kind=.normal->fL X S (G fr cs) s2:=by
   intro fr s2 tH e1 e2 e3 e4 e5;have q:=F.rely tH m;obtain⟨v,H,C,I⟩:=uM (P:=P) q h1 h2;obtain⟨ls,i⟩:=q.defers;have z:a1.defers=[]:=by
    cases ls with
    |nil=>cases r:a1.defers with
     |nil=>rfl
     |cons d ds=>rw[r]at i;exact i.elim
    |cons l ls=>exact absurd rfl (nO o _ (bP (i.Cz l (by simp))))
   refine hS B fr v _ ⟨e1,e4,by grind,e5,fn,by grind,λw _=>?_⟩ (oC J u C) (m.rely tH) (st.trans tH.stepW);rw[e2];exact⟨H w,λe n=>by rw[I w #[]]at n;grind⟩
  rcases n with rfl|rfl
  .intro pre;exact .ctl m rfl (λ_=>Ek rfl) λs2 tH=>fin _ s2 tH rfl rfl (iD _) rfl rfl
  .exact .ctl m rfl (λ_=>El rfl) λs2 tH=>fin _ s2 tH rfl rfl (iD _) rfl rfl
end
structure KY{P:ar}(X:Cx P)(N:Nat)(ops:Array au)(φ:Fr)(σ:List aR)(x:Nat->D)(c:Nat->Fr)(idx:Nat->Option Nat)(last:Nat):Prop where
 back:∀i o,ops[i]?=aa o->∀e∈o.after,dr e=ab->e.on<i
 JW:∀i o d,ops[i]?=aa o->o.dst=aa d->idx d=aa i/\d<N
 yz:∀d i,idx d=aa i->∃o,ops[i]?=aa o/\o.dst=aa d
 one:∀i o,ops[i]?=aa o->i≠last->OA X N ops.toList o (c i) σ (x i) σ
 Us:∀i o,ops[i]?=aa o->i≠last->∀t σ s v,dt σ s v (match idx t with|some j=>(if ∃e∈o.after,dr e=ab/\e.on=j then x j else .any)|none=>look φ t)->dt σ s v (look (c i) t)
 lst:∀o,ops[last]?=aa o->∀j,j<ops.size->j≠last->∃e∈o.after,dr e=ab/\e.on=j
 has:last<ops.size
section
variable {P:ar}{X:Cx P}{N:Nat}{ops:Array au}{φ:Fr}{σ:List aR}{x:Nat->D}{c:Nat->Fr}{idx:Nat->Option Nat}{last:Nat}
theorem CL{a t:Nat}{L:Array Bool}(h:∀i,i<ops.size->L.getD i ab=ab):Region.linearise.go .any ops a t L []=[]:=by
 cases a with
 |zero=>exact wO t L
 |succ n =>
  have b:ba .any ops L=[]:=by
   cases b:ba .any ops L with
   |nil=>rfl
   |cons y e =>
    have d:y∈ba .any ops L:=by grind
    grind[mem_ready]
  grind[pC]
def KY.arr(h:KY X N ops φ σ x c idx last){O:av->St->Prop}{b:aU}{kk:List Item}{cs:List aU}(M:b.kind≠.early){s0:St}(hQ:∀s a,a.tmps.size=N->(∀t,dt σ s (a.tmps.getD t ai) (match idx t with|some j=>if j=last then .any else x j|none=>look φ t))->a.defers=[]->aF σ s->cY σ s0 σ s->fL X O (G (b.aT a (.inRegion ops [last]::kk)) cs) s):
  ∀(f:Nat) (L:Array Bool),L.size=ops.size->(L.toList.filter (λb=>!b)).length<=f->¬L.getD last ae=ab ->
   (∀i o,ops[i]?=aa o->L.getD i ae=ab->∀e∈o.after,dr e=ab->L.getD e.on ae=ab) ->
   ∀(s:St) (a:Act),Jq N σ s (gz φ x idx L) a->a.defers=[]->aF σ s->cY σ s0 σ s ->
   ∀t,fL X O (G (b.aT a (.inRegion ops (Region.linearise.go .any ops f t L [])::kk)) cs) s:=by
 intro f;induction f with
 |zero =>
  intro L hs hf l Y s a g F hh st t;exfalso;have hm:L[last]'(by have:=h.has;omega)∈L.toList:=by simp
  have Q:=h.has;cases M:L[last]'(by omega)with
  |true=>exact l (by simp[dZ,gm (by omega:last<L.size),M])
  |false =>
   have:L[last]'(by omega)∈L.toList.filter (λb=>!b):=jS.2 ⟨hm,by grind⟩;grind
 |succ f ih =>
  intro L hs hf l Y s a g F hh st t;rw[pC];cases I:(ba .any ops L)[t % (ba .any ops L).length]? with
  |none =>
   exfalso;have hr:ba .any ops L=[]:=by
    cases hr:ba .any ops L with
    |nil=>rfl
    |cons y ys =>
     grind[Nat.mod_lt]
   have H:∀i,i<ops.size->L.getD i ae=ab:=by
    intro i;induction i using Nat.strongRecOn with
    |_ i ihi =>
     intro hi;cases M:L.getD i ae with
     |true=>rfl
     |false =>
      have hm:i∈ba .any ops L:=mem_ready.2 ⟨ops[i],gm hi,by
       grind,λe S u=>by
       have:=h.back i _ (gm hi) e S u
       grind⟩
      grind
   exact l (H last h.has)
  |some i =>
   have hi:=bP I;obtain⟨o,E,Yk,RX⟩:=mem_ready.1 hi;have Q:i<ops.size:=(iA.1 E).1;have K:¬L.getD i ae=ab:=by grind
   by_cases z:i=last
   .subst z;have w:Region.linearise.go .any ops f (t / (ba .any ops L).length) (L.setIfInBounds i ab) []=[]:=by
     refine CL λj hj=>?_;have hj2:(L.setIfInBounds i ab).getD j ae=ab:=by
      rw[eW (by omega)];by_cases e:j=i
      .grind
      .obtain⟨ed,S,u,rfl⟩:=h.lst o E j hj e;grind
     grind
    simp only[w];refine hQ s a g.size (λt=>?_) F hh st;have:=g.slot t;unfold gz at this;cases k:idx t with
    |none=>grind
    |some j =>
     simp only[k]at this⊢;obtain⟨oj,B,_⟩:=h.yz _ _ k;by_cases e:j=i
     .rw[bl e];trivial
     .rw[aY e];obtain⟨ed,S,u,rfl⟩:=h.lst o E j (iA.1 B).1 e;grind
   have q:(L.setIfInBounds i ab).size=ops.size:=by grind
   have r:((L.setIfInBounds i ab).toList.filter (λb=>!b)).length<=f:=by
    have h1:L.toList[i]?=aa ae:=by rw[zZ,gm (by omega:i<L.size)];simpa[dZ,gm (by omega:i<L.size)]using K
    grind[count_set]
   have J:∀j o',ops[j]?=aa o'->(L.setIfInBounds i ab).getD j ae=ab->∀e∈o'.after,dr e=ab->(L.setIfInBounds i ab).getD e.on ae=ab:=by grind[eW]
   have p:¬(L.setIfInBounds i ab).getD last ae=ab:=by grind[eW]
   have T:cu N σ s (c i) a:=g.JV λt σ s v C=>h.Us i o E z t σ s v (by
    unfold gz at C;cases k:idx t with
    |none=>grind
    |some j =>
     simp only[k]at C⊢;split
     .grind
     .trivial)
   have A:∀(s':St) (v:ah),cY σ s σ s'->dt σ s' v (x i)->Jq N σ s' (gz φ x idx (L.setIfInBounds i ab)) (a.put o.dst v):=by
    intro s' v m C;cases F:o.dst with
    |none =>
     refine⟨g.size,g.defers.imp λ_ h1=>h1.mono m.ext,λt=>?_⟩;have n:=(g.slot t).mono m.ext hh.len;simp only[Act.put];unfold gz at n⊢;cases k:idx t with
     |none=>grind
     |some j =>
      simp only[k]at n⊢;obtain⟨oj,B,Z⟩:=h.yz _ _ k;grind[eW]
    |some d =>
     obtain⟨V,R⟩:=h.JW i o d E F;refine⟨by simp[Act.put,g.size],g.defers.imp λ_ h1=>h1.mono m.ext,λt=>?_⟩;simp only[Act.put];by_cases e:d=t
     .subst e;have U:d<a.tmps.size:=by rw[g.size];exact R
      simp only[dZ,wm U,ij];unfold gz;simp only[V];rw[bl ((eW (by omega)).2 (.inl rfl))];exact C
     .have n:=(g.slot t).mono m.ext hh.len;simp only[dZ]at n⊢;rw[wo e];unfold gz at n⊢;cases k:idx t with
      |none=>grind
      |some j =>
       simp only[k]at n⊢;obtain⟨oj,B,Z⟩:=h.yz _ _ k;grind[eW]
   have:=h.one i o E z s a T hh b kk cs O i (Region.linearise.go .any ops f (t / (ba .any ops L).length) (L.setIfInBounds i ab) []) M (by grind);simp only[pq]at this;exact this λv s' C W m=>ih _ q r p J s' _ (A _ _ m C) (by cases o.dst<;>exact F) W (st.trans m) _
theorem KY.region(h:KY X N ops φ σ x c idx last)(z:P.follows Departure.mixedOrders=ab){r:av->St->Prop}{b:aU}{kk:List Item}{cs:List aU}(A:b.kind≠.early){s0:St}{a0:Act}{id:Nat}(y:cu N σ s0 φ a0)(q:a0.defers=[])(n:aF σ s0)(u:∀s a,a.tmps.size=N->(∀t,dt σ s (a.tmps.getD t ai) (match idx t with|some j=>if j=last then .any else x j|none=>look φ t))->a.defers=[]->aF σ s->cY σ s0 σ s->fL X r (G (b.aT a (.inRegion ops [last]::kk)) cs) s):
  fL X r (G (b.aT a0 (.code (.region id ops ab)::kk)) cs) s0:=by
 refine .next rfl λg f=>?_;have f:=X.iH f;have e:=n.rely f;have l:=y.rely f n;have k:Step σ g σ {g with w:={g.w with drawn:=g.w.drawn+1}}:=Step.same rfl rfl rfl rfl;have m:aF σ {g with w:={g.w with drawn:=g.w.drawn+1}}:=e.same rfl;have p:=f.stepW.trans (k.nD e);refine⟨_,{g with w:={g.w with drawn:=g.w.drawn+1}},#[],mb,⟨⟨σ,σ,e,m,k⟩,.nil⟩,?_⟩;simp only[Region.schedule,z,Bool.true_or,cq];refine h.arr A (s0:=s0) u ops.size _ (by simp) (by simp) ?_ ?_ _ a0 ?_ q m p _
 .simp[dZ,nh];split<;>simp
 .intro i o B hi;simp[dZ,nh]at hi;split at hi<;>simp at hi
 .have d:=l.mono (k.nD e) e.len;refine⟨d.size,d.defers,λt=>?_⟩;unfold gz;cases v:idx t with
  |none=>exact d.slot t
  |some j =>
   simp only;rw[aY]
   .exact d.slot t
   .simp[dZ,nh];split<;>simp
end
def mV{P:ar}(X:Cx P)(N:Nat)(all:List au)(o:au)(φ:Fr)(σ:List aR){ι:Type}(x:ι->D)(σ':ι->List aR):Prop :=
 ∀s a,cu N σ s φ a->aF σ s->∀(b:aU) (k:List Item) (cs:List aU) (S:av->St->Prop) (i:Nat) (rest:List Nat),b.kind≠.early->all.toArray[i]?=aa o ->
  (∀j v s',dt (σ' j) s' v (x j)->aF (σ' j) s'->cY σ s (σ' j) s'->fL X S (G (b.aT (a.put o.dst v) (.inRegion all.toArray rest::k)) cs) s')->fL X S (G (b.aT a (.inRegion all.toArray (i::rest)::k)) cs) s
def AN:List au->Nat->(Nat->D)->List (Option Nat×D)
 |[],_,_=>[]
 |o::r,i,x=>(o.dst,x i)::AN r (i+1) x
def xg{x:Nat->D}:∀{l:List au}{k j:Nat},(AN l k x)[j]?=(l[j]?).map λo=>(o.dst,x (k+j))
 |[],k,j=>by simp[AN]
 |o::r,k,0=>by simp[AN]
 |o::r,k,j+1=>by simp only[AN,og];rw[xg,show k+1+j=k+(j+1) by omega]
def kr(all:List au)(φ:Fr)(x:Nat->D)(i:Nat):Fr:=jF (λj=>iv j (bZ (all.getD i jN).after.toList)) 0 (AN all 0 x) (vl all φ)
def NA(all:List au)(φ:Fr)(x:Nat->D):Fr:=jF (λ_=>ab) 0 (AN all 0 x) (vl all φ)
def oE(N:Nat):List au->Bool
 |[]=>ab
 |o::r=>match gg N o.dst with|true=>oE N r|false=>ae
def y5{N:Nat}:∀{l:List au},oE N l=ab->∀(i:Nat)(o:au),l[i]?=aa o->gg N o.dst=ab
 |[],_,i,o,h=>by grind
 |p::r,h,i,o,hi=>by
  simp only[oE]at h;split at h
  .rename_i a;cases i with
   |zero=>grind
   |succ i=>exact y5 h i o (by grind)
  grind
def sG:List au->Nat->Bool
 |[],_=>ab
 |o::r,i=>match Uu i (bZ o.after.toList)with|true=>sG r (i+1)|false=>ae
def CH:∀{l:List au}{k:Nat},sG l k=ab->∀(i:Nat)(o:au),l[i]?=aa o->∀e∈bZ o.after.toList,e<k+i
 |[],_,_,i,o,h=>by grind
 |p::r,k,h,i,o,hi=>by
  simp only[sG]at h;split at h
  .rename_i a;cases i with
   |zero=>simp at hi;subst hi;exact Eu a
   |succ i=>intro e b;have:=CH h i o (by grind) e b;omega
  grind
def AO(pre:Nat->Bool):List Nat->Bool
 |[]=>ae
 |e::r=>match pre e with|true=>AO pre r|false=>ab
theorem y6{pre:Nat->Bool}:∀{l:List Nat},AO pre l=ab->∃e∈l,pre e=ae
 |[],h=>by cases h
 |e::r,h=>by
  simp only[AO]at h;split at h
  .obtain⟨a,c,b⟩:=y6 h;grind
  grind
def AP(pre:Nat->Bool)(m:Nat):List au->Nat->Bool
 |[],_=>ab
 |o::r,i=>match pre i with
  |true=>AP pre m r (i+1)
  |false=>match aB i m with
   |true=>AP pre m r (i+1)
   |false=>match AO pre (bZ o.after.toList)with|true=>AP pre m r (i+1)|false=>ae
theorem GS{pre:Nat->Bool}{m:Nat}:∀{l:List au}{k:Nat},AP pre m l k=ab->∀(i:Nat)(o:au),l[i]?=aa o->pre (k+i)=ae->k+i≠m->∃e∈bZ o.after.toList,pre e=ae
 |[],_,_,i,o,h=>by grind
 |p::r,k,h,i,o,hi=>by
  intro b a;simp only[AP]at h;cases i with
  |zero =>
   simp at hi;subst hi;simp only[iE]at b a;grind[Nat.eq_of_beq_eq_true,y6]
  |succ i =>
   have c:AP pre m r (k+1)=ab:=by grind
   exact GS c i o (by grind) (by grind) (by omega)
section
variable {P:ar}{X:Cx P}{N:Nat}{ops:Array au}{φ:Fr}{σ:List aR}{idx:Nat->Option Nat}
def OI{x:Nat->D}{s:St}{a:Act}{L:Array Bool}{i:Nat}{o:au}(d:∀t σ s v,dt σ s v (match idx t with|some j=>(if ∃e∈o.after,dr e=ab/\e.on=j then x j else .any)|none=>look φ t)->dt σ s v (look (kr ops.toList φ x i) t))(b:Jq N σ s (gz φ x idx L) a)(g:∀e∈o.after,dr e=ab->L.getD e.on ae=ab):cu N σ s (kr ops.toList φ x i) a:=b.JV λt σ s v f=>d t σ s v (by
 unfold gz at f;cases c:idx t with
 |none=>grind
 |some j =>
  simp only[c]at f⊢;split
  .grind
  .trivial)
def Ia{x y:Nat->D}{σ2:List aR}{s s':St}{a:Act}{v:ah}{L:Array Bool}{i:Nat}{o:au}(c:∀d,o.dst=aa d->idx d=aa i/\d<N)(p:∀d j,idx d=aa j->∃o,ops[j]?=aa o/\o.dst=aa d)(z:ops[i]?=aa o)(u:i<L.size)(r:∀j,L.getD j ae=ab->y j=x j)(f:s.β.length=σ.length)(st:cY σ s σ2 s')(b:Jq N σ s (gz φ x idx L) a)(w:dt σ2 s' v (y i)):Jq N σ2 s' (gz φ y idx (L.setIfInBounds i ab)) (a.put o.dst v):=by
 have old:∀t,idx t≠aa i->dt σ2 s' (a.tmps.getD t ai) (gz φ y idx (L.setIfInBounds i ab) t):=by intro t A;have l:=(b.slot t).mono st.ext f;unfold gz at l⊢;grind[eW]
 cases q:o.dst with
 |none =>
  refine⟨b.size,b.defers.imp λ_ g=>g.mono st.ext,λt=>?_⟩;refine old t λh=>?_;grind
 |some d =>
  obtain⟨k,m⟩:=c d q;refine⟨by simp[Act.put,b.size],b.defers.imp λ_ g=>g.mono st.ext,λt=>?_⟩;simp only[Act.put];by_cases e:d=t
  .subst e;have n:d<a.tmps.size:=by rw[b.size];exact m
   simp only[dZ,wm n,ij];unfold gz;simp only[k];rw[bl ((eW u).2 (.inl rfl))];exact w
  .have:=old t (λh=>by grind)
   simp only[dZ]at this⊢;grind
def KF{back:∀i o,ops[i]?=aa o->∀e∈o.after,dr e=ab->e.on<i}{L:Array Bool}(c:L.size=ops.size)(f:ba .any ops L=[]):∀i,i<ops.size->L.getD i ae=ab:=by
 intro i;induction i using Nat.strongRecOn with
 |_ i a =>
  intro hi;cases h:L.getD i ae with
  |true=>rfl
  |false =>
   have d:i∈ba .any ops L:=mem_ready.2 ⟨ops[i],gm hi,by
    grind,λe g b=>by grind⟩
   grind
def ER{L:Array Bool}{t:Nat}(a:(ba .any ops L)[t % (ba .any ops L).length]?=af):ba .any ops L=[]:=by
 cases c:ba .any ops L with
 |nil=>rfl
 |cons y b =>
  grind[Nat.mod_lt]
theorem AQ{L:Array Bool}(d:L.size=ops.size)(e:(L.toList.filter (λb=>!b)).length<=0):∀i,i<ops.size->L.getD i ae=ab:=by
 intro i hi;have a:L[i]'(by omega)∈L.toList:=by simp
 cases c:L[i]'(by omega)with
 |true=>simp[dZ,gm (by omega:i<L.size),c]
 |false =>
  have:L[i]'(by omega)∈L.toList.filter (λb=>!b):=jS.2 ⟨a,by grind⟩;grind
end
def qY(xs:List UInt8):List ah:=xs.map λx=>.int .u8 x.toNat
theorem vM{xs:List UInt8}:(qY xs).length=xs.length:=by simp[qY]
def NT{xs b:List UInt8}:qY (xs++b)=qY xs++qY b:=by simp[qY]
def px(bf:Option (Nat×Nat))(n:Nat):ah:=match bf with|none=>.slice af 0 0|some (g,cap)=>.slice (aa ⟨g,0,af⟩) n cap
def BB(T E:aj)(a:Bool)(v1:ah)(bf:Option (Nat×Nat))(xs:List UInt8)(f:Nat):ah->(Nat->Option Obj)->Prop:=λv d =>
 ∃b,v=.pointer (aa ⟨b,0,af⟩)/\cN v1=ab/\d b=aa (.cells #[if a then v else .pointer af,v1] T (0,0)) /\
 match bf with
 |none=>xs=[]/\∀c,(d c).isSome=ab↔c=b
 |some (g,cap)=>g≠b/\xs.length<=cap/\0<cap/\cap<=9223372036854775807/\f<=xs.length/\(∃e,(qY xs++e).length=cap/\d g=aa (.cells (qY xs++e).toArray E (0,f)))/\∀c,(d c).isSome=ab↔c=b∨c=g
section
variable {P:ar}{X:Cx P}{N:Nat}{m:List (Nat×TI)}{o:au}{k:aq->D}{σ:List aR}{l:Nat}{T E:aj}{a:Bool}{v1:ah}{bf:Option (Nat×Nat)}{xs:List UInt8}{f:Nat}{s:St}
structure wv(P:ar)(σ:List aR)(s:St)(l:Nat)(T E:aj)(a:Bool)(v1:ah)(bf:Option (Nat×Nat))(xs:List UInt8)(f:Nat)(L:Loc)(b:Nat)(ch:Nat->Option Obj):Prop where
 β:s.β[l]?=aa L
 v:L.v=.pointer (aa ⟨b,0,af⟩)
 bb:BB T E a v1 bf xs f L.v ch
 heap:∀(b:Nat) (o:Obj),ch b=aa o->s.w.heap[b]?=aa o
 bs:∀b,b∈L.bs↔(ch b).isSome=ab
 M:∀b∈L.bs,∀o,s.M b o=af
 ch:ch b=aa (.cells #[if a then L.v else .pointer af,v1] T (0,0))
 cell:cN v1=ab
def BB.row(hh:aF σ s)(hl:σ[l]?=aa (.cm (BB T E a v1 bf xs f))):∃L b ch,wv P σ s l T E a v1 bf xs f L b ch:=by
 have c:l<s.β.length:=by rw[hh.len];grind
 have d:=br c;generalize s.β[l]=L at d;obtain⟨ch,g,h1,h2,j⟩:=hh.box l _ L hl d;have e:=g;obtain⟨b,i,h,n,_⟩:=e;exact⟨L,b,ch,d,i,g,h1,h2,j,n,h⟩
def wv.mem{L:Loc}{b:Nat}{ch:Nat->Option Obj}(r:wv P σ s l T E a v1 bf xs f L b ch):b∈L.bs:=(r.bs b).2 (by rw[r.ch];rfl)
def wv.ptr{L:Loc}{b:Nat}{ch:Nat->Option Obj}(r:wv P σ s l T E a v1 bf xs f L b ch){v:ah}{off:Nat}(h:dt σ s v (.e (.one (.ptr l off)))):v=.pointer (aa ⟨b,off,af⟩):=by obtain⟨_,d,c,h1,h2,rfl⟩:=(h:gB σ s v (.ptr l off));rw[r.β]at h1;cases h1;rw[r.v]at h2;grind
def JG(hT:cW P m){t:aj}{x:aq}{i:TI}(h:o.op=.load t x)(hi:bG m t=aa i)(J:i.agg=ae)(K:σ[l]?=aa (.cm (BB T E a v1 bf xs f))){off:Nat}{d:D}(C:k x=.e (.one (.ptr l off)))(B:∀s L b ch,aF σ s->wv P σ s l T E a v1 bf xs f L b ch->∃v,(#[if a then L.v else .pointer af,v1]:Array ah)[off]?=aa v/\dt σ s v d):bM P o k σ d σ:=by
 refine .oy λs H y I=>?_;obtain⟨L,b,ch,r⟩:=BB.row (P:=P) y K;have z:=r.ptr (by have:=I x;rwa [C]at this);obtain⟨v,G,u⟩:=B s L b ch y r;have g:s.w.cell? ⟨b,off,af⟩=aa v:=by simp only[aV,r.heap _ _ r.ch];grind
 have c:(loadVar t ⟨b,off,af⟩).run P s.w=.ok v s.w:=by simp[loadVar,(hT t i hi).kG,J,run_load,g]
 refine⟨v,by simp[aw,h,z,Instr.loadAt,bq,c],u,λA p=>?_⟩;have q:A∈(loadVar t ⟨b,off,af⟩).events P s.w #[]:=by
  have e:aw H o=(do pure (.value (<-loadVar t ⟨b,off,af⟩))):=by simp[aw,h,z,Instr.loadAt,bq]
  rw[e]at p;simpa[c]using p
 obtain⟨j,F,rfl⟩:=gu (hT t i hi) (n:=1) (λj F=>by grind) (by grind) A q
 exact j0 (bP r.β) r.mem
def bM.fG(hT:cW P m){t:aj}{x:aq}{i:TI}(h:o.op=.load t x)(hi:bG m t=aa i)(d:i.agg=ae)(hl:σ[l]?=aa (.cm (BB T E a v1 bf xs f)))(c:k x=.e (.one (.ptr l 1))):bM P o k σ (.e (.one (.v v1))) σ :=
 JG hT h hi d hl c λs L b ch hh r=>⟨v1,by simp,Rd.val r.cell⟩
def NU{H:ah->(Nat->Option Obj)->Prop}(b:σ[l]?=aa (.cm H)):∀B,σ[l]?=aa B->B.gr=ae:=by intro B h;rw[b]at h;cases h;rfl
def bM.JH(hT:cW P m){t:aj}{x:aq}{i:TI}(h:o.op=.load t x)(hi:bG m t=aa i)(d:i.agg=ae)(hl:σ[l]?=aa (.cm (BB T E ab v1 bf xs f)))(c:k x=.e (.one (.ptr l 0))):bM P o k σ (.e (.one (.ptr l 0))) σ :=
 JG hT h hi d hl c λs L b ch hh r=>⟨L.v,by simp,NU hl,L,b,r.β,r.v,r.v⟩
def bM.RK(hT:cW P m){t:aj}{x:aq}{i:TI}(h:o.op=.load t x)(hi:bG m t=aa i)(g:i.agg=ae)(hl:σ[l]?=aa (.cm (BB T E ae v1 bf xs f)))(d:k x=.e (.one (.ptr l 0))):bM P o k σ (.e (.one (.c .fz))) σ :=
 JG hT h hi g hl d λs L b ch hh r=>⟨.pointer af,by simp,Rd.fz⟩
def setRow_size(w:aA)(b:Nat)(row:Array ah):(w.setRow b row).heap.size=w.heap.size:=by simp[World.setRow]
def JI(hT:cW P m){t:aj}{x y:aq}{i:TI}(h:o.op=.store t x y)(hi:bG m t=aa i)(O:i.size=1)(hl:σ[l]?=aa (.cm (BB T E a v1 bf xs f))){off:Nat}{c:Bool}{d:ah}(hx:k x=.e (.one (.ptr l off)))(ho:off<2)(hc:cN d=ab)(hd:∀s L b ch v,aF σ s->wv P σ s l T E a v1 bf xs f L b ch->dt σ s v (k y)->cN v=ab/\(#[if a then L.v else .pointer af,v1]:Array ah).setIfInBounds off v=#[if c then L.v else .pointer af,d]):bM P o k σ .any (σ.set l (.cm (BB T E c d bf xs f))):=by
 intro s u Q Y;obtain⟨L,b,ch,r⟩:=BB.row (P:=P) Q hl;have G:=r.ptr (by have:=Y x;rwa [hx]at this);obtain⟨H,F⟩:=hd s L b ch (u y) Q r (Y y);have q:(u y).cells=#[u y]:=by cases R:u y<;>simp[R,cN,Value.cells]at H⊢
 have A:∀v∈[u y],v.oneCell'=ab:=by intro v G;simp at G;subst G;cases R:u y<;>simp[R,cN,Value.oneCell']at H⊢
 have n:=r.heap _ _ r.ch;have K:=run_storeCells_at P b off T [u y] 0 _ s.w n (by grind) A;have C:((#[if a then L.v else .pointer af,v1]:Array ah).toList.take (off+0)++[u y]++(#[if a then L.v else .pointer af,v1]:Array ah).toList.drop (off+0+[u y].length)).toArray=#[if c then L.v else .pointer af,d]:=by
  rw[<-F]
  match off,ho with
  |0,_=>grind
  |1,_=>grind
 rw[C]at K;have V:(s.w.setRow b #[if c then L.v else .pointer af,d]).heap[b]?=aa (.cells #[if c then L.v else .pointer af,d] T (0,0)):=setRow_heap s.w b _ _ T _ n;have B:∀g,g≠b->(s.w.setRow b #[if c then L.v else .pointer af,d]).heap[g]?=s.w.heap[g]?:=λg p=>setRow_other s.w b g _ p;obtain⟨Z,t2⟩:=Q.jM (l:=l) (H':=BB T E c d bf xs f) (L':=L) (w':=s.w.setRow b #[if c then L.v else .pointer af,d]) hl r.β rfl (by rw[setRow_size];grind)
  (λg p hn=>B g (by rintro rfl;exact hn r.mem)) (λg p=>.inl p)
  ⟨λg=>if g=b then aa (.cells #[if c then L.v else .pointer af,d] T (0,0))else ch g,by
   obtain⟨U,W,q2,q3,q4⟩:=r.bb;have:U=b:=by rw[r.v]at W;grind
   subst this;have S:∀g,(if g=U then aa (Obj.cells #[if c then L.v else .pointer af,d] T (0,0))else ch g).isSome=ab↔(ch g).isSome=ab:=by grind
   refine⟨U,W,hc,by simp,?_⟩;grind,λg o' p=>by
   by_cases e:g=b
   .grind
   .simp only[e,ck]at p;rw[B g e];exact r.heap _ _ p,λg=>by
   rw[r.bs g];by_cases e:g=b
   .subst e;simp[r.ch]
   grind⟩ rfl rfl rfl
 have I:s.β.set l L=s.β:=by
  apply iY;intro j;by_cases e:l=j
  .subst e;rw[gn (b6.1 r.β).1,r.β]
  grind
 rw[I]at Z t2;refine⟨.skip,{s with w:=s.w.setRow b #[if c then L.v else .pointer af,d]},?_,rfl,Z,t2,?_⟩
 .simp[aw,h,G,Instr.storeAt,bq,storeVar,(hT t i hi).run_sizeOf,O,q,K]
 .intro ev z;have e:aw u o=(do storeVar t ⟨b,off,af⟩ (u y);pure .skip):=by simp[aw,h,G,Instr.storeAt,bq]
  rw[e]at z;have J:ev∈(storeCells ⟨b,off,af⟩ [u y]).events P s.w #[]:=by
   simp only[storeVar,aM,(hT t i hi).run_sizeOf,q,O,aP,events_sizeOf,dy,ft,ck,bT,b5,Sem.events_pure,List.size_toArray,ig]at z;generalize(storeCells ⟨b,off,af⟩ [u y]).run P s.w=r at z;cases r with
   |ok v w'=>simpa using z
   |halt x w'=>simpa using z
  rcases dN [u y] 0 _ s.w #[] n (by grind) A ev J with NV|⟨j,_,_,rfl⟩
  .grind
  .exact jX (bP r.β) r.mem (r.M _ r.mem _)
def bM.Ae(hT:cW P m){t:aj}{x y:aq}{i:TI}(h:o.op=.store t x y)(hi:bG m t=aa i)(d:i.size=1)(hl:σ[l]?=aa (.cm (BB T E a v1 bf xs f))){c:ah}(p:k x=.e (.one (.ptr l 1)))(n:k y=.e (.one (.v c)))(j:cN c=ab):bM P o k σ .any (σ.set l (.cm (BB T E a c bf xs f))) :=
 JI hT h hi d hl p (by omega) j λs L b ch v hh r g=>by rw[n]at g;have:=Rd.en g;grind
def bM.NW(hT:cW P m){t:aj}{x y:aq}{i:TI}(h:o.op=.store t x y)(hi:bG m t=aa i)(c:i.size=1)(hl:σ[l]?=aa (.cm (BB T E a v1 bf xs f)))(n:k x=.e (.one (.ptr l 0)))(j:k y=.e (.one (.ptr l 0)))(g:cN v1=ab):bM P o k σ .any (σ.set l (.cm (BB T E ab v1 bf xs f))) :=
 JI hT h hi c hl n (by omega) g λs L b ch v hh r d=>by rw[j]at d;have:=r.ptr d;subst this;refine⟨rfl,?_⟩;rw[<-r.v];rfl
def bM.RL{T:aj}(h:o.op=.alloc T)(n:∀w,(zeroValue T).run P w=.ok (.agg #[.pointer af,.slice af 0 0]) w)(i:∀w es,(zeroValue T).events P w es=es):bM P o k σ (.e (.one (.ptr σ.length 0))) (σ++[.cm (BB T E ae (.slice af 0 0) af [] 0)]):=by
 intro s z hh hr;let w':=s.w.alloc (.cells #[.pointer af,.slice af 0 0] T);obtain⟨x,r⟩:=hh.grow (M':=s.M) (w':=w') (by simp[w']) (λb q=>cR s.w _ q) (λ_ _ _=>rfl) (λb q o v g=>by have:=hh.block g;omega) rfl rfl rfl;have u:w'.heap.size=s.w.heap.size+1:=by simp[w']
 have p:w'.heap[s.w.heap.size]?=aa (.cells #[.pointer af,.slice af 0 0] T (0,0)):=dT s.w _;obtain⟨y,t⟩:=x.ik r rfl hh (B:=.cm (BB T E ae (.slice af 0 0) af [] 0)) (L:=⟨.pointer (aa ⟨s.w.heap.size,0,af⟩),[s.w.heap.size]⟩)
  ⟨λd=>if d=s.w.heap.size then aa (.cells #[.pointer af,.slice af 0 0] T (0,0))else af,⟨s.w.heap.size,rfl,rfl,by simp,rfl,λd=>by by_cases e:d=s.w.heap.size<;>simp[e]⟩,λd j c=>by
   grind,λd=>by by_cases e:d=s.w.heap.size<;>simp[e],λd c j=>by
   simp at c;subst c;show s.M _ _=af;cases g:s.M s.w.heap.size j with
   |none=>rfl
   |some v=>have:=hh.block g;omega⟩ (λd c=>by grind)
 refine⟨.value (.pointer (aa ⟨s.w.heap.size,0,af⟩)),_,?_,⟨by simp,⟨.pointer (aa ⟨s.w.heap.size,0,af⟩),[s.w.heap.size]⟩,s.w.heap.size,?_,rfl,rfl⟩,y,t,?_⟩
 .simp[aw,h,Instr.alloc,n,Go.newVar,newRow,Value.cells,w']
 .simp[<-hh.len]
 .simp[aw,h,Instr.alloc,n,i,Go.newVar,newRow];exact .nil
end
section
variable {P:ar}{X:Cx P}{N:Nat}{z:List (Nat×TI)}{o:au}{q:aq->D}{σ:List aR}{l:Nat}{T E:aj}{d:Bool}{v1:ah}{bf:Option (Nat×Nat)}{xs:List UInt8}{k:Nat}{s:St}
def py{P:ar}{b o:Nat}{t:aj}{k:Nat×Nat}:∀(vs:List ah)(i:Nat)(a:Array ah)(w:aA)(es:Array Event),w.heap[b]?=aa (.cells a t k)->k.2<=o+i->o+i+vs.length<=a.size->(∀v∈vs,v.oneCell'=ab) ->
  ∀e∈(storeCells ⟨b,o,af⟩ vs i).events P w es,e∈es∨∃j,i<=j/\j<i+vs.length/\e=HO b (o+j)
 |[],_,_,_,_,_,_,_,_=>λe h=>.inl (by simpa[storeCells]using h)
 |v::rest,i,a,w,es,m,x,F,p=>λe h=>by
  have hi:o+i<a.size:=by grind
  have c:w.cell? ⟨b,o+i,af⟩=aa a[o+i]:=by simp[aV,m,hi]
  have f:w.frozen? ⟨b,o+i,af⟩=ae:=by obtain⟨lo,r⟩:=k;simp only[World.frozen?,m,qb,bS];grind
  have n:(store (⟨b,o+i,af⟩:Addr) v).run P w=.ok () (w.setRow b (a.setIfInBounds (o+i) v)):=by grind[run_store,setCell_eq_setRow]
  have g:(store (⟨b,o+i,af⟩:Addr) v).events P w es=es.push (HO b (o+i)):=by rw[events_store P w es _ v _ (p v (by simp)),c];simp only[f,jP,ck];rfl
  simp only[storeCells,aM,du,n,g,aP]at h;rcases py rest (i+1) (a.setIfInBounds (o+i) v) _ _ (setRow_heap _ _ _ _ _ _ m) (by omega) (by grind) (λu B=>p u (by grind)) e h with A|⟨j,C,y,rfl⟩
  .grind
  grind
def wv.at{L:Loc}{b g cap:Nat}{ch:Nat->Option Obj}(r:wv P σ s l T E d v1 (aa (g,cap)) xs k L b ch):
  g≠b/\xs.length<=cap/\0<cap/\cap<=9223372036854775807/\k<=xs.length/\(∃a,(qY xs++a).length=cap/\ch g=aa (.cells (qY xs++a).toArray E (0,k)))/\(∀c,(ch c).isSome=ab↔c=b∨c=g)/\g∈L.bs:=by
 obtain⟨i,h,_,_,a1,a2,a3,a4,a5,a6,f⟩:=r.bb;have:i=b:=by rw[r.v]at h;grind
 subst this;obtain⟨a,a6,e⟩:=a6;exact⟨a1,a2,a3,a4,a5,⟨a,a6,e⟩,f,(r.bs g).2 (by grind)⟩
def JJ{L:Loc}(h:s.β[l]?=aa L):s.β.set l L=s.β:=by apply iY;grind
def wv.jM{L:Loc}{b g cap:Nat}{ch:Nat->Option Obj}(hh:aF σ s)(hl:σ[l]?=aa (.cm (BB T E d v1 (aa (g,cap)) xs k)))(r:wv P σ s l T E d v1 (aa (g,cap)) xs k L b ch){xs':List UInt8}{fz':Nat}{zs':List ah}{w':aA}(f:(qY xs'++zs').length=cap)(i:xs'.length<=cap)(t:fz'<=xs'.length)(j:w'.heap.size=s.w.heap.size)(hk:∀a,a≠g->w'.heap[a]?=s.w.heap[a]?)(F:w'.heap[g]?=aa (.cells (qY xs'++zs').toArray E (0,fz')))(u:w'.os=s.w.os)(x:w'.tape=s.w.tape)(n:w'.output=s.w.output):
  aF (σ.set l (.cm (BB T E d v1 (aa (g,cap)) xs' fz'))) {s with w:=w'}/\Step σ s (σ.set l (.cm (BB T E d v1 (aa (g,cap)) xs' fz'))) {s with w:=w'}:=by
 obtain⟨a1,a2,a3,a4,a5,⟨G,a6,B⟩,C,m⟩:=r.at;obtain⟨p,h⟩:=hh.jM (l:=l) (H':=BB T E d v1 (aa (g,cap)) xs' fz') (L':=L) (w':=w') hl r.β rfl (by omega)
  (λa c y=>hk a (by grind)) (λa c=>.inl c)
  ⟨λa=>if a=g then aa (.cells (qY xs'++zs').toArray E (0,fz'))else ch a,⟨b,r.v,r.cell,(show(if b=g then _ else ch b)=_ from(aY λe=>a1 e.symm).trans r.ch),a1,i,a3,a4,t,⟨zs',f,by simp⟩,λa=>by
   grind⟩,λa A c=>by
   by_cases e:a=g
   .grind
   .simp only[e,ck]at c;rw[hk a e];exact r.heap _ _ c,λa=>by
   rw[r.bs a]
   grind⟩ u x n
 rw[JJ r.β]at p h;grind
def bM.NX{t Q:aj}{x y:aq}(ho:o.op=.call {callee:=.builtin .append,args:=#[x,y],argTypes:=#[t,Q]}){U:TypeInfo}(ht:P.underlying t=aa (.slice E))(p:P.underlying Q=aa .string)(J:P.info? E=aa U)(F:U.size=1){g cap n:Nat}(hl:σ[l]?=aa (.cm (BB T E d v1 (aa (g,cap)) xs k)))(hx:q x=.e (.one (.v (px (aa (g,cap)) n))))(hn:xs.length=n){str:List UInt8}(hy:q y=.e (.one (.c (.str str))))(Yc:n+str.length<=cap):
  bM P o q σ (.e (.one (.v (px (aa (g,cap)) (n+str.length))))) (σ.set l (.cm (BB T E d v1 (aa (g,cap)) (xs++str) k))):=by
 intro s ρ hh hr;subst hn;obtain⟨L,b,ch,r⟩:=BB.row (P:=P) hh hl;obtain⟨a1,a2,a3,a4,a5,⟨a,a6,a7⟩,a8,m⟩:=r.at;have C:=hr x;rw[hx]at C;have C:=Rd.en C;have B:=hr y;rw[hy]at B;have B:=e9 B;generalize H:ρ y=vy at B;cases B with
 |@str sb _ hs Y =>
 have I:sb.size=str.length:=by rw[<-hs,jA];rfl
 have O:=r.heap _ _ a7;have Z:(qY xs++a).toArray.size=cap:=by grind
 have G:=Lib.run_append_room_stringF (P:=P) s.w t Q o.type E U ht p J F g xs.length cap _ _ O a5 sb (by omega) (by grind);have u:((qY xs++a).toArray.toList.take xs.length++Lib.strCells sb++(qY xs++a).toArray.toList.drop (xs.length+sb.size))=qY (xs++str)++a.drop str.length:=by
  have e1:(qY xs++a).take xs.length=qY xs:=by grind[vM]
  have e2:(qY xs++a).drop (xs.length+sb.size)=a.drop str.length:=by rw[List.drop_append,vM,vE (by grind),I];simp
  have e3:Lib.strCells sb=qY str:=by simp[Lib.strCells,qY,hs]
  rw[List.toList_toArray,e1,e2,e3,NT]
 rw[u,I]at G;have hlz:a.length=cap-xs.length:=by grind[vM]
 have i:(qY (xs++str)++a.drop str.length).length=cap:=by grind[vM]
 have A:(s.w.setRow g (qY (xs++str)++a.drop str.length).toArray).heap[g]?=aa (.cells (qY (xs++str)++a.drop str.length).toArray E (0,k)):=setRow_heap s.w g _ _ E _ O;obtain⟨t1,R⟩:=r.jM (fz':=k) (w':=s.w.setRow g (qY (xs++str)++a.drop str.length).toArray) hh hl i (by grind) (by grind) (setRow_size _ _ _) (λb' W=>setRow_other s.w g b' _ W) A rfl rfl rfl;refine⟨.value (.slice (aa ⟨g,0,af⟩) (xs.length+str.length) cap),_,?_,Rd.val rfl,t1,R,?_⟩
 .rw[dn ho,C,H];simp only[bT,dx];have K:(Builtin.append_ #[t,Q] o.type #[px (aa (g,cap)) xs.length,.string sb]).run P s.w=_:=G;rw[K];rfl
 .rw[dn ho,C,H];refine eU λe he=>?_;have hf:=Lib.run_firstCells_string (P:=P) s.w 1 sb;have S:=run_storeCells_atF P g xs.length E (0,k) (Lib.strCells sb) 0 _ s.w O (by grind) (by grind) (Lib.strCells_oneCell sb);have f:xs.length+sb.size<=cap:=by omega
  have V:(Builtin.firstCells 1 sb.size (.string sb)).events P s.w #[]=#[]:=rfl;simp[px,Builtin.append_,run_underlying ht,run_underlying p,sizeOf,typeInfo,J,F,Builtin.lenOf,f,hf,V,du,S]at he;rcases py (Lib.strCells sb) 0 _ s.w _ O (by grind) (by grind) (Lib.strCells_oneCell sb) e he with h|⟨j,h1,h2,rfl⟩
  .grind
  .exact jX (bP r.β) m (r.M _ m _)
def bM.JK{t p:aj}{x y:aq}(u:o.op=.call {callee:=.builtin .append,args:=#[x,y],argTypes:=#[t,p]}){j:TypeInfo}(A:P.underlying t=aa (.slice E))(g:P.underlying p=aa .string)(f:P.info? E=aa j)(B:q x=.e (.one (.v (px af 0))))(C:q y=.e (.one (.c (.str [])))):bM P o q σ (.e (.one (.v (px af 0)))) σ:=by
 refine .quiet λs F hh hr=>?_;have i:=hr x;rw[B]at i;have i:=Rd.en i;have h:=hr y;rw[C]at h;have h:=e9 h;generalize b:F y=vy at h;cases h with
 |@str sb _ G r =>
 have a:sb.size=0:=by
  have:sb.data.toList.length=0:=by grind
  rw[jA]at this;exact this
 have n:=Lib.run_firstCells_string (P:=P) s.w j.size sb;rw[a]at n;have m:(Builtin.firstCells j.size 0 (.string sb)).events P s.w #[]=#[]:=rfl;refine⟨.slice af 0 0,?_,Rd.val rfl,?_⟩
 .rw[dn u,i,b];simp[px,Builtin.append_,run_underlying A,run_underlying g,sizeOf,typeInfo,f,Builtin.lenOf,a,n]
 .rw[dn u,i,b];simp[px,Builtin.append_,run_underlying A,run_underlying g,sizeOf,typeInfo,f,Builtin.lenOf,a,n,m]
def UR{f:aJ}{fn:Func}{ps:Array aj}{t:aj}(ht:P.underlying t=aa (.slice E))(hf:P.funcs[f]?=aa fn)(C:(fn.name== "runtime.NumGoroutine")=ae)(hb:fn.body.isNone=ab)(U:Extern.findNext fn=af)(G:Extern.find fn=aa (Extern.BytealgMakeNoZero.makeNoZero ps #[t])){O x:aq}{Z:Array aj}(ho:o.op=.call {callee:=.value O,args:=#[x],argTypes:=Z})(XC:q O=.e (.one (.c (.fn (.func f) [] [])))){n:Nat}(hx:q x=.e (.one (.c (.int .i64 n))))(h0:0<n)(acj:n<=140737488355328)(hl:σ[l]?=aa (.cm (BB T E d v1 af xs k))):
  ∀s A,aF σ s->(∀y,dt σ s (A y) (q y))->∃(j:{p:Nat×Nat // n<=p.2}) (s':St) (v:ah),(aw A o).run P s.w=.ok (.value v) s'.w/\dt (σ.set l (.cm (BB T E d v1 (aa j.1) [] 0))) s' v (.e (.one (.v (px (aa j.1) n)))) /\
   aF (σ.set l (.cm (BB T E d v1 (aa j.1) [] 0))) s'/\Step σ s (σ.set l (.cm (BB T E d v1 (aa j.1) [] 0))) s'/\fg s ((aw A o).events P s.w #[]):=by
 intro s A Q hr;obtain⟨L,b,ch,r⟩:=BB.row (P:=P) Q hl;have H:A O=.func (.func f) #[] #[]:=by
  have g:=hr O;rw[XC]at g;have g:=e9 g;generalize A O=v at g;cases g with
  |fn fs cs a b f1 f2 c1 c2 d1 d2 =>
   grind
 have K:A x=.int .i64 n:=by have g:=hr x;rw[hx]at g;have g:=e9 g;generalize A x=v at g;cases g;rfl
 obtain⟨cs,g,Y,h3⟩:=Lib.run_makeNoZero (P:=P) s.w ps t E ht n (by omega);have h3:=h3 (by simp only[maxLen];omega);have F:(callFunc f #[.int .i64 n]).run P s.w=.ok (.value (.slice (aa ⟨s.w.heap.size,0,af⟩) n cs.size)) (s.w.drew.drew.alloc (.cells cs E)):=by rw[run_callFunc_extern hf C hb U G,g];rfl
 let w':aA:=s.w.drew.drew.alloc (.cells cs E);have NY:w'.heap[s.w.heap.size]?=aa (.cells cs E (0,0)):=dT s.w.drew.drew _;have Ec:w'.heap.size=s.w.heap.size+1:=by show(s.w.drew.drew.heap.push _).size=_;simp
 obtain⟨B,q1,q2,q3,q4⟩:=r.bb;have W:B=b:=by rw[r.v]at q1;grind
 subst W;have I:B<s.w.heap.size:=Q.lt L (bP r.β) B r.mem;have M:s.w.heap.size≠B:=by omega
 obtain⟨t1,t2⟩:=Q.jM (l:=l) (H':=BB T E d v1 (aa (s.w.heap.size,cs.size)) [] 0) (L':=⟨L.v,[B,s.w.heap.size]⟩) (w':=w') hl r.β rfl (by omega)
  (λu i U=>cR s.w.drew.drew _ i) (λu i=>by
   simp at i;rcases i with rfl|rfl
   .exact .inl r.mem
   grind)
  ⟨λu=>if u=B then aa (.cells #[if d then L.v else .pointer af,v1] T (0,0))else if u=s.w.heap.size then aa (.cells cs E (0,0))else af,⟨B,r.v,r.cell,by simp,M,by simp,by omega,by simp only[maxLen]at h3;omega,by simp,⟨cs.toList,by simp[qY],by simp[M,qY]⟩,λu=>by
   grind⟩,λu o' i=>by
   by_cases e:u=B
   .subst e;simp only[cq]at i;have:w'.heap[u]?=s.w.heap[u]?:=cR s.w.drew.drew _ I;rw[this,<-i];exact r.heap _ _ r.ch
   grind,λu=>by grind⟩ rfl rfl rfl
 refine⟨⟨(s.w.heap.size,cs.size),Y⟩,_,_,?_,Rd.val rfl,t1,t2,?_⟩
 .simp[aw,ho,resolve,Deferred.ofValue,invoke,H,K,F,w',px]
 .intro ev R;simp only[aw,ho,resolve,Deferred.ofValue,invoke,H,K]at R;have J:ev∈(callFunc f #[.int .i64 n]).events P s.w #[]:=by grind
  have S:fn.name≠ "runtime.NumGoroutine":=by grind
  have V:fn.body=af:=by simpa using hb
  have key:∀es:Array Event,∀e∈(Extern.BytealgMakeNoZero.makeNoZero ps #[t] #[.int .i64 n]).events P s.w es,e∈es∨∃m,e=⟨.mark m,ae,ab⟩/\Go.Conc.Neutral m:=by
   intro es e G;change e∈Sem.events P (underlying _ >>= _) _ _ at G;have g:¬(n:Int)<0:=by omega
   have Y:¬(281474976710656:Int)<(n:Int):=by omega
   have Xy:e∈(askRoom (grownCap s.w n 0 E)).events P s.w.drew es:=by simpa[run_underlying ht,g,Y,Question.forced,newRow,grownCap]using G
   grind[Go.Conc.events_askRoom]
  have:ev∈(Extern.BytealgMakeNoZero.makeNoZero ps #[t] #[.int .i64 n]).events P s.w ((#[]:Array Event).push ⟨.mark (.extern f),ae,ab⟩):=by have e:callFunc f #[.int .i64 n]=callFunc f #[.int .i64 n]:=rfl;simpa[callFunc,hf,S,V,U,G,g]using J
  rcases key _ _ this with h|⟨m,rfl,hm⟩
  .simp at h;subst h;exact .inr ⟨f,rfl⟩
  .exact .inl hm
def US{C O:aj}{x y:aq}(ho:o.op=.call {callee:=.builtin .unsafeString,args:=#[x,y],argTypes:=#[C,O]})(hp:P.underlying C=aa (.pointer E))(I:P.cellsOf E=1){g cap:Nat}(hl:σ[l]?=aa (.cm (BB T E d v1 (aa (g,cap)) xs k)))(hx:q x=.e (.one (.v (.pointer (aa ⟨g,0,af⟩)))))(hy:q y=.e (.one (.c (.int .i64 xs.length)))):
  bM P o q σ (.e (.one (.c (.str xs)))) (σ.set l (.cm (BB T E d v1 (aa (g,cap)) xs xs.length))):=by
 intro s K S hr;obtain⟨L,b,ch,r⟩:=BB.row (P:=P) S hl;obtain⟨a1,a2,a3,a4,a5,⟨R,a6,a7⟩,a8,U⟩:=r.at;have B:=hr x;rw[hx]at B;have B:=Rd.en B;have p:K y=.int .i64 xs.length:=by have F:=hr y;rw[hy]at F;have F:=e9 F;generalize K y=v at F;cases F;rfl
 have hg:=r.heap _ _ a7;have t:aw K o=(do pure (.value (<-Builtin.unsafeString_ #[C,O] o.type #[K x,K y]))):=by simp[aw,ho,resolve,invoke,builtin]
 have hlen:(qY xs++R).toArray.size=cap:=by grind
 by_cases h0:xs=[]
 .subst h0;have n:=Lib.run_unsafeString_none (P:=P) s.w C O o.type (aa ⟨g,0,af⟩);obtain⟨t1,t2⟩:=r.jM (xs':=[]) (fz':=0) (zs':=R) (w':=s.w) S hl a6 a2 (by simp) rfl (λ_ _=>rfl) (by grind) rfl rfl rfl;refine⟨.value (.string .empty),_,?_,Rd.str rfl (by simp),t1,t2,?_⟩
  .rw[t,B,p];simp only[bT,dx];have:(Builtin.unsafeString_ #[C,O] o.type #[.pointer (aa ⟨g,0,af⟩),.int .i64 ([]:List UInt8).length]).run P s.w=_:=n;rw[this];rfl
  .rw[t,B,p];refine eU ?_;change fg s (Sem.events P (asInt (.int .i64 0) >>= _) _ _);simp[asInt,asIntOf,IntKind.max];exact .nil
 .have m:∀j x,xs[j]?=aa x->s.w.cell? ((⟨g,0,af⟩:Addr).add j)=aa (.int .u8 x.toNat):=by
   intro j x Q;rw[du];simp only[aV,hg,bF];have vg:j<xs.length:=(b6.1 Q).1;have:(qY xs)[j]?=aa (.int .u8 x.toNat):=by simp[qY,Q]
   grind
  have u:s.w.shape? g=aa (E,cap):=by simp only[World.shape?,hg];grind
  have n:=Lib.run_unsafeString_row (P:=P) s.w C O o.type E hp I g cap u xs h0 a2 (by omega) m;have f:xs.length≠0:=by grind
  have hfz:(s.w.freeze ⟨g,0,af⟩ xs.length).heap[g]?=aa (.cells (qY xs++R).toArray E (0,xs.length)):=by simp only[World.freeze,f,ck,Array.getElem?_modify,cq,hg,lS];grind
  obtain⟨t1,t2⟩:=r.jM (xs':=xs) (fz':=xs.length) (zs':=R) (w':=s.w.freeze ⟨g,0,af⟩ xs.length) S hl a6 a2 (bc _) (by simp[World.freeze,f]) (λb' B6=>by
   simp only[World.freeze,f,ck,Array.getElem?_modify]
   grind) hfz (by simp[World.freeze,f]) (by simp[World.freeze,f]) (by simp[World.freeze,f])
  refine⟨.value (.string ⟨xs.toArray⟩),_,?_,Rd.str (by simp) (by omega),t1,t2,?_⟩
  .rw[t,B,p];simp only[bT,dx,n];rfl
  .rw[t,B,p];refine eU λe A=>?_;have J:¬(xs.length:Int)<0:=by omega
   have h63:¬(9223372036854775807:Int)<(xs.length:Int):=by omega
   have i:=Lib.liesAt_bytes (P:=P) I (cap / P.cellsOf E) xs.length (by grind);have M:IntKind.i64.max=9223372036854775807:=rfl;have V:=Lib.run_loadBytes (P:=P) s.w xs ⟨g,0,af⟩ .empty m;have W:∀(G:List UInt8) (a:Nat) (acc:ByteArray) (es:Array Event),(∀j x,G[j]?=aa x->s.w.cell? ⟨g,a+j,af⟩=aa (.int .u8 x.toNat))->∀e∈(loadBytes ⟨g,a,af⟩ acc G.length).events P s.w es,e∈es∨∃j,e=Ac g j:=by
    intro G;induction G with
    |nil=>intro a acc es _ e A;exact .inl (by simpa[loadBytes]using A)
    |cons y G ih =>
     intro a acc es I e A;have H:=I 0 y rfl;simp only[iE]at H;have Z:(load ⟨g,a,af⟩).run P s.w=.ok (.int .u8 y.toNat) s.w:=by grind[run_load]
     simp only[fb,loadBytes,aM,Z,aP,Af H,du]at A;rcases ih (a+1) _ _ (λj x Q=>by have:=I (j+1) x (by grind);grind) e A with h|h
     .grind
     grind
   have hva:(variablesAt ⟨g,0,af⟩ E xs.length).run P s.w=.ok ab s.w:=by simp[variablesAt,u,i]
   have Y:∀es,(variablesAt ⟨g,0,af⟩ E xs.length).events P s.w es=es:=λes=>by simp[variablesAt,u,i]
   have RM:e∈(loadBytes ⟨g,0,af⟩ .empty xs.length).events P s.w #[]:=by change e∈Sem.events P (asInt (.int .i64 (xs.length:Int)) >>= _) _ _ at A;simpa[asInt,asIntOf,M,J,h63,f,elemOf,run_underlying hp,hva,Y,V]using A
   rcases W xs 0 .empty #[] (λj x Q=>by grind[du]) e RM with h|⟨j,rfl⟩
   .grind
   .exact j0 (bP r.β) U
end
section
variable {P:ar}{X:Cx P}{N:Nat}{q:List (Nat×TI)}{o:au}{g:aq->D}{σ:List aR}{l:Nat}{T E:aj}{i:Bool}{v1:ah}{bf:Option (Nat×Nat)}{xs:List UInt8}{p:Nat}{s:St}
def bM.exact{x:aq}{v r:ah}{d:D}(c:g x=.e (.one (.v v)))(h:∀(a:aq->ah) w,a x=v->(aw a o).run P w=.ok (.value r) w/\(aw a o).events P w #[]=#[])(f:∀σ s,dt σ s r d):bM P o g σ d σ:=by refine .quiet λs a hh hr=>?_;have b:=hr x;rw[c]at b;have b:=Rd.en b;obtain⟨h1,h2⟩:=h a s.w b;grind
def bM.vh{x:aq}{b:Array aj}{t E:aj}(h:o.op=.call {callee:=.builtin .len,args:=#[x],argTypes:=b})(k:b[0]?=aa t)(j:P.underlying t=aa (.slice E)){a:Option Addr}{n c:Nat}(d:g x=.e (.one (.v (.slice a n c))))(m:n<=9223372036854775807):bM P o g σ (.e (.one (.c (.int .i64 n)))) σ :=
 .exact d (λr w f=>by constructor<;>simp[aw,h,resolve,invoke,builtin,Builtin.len_,f,run_underlying j,goInt,k]) (λ_ _=>Rd.int (by simp only[bD];omega))
def bM.NZ{x:aq}{b:Array aj}{t E:aj}(h:o.op=.call {callee:=.builtin .cap,args:=#[x],argTypes:=b})(k:b[0]?=aa t)(j:P.underlying t=aa (.slice E)){a:Option Addr}{n c:Nat}(d:g x=.e (.one (.v (.slice a n c))))(m:c<=9223372036854775807):bM P o g σ (.e (.one (.c (.int .i64 c)))) σ :=
 .exact d (λr w f=>by constructor<;>simp[aw,h,resolve,invoke,builtin,Builtin.cap_,f,run_underlying j,goInt,k]) (λ_ _=>Rd.int (by simp only[bD];omega))
def bM.UT{x:aq}{a:Array aj}(h:o.op=.call {callee:=.builtin .unsafeSliceData,args:=#[x],argTypes:=a}){n c:Nat}(d:g x=.e (.one (.v (.slice af n c)))):bM P o g σ (.e (.one (.v (.pointer af)))) σ :=
 .exact d (λf w b=>by
  have e:Builtin.unsafeSliceData_ a o.type #[.slice af n c]=pure (.pointer af):=rfl
  constructor<;>simp[aw,h,resolve,invoke,builtin,b,e]) (λ_ _=>Rd.val rfl)
def bM.UU{x:aq}{b:Array aj}(h:o.op=.call {callee:=.builtin .unsafeSliceData,args:=#[x],argTypes:=b}){a:Addr}{n c:Nat}(f:g x=.e (.one (.v (.slice (aa a) n c))))(d:c≠0):bM P o g σ (.e (.one (.v (.pointer (aa a))))) σ :=
 .exact f (λk w j=>by
  obtain⟨m,rfl⟩:=Nat.exists_eq_succ_of_ne_zero d;have e:Builtin.unsafeSliceData_ b o.type #[.slice (aa a) n (m+1)]=pure (.pointer (aa a)):=rfl
  constructor<;>simp[aw,h,resolve,invoke,builtin,j,e]) (λ_ _=>Rd.val rfl)
def bM.UW{t E:aj}{x y:aq}(h:o.op=.slice t x af (aa y) af)(A:P.underlying t=aa (.slice E)){G:TypeInfo}(hi:P.info? E=aa G){a:Addr}{n c k:Nat}(F:g x=.e (.one (.v (.slice (aa a) n c))))(C:g y=.e (.one (.c (.int .i64 k))))(hk:k<=n)(r:n<=c)(u:c≠0)(H:a.add 0=a):bM P o g σ (.e (.one (.v (.slice (aa a) k c)))) σ:=by
 refine .quiet λs z hh hr=>?_;have d:=hr x;rw[F]at d;have d:=Rd.en d;have b:z y=.int .i64 k:=by have h1:=hr y;rw[C]at h1;have h1:=e9 h1;generalize z y=v at h1;cases h1;rfl
 have hl:((af:Option ah)=af/\(af:Option Int)=af)∨∃k j,(af:Option ah)=aa (.int k j)/\(af:Option Int)=aa j:=.inl ⟨rfl,rfl⟩;have hh:(aa (Value.int .i64 k)=af/\(aa (k:Int))=af)∨∃k' j,aa (Value.int .i64 k)=aa (.int k' j)/\(aa (k:Int))=aa j:=.inr ⟨_,_,rfl,rfl⟩;have B:az (fY n af (aa (k:Int))):=by simp[fY,hk]
 obtain⟨m,_,_⟩:=md (P:=P) (isS:=ab) r hl hh B s.w;have f:=nH (P:=P) (isS:=ab) r hl hh B s.w;simp only[dj,cf]at m;refine⟨.slice (aa a) k c,?_,Rd.val rfl,?_⟩
 .simp[aw,h,d,b,Instr.sliceAt,run_underlying A,Instr.slice,m,sizeOf,typeInfo,hi,u,H]
 .simp[aw,h,d,b,Instr.sliceAt,run_underlying A,Instr.slice,m,f,sizeOf,typeInfo,hi,u]
def bM.copyV{t E j:aj}{x y:aq}(h:o.op=.call {callee:=.builtin .copy,args:=#[x,y],argTypes:=#[t,j]})(n:P.underlying t=aa (.slice E)){m:TypeInfo}(hi:P.info? E=aa m){a:Addr}{c:Nat}(k:g x=.e (.one (.v (.slice (aa a) 0 c))))(f:g y=.e (.one (.v (.slice af 0 0)))):bM P o g σ (.e (.one (.c (.int .i64 0)))) σ:=by
 refine .quiet λs r hh hr=>?_;have d:=hr x;rw[k]at d;have d:=Rd.en d;have b:=hr y;rw[f]at b;have b:=Rd.en b;refine⟨.int .i64 0,?_,Rd.int (by simp[bD]),?_⟩<;>
 simp[aw,h,resolve,invoke,builtin,Builtin.copy_,d,b,run_underlying n,sizeOf,typeInfo,hi,Builtin.lenOf,Builtin.firstCells,storeCells,goInt]
def bM.UX{j k:aj}{x y:aq}(r:o.op=.call {callee:=.builtin .unsafeString,args:=#[x,y],argTypes:=#[j,k]})(n:g x=.e (.one (.v (.pointer af))))(m:g y=.e (.one (.c (.int .i64 ((0:Nat):Int))))):bM P o g σ (.e (.one (.c (.str [])))) σ:=by
 refine .oy λs b hh hr=>?_;have d:=hr x;rw[n]at d;have d:=Rd.en d;have a:b y=.int .i64 0:=by have h1:=hr y;rw[m]at h1;have h1:=e9 h1;generalize b y=v at h1;cases h1;rfl
 have f:aw b o=(do pure (.value (<-Builtin.unsafeString_ #[j,k] o.type #[b x,b y]))):=by simp[aw,r,resolve,invoke,builtin]
 have h:=Lib.run_unsafeString_none (P:=P) s.w j k o.type af;refine⟨.string .empty,?_,Rd.str rfl (by simp),?_⟩
 .rw[f,d,a];simp only[bT,dx,h];rfl
 .rw[f,d,a];refine eU ?_;change fg s (Sem.events P (asInt (.int .i64 0) >>= _) _ _);simp[asInt,asIntOf,IntKind.max];exact .nil
def bM.bTo(m:σ[l]?=aa (.cm (BB T E i v1 bf xs p))){c dst:aj}{x:aq}(h:o.op=.convert c dst x)(t:P.underlying c=aa (.pointer T))(n:P.underlying dst=aa .unsafePointer){j:TypeInfo}(hj:P.info? T=aa j)(f:j.size≠0)(v:g x=.e (.one (.ptr l 0))):bM P o g σ (.e (.one (.ptr l 0))) σ:=by
 refine .quiet λs y hh hr=>?_;obtain⟨L,b,ch,r⟩:=BB.row (P:=P) hh m;have d:=hr x;rw[v]at d;have u:=r.ptr d;have k:s.w.shape? b=aa (T,2):=by simp[World.shape?,r.heap _ _ r.ch]
 have a:=Lib.run_to_unsafe (P:=P) s.w ⟨b,0,af⟩ t n hj f k (by simp);refine⟨y x,by simp[aw,h,u,a],d,?_⟩;have:(convert c dst (.pointer (aa ⟨b,0,af⟩))).events P s.w #[]=#[]:=by simp[convert,run_underlying t,run_underlying n,Conv.unsafePointer,Conv.seenAt,viewAt,cellsIn,k,sizeOf,typeInfo,hj,f]
 simp[aw,h,u,a,this]
def bM.UY(m:σ[l]?=aa (.cm (BB T E i v1 bf xs p))){d dst:aj}{x:aq}(h:o.op=.convert d dst x)(u:P.underlying d=aa .unsafePointer)(t:P.underlying dst=aa (.pointer T)){j:TypeInfo}(hj:P.info? T=aa j)(n:j.size≠0)(a:liesAt P P.depth T (2 / P.cellsOf T) 0 T 1=ab)(y:g x=.e (.one (.ptr l 0))):bM P o g σ (.e (.one (.ptr l 0))) σ:=by
 refine .quiet λs z hh hr=>?_;obtain⟨L,b,ch,r⟩:=BB.row (P:=P) hh m;have f:=hr x;rw[y]at f;have v:=r.ptr f;have k:s.w.shape? b=aa (T,2):=by simp[World.shape?,r.heap _ _ r.ch]
 have c:=Lib.run_from_unsafe (P:=P) s.w ⟨b,0,af⟩ u t hj k a;refine⟨z x,by simp[aw,h,v,c],f,?_⟩;have:(convert d dst (.pointer (aa ⟨b,0,af⟩))).events P s.w #[]=#[]:=by simp[convert,run_underlying u,run_underlying t,Conv.unsafePointer,Conv.seenAt,viewAt,variablesAt,k,sizeOf,typeInfo,hj,n,a]
 simp[aw,h,v,c,this]
def bM.UZ{f:aJ}{fn:Func}(B:P.funcs[f]?=aa fn)(j:(fn.name== "runtime.NumGoroutine")=ae)(F:fn.body.isNone=ab)(z:Extern.findNext fn=af)(C:Extern.find fn=aa Extern.AbiNoEscape.same){r x:aq}{t:Array aj}(A:o.op=.call {callee:=.value r,args:=#[x],argTypes:=t})(y:g r=.e (.one (.c (.fn (.func f) [] [])))){d:D}(G:g x=d):bM P o g σ d σ:=by
 refine .oy λs m hh hr=>?_;have n:m r=.func (.func f) #[] #[]:=by
  have h1:=hr r;rw[y]at h1;have h1:=e9 h1;generalize m r=v at h1;cases h1 with
  |fn fs cs a b J H c1 c2 d1 d2 =>
   grind
 have k:(callFunc f #[m x]).run P s.w=.ok (.value (m x)) s.w:=by rw[run_callFunc_extern B j F z C];rfl
 have u:=me (P:=P) B j F z C #[m x] (λ_ _=>rfl) s.w #[];refine⟨m x,?_,by grind,λI h=>?_⟩
 .simp[aw,A,resolve,Deferred.ofValue,invoke,n,k]
 .simp[aw,A,resolve,Deferred.ofValue,invoke,n,u]at h;subst h;exact .inr ⟨_,rfl⟩
end
end Go.AM
