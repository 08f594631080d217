/- Part 2. No condition. -/
import Derived.Test.YthilmklinlalbaaGreatDoorA1
import Derived.MapKept
import Derived.Maps.RangeRun
import Derived.Laws.MakeOwn
import Derived.Lib.SliceRun
import Derived.Test.YthilmklinlalbaaGreatDoorProg
import Derived.Lib.FrozenHead
import Derived.Lib.UnsafeStr
import Derived.Lib.MakeNoZero
import Derived.Laws.Externs
import Derived.Lib.Builder
set_option linter.all false
set_option maxHeartbeats 8000000
open Go.Proofs
open Go.Conc (G)
open Go renaming Value → ah, Program → ar, TypeId → aj, Oper → au, Operand → aq, undef → ai, execOp → aw, World → aA, Goroutine → av, stepG → aH, Frame → aU, FuncId → aJ
open Option renaming some → aa, none → af
open Bool renaming true → ab, false → ae
open Go.World renaming cell? → aV
open List renaming getD_eq_getElem?_getD → ak, range → bh, all_eq_true → bC
open Go.Sem renaming events_bind → aM
open Go.Result renaming evThen_ok → aP
open Go.Region renaming wanted → bg, ready → ba
open Go.Instr renaming sureAddr → bq
open Nat renaming beq → aB, ble → bA
open Go.Op renaming equalIn → aZ
open Go.Proofs.Tryz renaming prog → ag
open Go.TypeDesc renaming struct → bu
namespace Go.AM
section force
variable {p:Type}
def wT:C->(C->Option p)->Option p
 |.int k n,q=>q (.int k n)
 |.bool b,q=>q (.bool b)
 |.str s,q=>q (.str s)
 |.sl ab k n es,q=>q (.sl ab k n es)
 |.sl ae k n es,q=>q (.sl ae k n es)
 |.rp cs,q=>dD cs λcs=>q (.rp cs)
 |.Gw t cs,q=>dD cs λcs=>q (.Gw t cs)
 |.fn f a b,q=>dD a λa=>dD b λb=>q (.fn f a b)
 |c,q=>q c
def HU(c:C)(q:C->Option p):wT c q=q c:=by
 cases c with
 |sl t=>cases t<;>rfl
 |rp cs=>simp[wT,dh]
 |Gw t cs=>simp[wT,dh]
 |fn f a b=>simp[wT,dh]
 |_=>rfl
def wU:A->(A->Option p)->Option p
 |.c x,q=>wT x λx=>q (.c x)
 |.ptr l o,q=>q (.ptr l o)
 |.vec l k n es,q=>q (.vec l k n es)
 |.ref l,q=>q (.ref l)
 |.bp l (.sl g k o n),q=>q (.bp l (.sl g k o n))
 |.bp l (.el g k i f),q=>q (.bp l (.el g k i f))
 |.any,q=>q .any
def yY(a:A)(q:A->Option p):wU a q=q a:=by
 cases a with
 |bp l w=>cases w<;>simp[wU]
 |_=>simp[wU,HU]
def vR:List A->(List A->Option p)->Option p
 |[],q=>q []
 |a::r,q=>wU a λa=>vR r λr=>q (a::r)
def Ex(l:List A)(q:List A->Option p):vR l q=q l:=by
 induction l generalizing q with
 |nil=>rfl
 |cons a r b=>simp[vR,yY,b]
def Av:E1->(E1->Option p)->Option p
 |.one a,q=>wU a λa=>q (.one a)
 |.agg cs,q=>vR cs λcs=>q (.agg cs)
def yZ(a:E1)(q:E1->Option p):Av a q=q a:=by cases a<;>simp[Av,yY,Ex]
def vS:List E1->(List E1->Option p)->Option p
 |[],q=>q []
 |a::r,q=>Av a λa=>vS r λr=>q (a::r)
def Ey(l:List E1)(q:List E1->Option p):vS l q=q l:=by
 induction l generalizing q with
 |nil=>rfl
 |cons a r b=>simp[vS,yZ,b]
def oH:D->(D->Option p)->Option p
 |.e x,q=>Av x λx=>q (.e x)
 |.fa xs,q=>vS xs λxs=>q (.fa xs)
 |.any,q=>q .any
theorem nR(a:D)(q:D->Option p):oH a q=q a:=by cases a<;>simp[oH,yZ,Ey]
end force
def yC:D->Option (Bool×Nat×Nat×(Nat->List C))
 |.e (.one (.c (.sl t k n es)))=>aa (t,k,n,es)
 |.e (.one (.vec _ k n es))=>aa (ae,k,n,es)
 |_=>af
theorem mV{d:D}{t:Bool}{k n:Nat}{es:Nat->List C}(h:yC d=aa (t,k,n,es))(σ:List aR)(s:St)(v:ah)(r:dt σ s v d):Rd s.M v (.sl t k n es):=by
 unfold yC at h;split at h
 .cases h;exact r
 .cases h;exact r.1
 grind
def jb(l:List UInt8)(j:Int):UInt8:=l.getD j.toNat 0
def R2(T:List (Nat×TI))(t:aj)(d:D):Option D :=
 match bG T t with
 |none=>af
 |some i=>match i.desc with
  |.slice _=>match yC d with
   |some (_,_,n,_)=>aa (.e (.one (.c (.int .i64 n))))
   |none=>af
  |.string=>match d with
   |.e (.one (.c (.str s)))=>aa (.e (.one (.c (.int .i64 s.length))))
   |_=>af
  |_=>af
def J7(T:List (Nat×TI))(a b:aj)(d:D):Option (D×List Prop) :=
 match bG T a with
 |none=>af
 |some i1=>match bG T b with
  |none=>af
  |some i2=>match i2.desc with
   |.int k'=>match d with
    |.e (.one (.c (.int _ j)))=>aa (.e (.one (.c (.int k' j))),[bD k' j])
    |_=>af
   |.string=>match d with
    |.e (.one (.c (.str s)))=>aa (.e (.one (.c (.str s))),[])
    |d=>match i1.desc with
     |.slice E=>match bG T E with
      |some ie=>match ie.desc with
       |.int .u8=>match yC d with
        |some (_,k,n,es)=>match aB k 1 with
         |true=>match wV es 0 n with
          |some r=>aa (.e (.one (.c (.str r))),[])
          |none=>af
         |false=>af
        |none=>af
       |_=>af
      |none=>af
     |_=>af
   |_=>af
def Ez(T:List (Nat×TI))(a:aq->D)(t:aj)(x:aq)(lo hi:Option aq):Option (D×List Prop) :=
 match bG T t with
 |none=>af
 |some i=>match rJ a lo with
  |none=>af
  |some l=>match rJ a hi with
   |none=>af
   |some u=>match i.desc with
    |.string=>match a x with
     |.e (.one (.c (.str s)))=>aa (.e (.one (.c (.str (sS s l u)))),fY s.length l u)
     |_=>af
    |.slice E=>match bG T E with
     |none=>af
     |some ie=>match yC (a x)with
      |some (tt,k,n,es)=>match aB k ie.size with
       |true=>aa (.e (.one (.c (.sl (R3 tt u) ie.size (dj n u-dj 0 l) (mf (dj 0 l) es)))),fY n l u)
       |false=>af
      |none=>af
    |_=>af
def y0(op:BinOp)(k:IntKind)(a:Int)(k':IntKind)(b:Int):Option (D×List Prop) :=
 match B7 op k a k' b with
 |some (c,obs)=>aa (.e (.one (.c (.int k c))),obs)
 |none=>af
theorem sT{op:BinOp}{k k':IntKind}{a b:Int}{d:D}{obs:List Prop}(h:y0 op k a k' b=aa (d,obs)):∃c,d=.e (.one (.c (.int k c)))/\B7 op k a k' b=aa (c,obs):=by unfold y0 at h;grind
def QF(T:List (Nat×TI))(op:BinOp)(t:aj)(x y:D):Option (D×List Prop) :=
 match x,y with
 |.e (.one (.c (.bool a))),.e (.one (.c (.bool b)))=>match bG T t with
  |some i=>match i.desc with
   |.bool=>match jm op (a==b)with
    |some c=>aa (.e (.one (.c (.bool c))),[])
    |none=>af
   |_=>af
  |none=>af
 |.e (.one (.c a)),.e (.one (.c b))=>match op with
  |.xor=>match a,b with
   |.int .i64 a,.int .i64 b=>aa (.e (.one (.c (.int .i64 ((a.toNat ^^^ b.toNat:Nat):Int)))),[0<=a,0<=b])
   |.int .u64 a,.int k' b=>y0 .xor .u64 a k' b
   |_,_=>af
  |.shl=>match a,b with
   |.int k a,.int k' b=>y0 .shl k a k' b
   |_,_=>af
  |.shr=>match a,b with
   |.int k a,.int k' b=>y0 .shr k a k' b
   |_,_=>af
  |.and=>match a,b with
   |.int k a,.int k' b=>y0 .and k a k' b
   |_,_=>af
  |_=>match Oh op a b with
   |some (c,obs)=>aa (.e (.one (.c c)),obs)
   |none=>af
 |.e (.agg cs),.e (.agg es)=>match bG T t with
  |some i=>match i.eq with
   |[]=>af
   |d::ds=>match QG (d::ds) cs es with
    |some b=>match jm op b with
     |some c=>aa (.e (.one (.c (.bool c))),[])
     |none=>af
    |none=>af
  |none=>af
 |_,_=>af
def XG(T:List (Nat×TI))(CT:List (Nat×dv))(φ:Fr)(o:au):Option (D×List Prop) :=
 match o.op with
 |.move x|.assign x=>aa (bU φ x,[])
 |.index t x y=>match bG T t with
  |some i=>match i.desc with
   |.string=>match bU φ x,bU φ y with
    |.e (.one (.c (.str l))),.e (.one (.c (.int _ j)))=>aa (.e (.one (.c (.int .u8 (jb l j).toNat))),[0<=j,j<l.length])
    |_,_=>af
   |_=>af
  |none=>af
 |.indexAddr t x y=>match bG T t with
  |some i=>match i.desc with
   |.slice E=>match bG T E with
    |some ie=>match yC (bU φ x),bU φ y with
     |some (_,k,n,es),.e (.one (.c (.int _ j)))=>match aB k ie.size with
      |true=>aa (.e (.one (.c (.rp (es j.toNat)))),[0<=j,j<n])
      |false=>af
     |_,_=>af
    |none=>af
   |_=>af
  |none=>af
 |.slice t x lo hi af=>Ez T (bU φ) t x lo hi
 |.convert src dst x=>J7 T src dst (bU φ x)
 |.call c=>match c.callee with
  |.builtin .len=>match c.args.toList,c.argTypes[0]? with
   |[x],aa t=>match R2 T t (bU φ x)with
    |some d=>aa (d,[])
    |none=>af
   |_,_=>af
  |.value fo=>Cn CT φ fo c.args.toList
  |_=>af
 |.pick c a b=>match bU φ c with
  |.e (.one (.c (.bool ab)))=>aa (bU φ a,[])
  |.e (.one (.c (.bool ae)))=>aa (bU φ b,[])
  |_=>af
 |.binOp op t x y _=>QF T op t (bU φ x) (bU φ y)
 |.unOp op _ x=>match bU φ x with
  |.e (.one (.c a))=>match XI op a with
   |some c=>aa (.e (.one (.c c)),[])
   |none=>af
  |_=>af
 |.extract x j=>match bU φ x with
  |.fa xs=>match dC j xs with
   |some e=>aa (.e e,[])
   |none=>af
  |_=>af
 |.fieldAddr t x f=>match j5 T t f with
  |some (k,_)=>match bU φ x with
   |.e (.one (.ptr l off))=>aa (.e (.one (.ptr l (off+k))),[])
   |.e (.one (.c (.rp cs)))=>aa (.e (.one (.c (.rp (fV k cs)))),[])
   |_=>af
  |none=>af
 |.field t x f=>match j5 T t f with
  |some (k,j)=>match bU φ x with
   |.e (.agg cs)=>match lb j (fV k cs)with
    |some e=>aa (.e e,[])
    |none=>af
   |_=>af
  |none=>af
 |.nilCheck x=>match bU φ x with
  |.e (.one (.ptr l off))=>aa (.e (.one (.ptr l off)),[])
  |.e (.one (.c (.rp cs)))=>aa (.e (.one (.c (.rp cs))),[])
  |_=>af
 |.build t parts=>match Aw T (bU φ) t parts.toList with
  |some cs=>aa (.e (.agg cs),[])
  |none=>af
 |.buildSlice t n parts=>match Oi T (bU φ) t n parts.toList with
  |some (k,es)=>aa (.e (.one (.c (.sl ab k n λi=>es.getD i []))),[])
  |none=>af
 |.makeFunc fn a b=>match wW (bU φ) a.toList with
  |some ca=>match wW (bU φ) b.toList with
   |some cb=>aa (.e (.one (.c (.fn fn ca cb))),[])
   |none=>af
  |none=>af
 |.makeInterface t x=>match bG T t with
  |some i=>match pG i.desc with
   |false=>match vT t (bU φ x)with
    |some c=>aa (.e (.one (.c c)),[])
    |none=>af
   |true=>af
  |none=>af
 |.typeAssert x _ t ab=>match bG T t with
  |some i=>match pG i.desc with
   |false=>match bU φ x with
    |.e (.one (.c c))=>match qE t i c with
     |some (e,b)=>aa (.fa [e,.one (.c (.bool b))],[])
     |none=>af
    |_=>af
   |true=>af
  |none=>af
 |_=>af
def J0(T:List (Nat×TI))(φ:Fr)(σ:List aR)(t:aj)(x:aq):Option D :=
 match bG T t with
 |some i=>match bU φ x with
  |.e (.one (.ptr l off))=>match dC l σ with
   |some (.cells _ cs)=>match lb i (fV off cs)with
    |some e=>aa (.e e)
    |none=>af
   |_=>af
  |.e (.one (.c (.rp cs)))=>match lb i (cs.map A.c)with
   |some e=>aa (.e e)
   |none=>af
  |_=>af
 |none=>af
def Yz(T:List (Nat×TI))(φ:Fr)(o:au):Option (D×List Prop) :=
 match o.op with
 |.indexAddr t x y=>match bG T t with
  |some i=>match i.desc with
   |.slice E=>match bG T E with
    |some ie=>match bU φ x,bU φ y with
     |.e (.one (.bp l (.sl g k q m))),.e (.one (.c (.int _ j)))=>match aB k ie.size with
      |true=>aa (.e (.one (.bp l (.el g ie.size (q+j.toNat) 0))),[0<=j,j<m])
      |false=>af
     |.e (.one (.c (.val (.slice (aa ⟨b,off,af⟩) n _)))),.e (.one (.c (.int _ j)))=>aa (.e (.one (.c (.val (.pointer (aa ⟨b,off+j.toNat*ie.size,af⟩))))),[0<=j,j<n])
     |_,_=>af
    |none=>af
   |_=>af
  |none=>af
 |.fieldAddr t x f=>match j5 T t f with
  |some (k,_)=>match bU φ x with
   |.e (.one (.bp l (.el g a i q)))=>aa (.e (.one (.bp l (.el g a i (q+k)))),[])
   |.e (.one (.c (.val (.pointer (aa ⟨b,off,af⟩)))))=>aa (.e (.one (.c (.val (.pointer (aa ⟨b,off+k,af⟩))))),[])
   |_=>af
  |none=>af
 |.nilCheck x=>match bU φ x with
  |.e (.one (.bp l (.el g a i q)))=>aa (.e (.one (.bp l (.el g a i q))),[])
  |_=>af
 |.slice t x lo hi af=>match bG T t with
  |none=>af
  |some i=>match rJ (bU φ) lo with
   |none=>af
   |some lw=>match rJ (bU φ) hi with
    |none=>af
    |some u=>match i.desc with
     |.slice E=>match bG T E with
      |none=>af
      |some ie=>match bU φ x with
       |.e (.one (.bp l (.sl g k q m)))=>match aB k ie.size with
        |true=>aa (.e (.one (.bp l (.sl g ie.size (q+dj 0 lw) (dj m u-dj 0 lw)))),fY m lw u)
        |false=>af
       |_=>af
     |_=>af
 |.slice t x af (aa y) (aa z)=>match bG T t with
  |none=>af
  |some i=>match i.desc with
   |.slice E=>match bG T E with
    |none=>af
    |some _=>match yC (bU φ x),bU φ y,bU φ z with
     |some (_,k,n,es),.e (.one (.c (.int _ j))),.e (.one (.c (.int _ m)))=>aa (.e (.one (.c (.sl ae k j.toNat es))),[0<=j,j<=m,m<=n])
     |_,_,_=>af
   |_=>af
 |.slice t x (aa w) (aa y) (aa z)=>match bG T t with
  |none=>af
  |some i=>match i.desc with
   |.slice E=>match bG T E with
    |none=>af
    |some _=>match bU φ x,bU φ w,bU φ y,bU φ z with
     |.e (.one (.bp _ (.sl _ _ _ n))),.e (.one (.c (.int _ i))),.e (.one (.c (.int _ j))),.e (.one (.c (.int _ m)))=>aa (.e (.one .any),[0<=i,i<=j,j<=m,m<=n])
     |_,_,_,_=>af
   |_=>af
 |.call c=>match c.callee with
  |.builtin .len=>match c.args.toList,c.argTypes[0]? with
   |[x],aa t=>match bG T t with
    |some i=>match i.desc with
     |.slice _=>match bU φ x with
      |.e (.one (.bp _ (.sl _ _ _ m)))=>aa (.e (.one (.c (.int .i64 m))),[])
      |.e (.one (.c (.val (.slice _ n _))))=>aa (.e (.one (.c (.int .i64 n))),[n<=9223372036854775807])
      |_=>af
     |_=>af
    |none=>af
   |_,_=>af
  |_=>af
 |_=>af
def Ar(T:List (Nat×TI))(φ:Fr)(σ:List aR)(t:aj)(x:aq):Option (D×List Prop) :=
 match bG T t with
 |some it=>match bU φ x with
  |.e (.one (.bp l (.el g k i f)))=>match dC l σ with
   |some (.buf _ k' n es)=>match aB k' k with
    |true=>match lb it ((fV f (es i)).map A.c)with
     |some e=>aa (.e e,[g=n,i<n])
     |none=>af
    |false=>af
   |_=>af
  |_=>af
 |none=>af
def J8:Nat->List C->Nat->Bool
 |0,cc,k=>aB cc.length k
 |_+1,_,_=>ae
def Ax(T:List (Nat×TI))(φ:Fr)(σ:List aR)(t:aj)(x y:aq):Option (D×List aR×List Prop) :=
 match bG T t with
 |some it=>match bU φ x with
  |.e (.one (.bp l (.el g k i f)))=>match dC l σ with
   |some (.buf E k' n es)=>match aB k' k with
    |true=>match kI (bU φ y)with
     |some new=>match aB new.length it.size with
      |true=>match gM new with
       |some cc=>match J8 f cc k with
        |true=>dD (dW.qV l (.buf E k' n (pH i cc es)) σ) λσ'=>aa (.any,σ',[g=n,i<n])
        |false=>match fH f cc (es i)with
         |some ci=>dD (dW.qV l (.buf E k' n (pH i ci es)) σ) λσ'=>aa (.any,σ',[g=n,i<n])
         |none=>af
       |none=>af
      |false=>af
     |none=>af
    |false=>af
   |_=>af
  |_=>af
 |none=>af
def Oe(T:List (Nat×TI))(CT:List (Nat×dv))(φ:Fr)(σ:List aR)(o:au):Option (D×List Prop) :=
 match o.op with
 |.load t x=>match J0 T φ σ t x with
  |some d=>aa (d,[])
  |none=>Ar T φ σ t x
 |_=>match XG T CT φ o with
  |some r=>aa r
  |none=>Yz T φ o
def R4(T:List (Nat×TI))(a:aq->D)(σ:List aR)(x y:aq)(t b:aj):Option (D×List aR×List Prop) :=
 match bG T t with
 |none=>af
 |some i=>match bG T b with
  |none=>af
  |some i2=>match i.desc with
   |.slice E=>match i2.desc with
    |.slice E2=>match aB E2 E with
     |false=>af
     |true=>match bG T E with
      |none=>af
      |some ie=>match bA 1 ie.bytes,bA 1 ie.size with
       |true,ab=>match yC (a y)with
        |none=>af
        |some (_,k',m,es')=>match aB k' ie.size with
         |false=>af
         |true=>match a x with
          |.e (.one (.c (.sl ab k n es)))=>match aB k ie.size with
           |true=>dD (σ++[.vec E ie.size (n+m) (cK n es es')]) λσ'=>aa (.e (.one (.vec σ.length ie.size (n+m) (cK n es es'))),σ',[(n+m)*ie.bytes<=140737488355328,n=0∨0<m])
           |false=>match aB n 0 with
            |true=>dD (σ++[.vec E ie.size (n+m) (cK n es es')]) λσ'=>aa (.e (.one (.vec σ.length ie.size (n+m) (cK n es es'))),σ',[(n+m)*ie.bytes<=140737488355328,n=0∨0<m])
            |false=>af
          |.e (.one (.vec l k n es))=>match dC l σ with
           |some (.vec E' k2 n2 Aa)=>match aB E' E,aB k ie.size,aB k2 ie.size with
            |true,ab,ab=>dD (dW.qV l (.vec E ie.size (n+m) (cK n es es')) σ) λσ'=>aa (.e (.one (.vec l ie.size (n+m) (cK n es es'))),σ',[n2=n,Aa=es,(n+m)*ie.bytes<=140737488355328])
            |_,_,_=>af
           |_=>af
          |.e (.one (.bp l (.sl g k 0 n)))=>match dC l σ with
           |some (.buf E' k2 n2 Aa)=>match aB E' E,aB k ie.size,aB k2 ie.size with
            |true,ab,ab=>dD (dW.qV l (.buf E ie.size (n2+m) (cK n2 Aa es')) σ) λσ'=>aa (.e (.one (.bp l (.sl (n2+m) ie.size 0 (n2+m)))),σ',[g=n2,n=n2,(n2+m)*ie.bytes<=140737488355328])
            |_,_,_=>af
           |_=>af
          |_=>af
       |_,_=>af
    |_=>af
   |_=>af
def YA(T:List (Nat×TI))(CT:List (Nat×dv))(φ:Fr)(σ:List aR)(o:au):Option (D×List aR×List Prop) :=
 match o.op with
 |.alloc _|.box _ _=>XJ T φ σ o
 |.store t x y=>match XJ T φ σ o with
  |some r=>aa r
  |none=>Ax T φ σ t x y
 |.call c=>match c.callee with
  |.builtin .append=>match c.args.toList,c.argTypes.toList with
   |[x,y],[t,a]=>R4 T (bU φ) σ x y t a
   |_,_=>af
  |.value fo=>J9 CT φ σ fo c.args.toList
  |_=>af
 |_=>af
def R5(T:List (Nat×TI))(a:aq->D)(x y:aq)(t b:aj):Option (D×List Prop) :=
 match bG T t with
 |none=>af
 |some i=>match bG T b with
  |none=>af
  |some i2=>match i.desc with
   |.slice E=>match i2.desc with
    |.slice E2=>match aB E2 E with
     |false=>af
     |true=>match bG T E with
      |none=>af
      |some ie=>match bA 1 ie.bytes,bA 1 ie.size with
       |true,ab=>match yC (a y)with
        |none=>af
        |some (_,k',m,es')=>match aB k' ie.size with
         |false=>af
         |true=>match a x with
          |.e (.one (.c (.sl ab k n es)))=>match aB n 0 with
           |true=>aa (.e (.one (.c (.sl ae ie.size (n+m) (cK n es es')))),[(n+m)*ie.bytes<=140737488355328,n=0∨0<m])
           |false=>af
          |_=>af
       |_,_=>af
    |_=>af
   |_=>af
def YB(T:List (Nat×TI))(φ:Fr)(o:au):Option (D×List Prop) :=
 match o.op with
 |.call c=>match c.callee with
  |.builtin .append=>match c.args.toList,c.argTypes.toList with
   |[x,y],[t,a]=>R5 T (bU φ) x y t a
   |_,_=>af
  |_=>af
 |_=>af
def Co:List (Nat×Bool)->Nat->Option Bool
 |[],_=>af
 |(i,b)::r,t=>match aB i t with|true=>aa b|false=>Co r t
def Yp(ds:List (Nat×Bool)):Option Nat->Bool
 |none=>ae
 |some t=>match Co ds (2000000+t)with
  |some ab=>ab
  |_=>ae
def isW(ds:List (Nat×Bool)):Option Nat->Bool
 |none=>ae
 |some t=>match Co ds (3000000+t)with
  |some ab=>ab
  |_=>ae
def appW(w:Bool)(T:List (Nat×TI))(a:aq->D)(σ:List aR)(x y:aq)(t b:aj):Option (D×List aR×List Prop) :=
 match bG T t with
 |none=>af
 |some i=>match bG T b with
  |none=>af
  |some i2=>match i.desc with
   |.slice E=>match i2.desc with
    |.slice E2=>match aB E2 E with
     |false=>af
     |true=>match bG T E with
      |none=>af
      |some ie=>match bA 1 ie.bytes,bA 1 ie.size with
       |true,ab=>match w with
        |true=>match yC (a y)with
         |none=>af
         |some (_,k',m,es')=>match aB k' ie.size with
          |false=>af
          |true=>match a x with
           |.e (.one (.c (.sl ab k n es)))=>match aB n 0 with
            |true=>dD (σ++[.buf E ie.size (0+m) (cK 0 es es')]) λσ'=>aa (.e (.one (.bp σ.length (.sl (0+m) ie.size 0 (0+m)))),σ',[(0+m)*ie.bytes<=140737488355328])
            |false=>af
           |_=>af
        |false=>match a x,a y with
         |.e (.one (.bp l (.sl g k 0 i))),.e (.one (.bp l' (.sl g' k' j m)))=>match aB l' l with
          |false=>af
          |true=>match dC l σ with
           |some (.buf E' k2 n es)=>match aB E' E,aB k ie.size,aB k' ie.size,aB k2 ie.size with
            |true,ab,ab,ab=>dD (dW.qV l (.buf E ie.size n (HK i j m es)) σ) λσ'=>aa (.e (.one (.bp l (.sl n ie.size 0 (i+m)))),σ',[g=n,g'=n,i+m<=n,j+m<=n])
            |_,_,_,_=>af
           |_=>af
         |_,_=>af
       |_,_=>af
    |_=>af
   |_=>af
def XK(w:Bool)(T:List (Nat×TI))(φ:Fr)(σ:List aR)(o:au):Option (D×List aR×List Prop) :=
 match o.op with
 |.call c=>match c.callee with
  |.builtin .append=>match c.args.toList,c.argTypes.toList with
   |[x,y],[t,a]=>appW w T (bU φ) σ x y t a
   |_,_=>af
  |_=>af
 |_=>af
def U6(ds:List (Nat×Bool))(T:List (Nat×TI))(CT:List (Nat×dv))(φ:Fr)(σ:List aR)(o:au):Option (D×List aR×List Prop) :=
 match isW ds o.dst with
 |true=>XK ab T φ σ o
 |false=>match YA T CT φ σ o with
  |some r=>aa r
  |none=>XK ae T φ σ o
def J5(ds:List (Nat×Bool))(d:Option Nat)(x:D)(obs:List Prop):Option (D×List Prop) :=
 match d with
 |none=>aa (x,obs)
 |some t=>match Co ds t with
  |none=>aa (x,obs)
  |some b=>match x with
   |.e (.one (.c (.bool e)))=>aa (.e (.one (.c (.bool b))),la obs [e=b])
   |_=>af
def Oj{ds:List (Nat×Bool)}{d:Option Nat}{x y:D}{obs EA:List Prop}(h:J5 ds d x obs=aa (y,EA))(a:az EA):y=x/\az obs:=by
 unfold J5 at h;split at h
 .grind
 .split at h
  .grind
  .split at h
   .cases h;rw[az.cat]at a;have:_=_:=a.2;grind
   grind
def wP(T:List (Nat×TI))(CT:List (Nat×dv))(ds:List (Nat×Bool))(all:List au)(φ:Fr)(σ:List aR)(o:au):Option (D×Option (List aR)×List Prop) :=
 let go:Option (D×Option (List aR)×List Prop):=match Oe T CT φ σ o with
  |some (x,obs)=>match J5 ds o.dst x obs with
   |some (y,a)=>oH y λy=>aa (y,af,a)
   |none=>af
  |none=>match Yp ds o.dst with
   |true=>match YB T φ o with
    |some (x,obs)=>oH x λx=>aa (x,af,obs)
    |none=>af
   |false=>match U6 ds T CT φ σ o with
    |some (x,σ',obs)=>oH x λx=>aa (x,aa σ',obs)
    |none=>af
 match o.guard with
 |none=>go
 |some (j,b)=>match Ay φ all j with
  |some (aa b')=>match b,b' with
   |true,ab=>go
   |false,ae=>go
   |_,_=>aa (.fa [],af,[])
  |some af=>aa (.fa [],af,[])
  |none=>af
section
variable {P:ar}{X:Cx P}{T:List (Nat×TI)}{CT:List (Nat×dv)}{N:Nat}{all:List au}{φ:Fr}{σ:List aR}{o:au}
theorem Ol(hT:cW P T)(B:∀σ s a,cu N σ s φ a->bg o (yielded all.toArray a.tmps)=ab){x y:aq}{t e:aj}{d:D}{obs:List Prop}(A:o.op=.call {callee:=.builtin .append,args:=#[x,y],argTypes:=#[t,e]})(h:R5 T (bU φ) x y t e=aa (d,obs))(b:az obs):OA X N all o φ σ d σ:=by
 unfold R5 at h;split at h
 .cases h
 rename_i i hi;split at h
 .cases h
 rename_i i2 NI;split at h
 case h_2=>cases h
 rename_i E C;split at h
 case h_2=>cases h
 rename_i E2 Vf;split at h
 .cases h
 rename_i f;have z:=bX f;subst z;split at h
 .cases h
 rename_i w j;split at h
 case h_2=>cases h
 rename_i l r;have c:lL P o x y E2 w:=⟨⟨t,e,i,i2,A,hT t i hi,C,hT e i2 NI,Vf⟩,hT _ _ j,by have:=db l;omega,by have:=db r;omega⟩
 split at h
 .cases h
 rename_i tx k' m es' hy;split at h
 .cases h
 rename_i q;have u:=bX q;subst u;have g:=λs v=>mV hy σ s v;split at h
 .rename_i k n es hx;split at h
  .rename_i F;cases h;exact(OA.kT B (bM.pw c hx (.inr (bX F)) g b.1 b.2)).Cl
  grind
 grind
theorem Om(hT:cW P T){K:aq->D}{x y:aq}{t f:aj}{d:D}{σ':List aR}{obs:List Prop}(V:o.op=.call {callee:=.builtin .append,args:=#[x,y],argTypes:=#[t,f]})(h:R4 T K σ x y t f=aa (d,σ',obs))(a:az obs):bM P o K σ d σ':=by
 unfold R4 at h;split at h
 .cases h
 rename_i i hi;split at h
 .cases h
 rename_i i2 NI;split at h
 case h_2=>cases h
 rename_i E R;split at h
 case h_2=>cases h
 rename_i E2 Vf;split at h
 .cases h
 rename_i j;have O:=bX j;subst O;split at h
 .cases h
 rename_i L G;split at h
 case h_2=>cases h
 rename_i q J;have b:lL P o x y E2 L:=⟨⟨t,f,i,i2,V,hT t i hi,R,hT f i2 NI,Vf⟩,hT _ _ G,by have:=db q;omega,by have:=db J;omega⟩
 split at h
 .cases h
 rename_i tx k' m es' hy;split at h
 .cases h
 rename_i H;have U:=bX H;subst U;have c:=λs v=>mV hy σ s v;split at h
 .rename_i k n es hx;split at h
  .rename_i hk;rw[dh]at h;cases h;exact bM.pw b hx (.inl (bX hk)) c a.1 a.2
  .split at h
   .rename_i S;rw[dh]at h;cases h;exact bM.pw b hx (.inr (bX S)) c a.1 a.2
   grind
 .rename_i l k n es hx;split at h
  .rename_i Q M e Aa hl;split at h
   .rename_i C A z;rw[dh,jq]at h;cases h;obtain⟨w,r,F⟩:e=n/\Aa=es/\_:=a;subst w;subst r;have B:=bX C;subst B;have I:=bX A;have u:=bX z;subst u;subst I;exact bM.HN b hx (b9 hl) c F
   grind
  grind
 .rename_i l g k n hx;split at h
  .rename_i Q M e Aa hl;split at h
   .rename_i C A z;rw[dh,jq]at h;cases h;obtain⟨w,r,F⟩:g=e/\n=e/\_:=a;subst w;subst r;have B:=bX C;subst B;have I:=bX A;have u:=bX z;subst u;subst I;exact bM.On b hx (b9 hl) c F
   grind
  grind
 grind
theorem Oo(hT:cW P T){b:aq->D}{x:aq}{a:Array aj}{t:aj}{d:D}(e:o.op=.call {callee:=.builtin .len,args:=#[x],argTypes:=a})(c:a[0]?=aa t)(h:R2 T t (b x)=aa d):bM P o b σ d σ:=by
 unfold R2 at h;split at h
 .cases h
 rename_i i hi;split at h
 .rename_i E f;split at h
  .rename_i tt k n es hs;cases h;exact bM.Vg hT e c hi f (λs v=>mV hs σ s v)
  grind
 .grind [bM.R6]
 grind
theorem Ka(hT:cW P T){m:aq->D}{c b:aj}{x:aq}{d:D}{obs:List Prop}(l:o.op=.convert c b x)(h:J7 T c b (m x)=aa (d,obs))(a:az obs):bM P o m σ d σ:=by
 unfold J7 at h;split at h
 .cases h
 rename_i i hi;split at h
 .cases h
 rename_i i2 NI;split at h
 .rename_i k' hd;split at h
  .rename_i k j q;cases h;exact bM.Oq hT l hi NI hd q a
  grind
 .rename_i hd;split at h
  .grind [bM.Ot]
  .split at h
   .rename_i E g;split at h
    .rename_i w t;split at h
     .rename_i f;split at h
      .rename_i tt k n es hs;split at h
       .rename_i hk;have e:=bX hk;subst e;split at h
        .rename_i r u;cases h;exact bM.HV hT l hi NI g hd t f (λs v=>mV hs σ s v) u
        grind
       grind
      grind
     grind
    grind
   grind
 grind
theorem HW(hT:cW P T){b:aq->D}{t:aj}{x:aq}{lo hi:Option aq}{d:D}{obs:List Prop}(e:o.op=.slice t x lo hi af)(h:Ez T b t x lo hi=aa (d,obs))(a:az obs):bM P o b σ d σ:=by
 unfold Ez at h;split at h
 .cases h
 rename_i i c;split at h
 .cases h
 rename_i l f;split at h
 .cases h
 rename_i u g;split at h
 .grind [bM.Kb]
 .grind [Nat.eq_of_beq_eq_true,bM.Ou,mV]
 grind
theorem wX{α:Type}{xs:Array α}{x:α}(h:xs.toList=[x]):xs=#[x]:=Array.ext' h
theorem wY{α:Type}{xs:Array α}{x y:α}(h:xs.toList=[x,y]):xs=#[x,y]:=Array.ext' h
theorem R7(hT:cW P T)(Q:bL X CT){d:D}{obs:List Prop}(h:XG T CT φ o=aa (d,obs))(g:az obs)(u:∀σ s a,cu N σ s φ a->bg o (yielded all.toArray a.tmps)=ab):OA X N all o φ σ d σ:=by
 unfold XG at h;split at h
 .grind [OA.kT,bM.move]
 .grind [OA.kT,bM.assign]
 .rename_i t x y w;split at h
  .rename_i i hi;split at h
   .rename_i A;split at h
    .rename_i l k j r C;cases h;obtain⟨J,M⟩:0<=j/\j<(l.length:Int):=g;have:=bM.Kc (σ:=σ) (m:=j.toNat) hT w hi A r C (by omega) (by omega);have e:jb l j=l[j.toNat]'(by omega):=by simp[jb,ak,br (by omega:j.toNat<l.length)]
     grind[OA.kT]
    grind
   grind
  grind
 .rename_i t x y w;split at h
  .rename_i i hi;split at h
   .rename_i E A;split at h
    .rename_i O K;split at h
     .rename_i tt k n es k2 j r C;split at h
      .rename_i hk;cases h;obtain⟨J,M⟩:0<=j/\j<(n:Int):=g;have e:=bX hk;subst e;exact OA.kT u (bM.indexAddr (m:=j.toNat) hT w hi A K (λs v=>mV r σ s v) C (by omega) (by omega))
      grind
     grind
    grind
   grind
  grind
 .grind [OA.kT,HW]
 .grind [OA.kT,Ka]
 .rename_i c w;obtain⟨L,args,H⟩:=c;grind[wX,OA.kT,Oo,OA.Cn]
 .rename_i c a b q;split at h
  .rename_i B;cases h;exact OA.kT u (bM.pick q B)
  .rename_i B;cases h;exact OA.kT u (bM.pick q B)
  grind
 .rename_i op t y z ty q;unfold QF at h;split at h
  .grind [OA.kT,bM.R8]
  .rename_i a b _ F G;split at h
   .split at h
    .rename_i _ _ a' b' _ _;cases h;exact OA.kT u (bM.Vh q F G g.1 g.2)
    .grind [sT,OA.kT,bM.bits]
    grind
   .grind [sT,OA.kT,bM.bits]
   .grind [sT,OA.kT,bM.bits]
   .grind [sT,OA.kT,bM.bits]
   grind[OA.kT,bM.binOp]
  .rename_i cs es F G;split at h
   .grind [OA.kT,bM.structEq]
   grind
  grind
 .grind [OA.kT,bM.unOp]
 .grind [OA.kT,bM.extract,b9]
 .rename_i t y f q;split at h
  .rename_i k j I;split at h
   .rename_i l off r;cases h;exact OA.kT u (bM.sU hT q r I)
   .grind [OA.kT,bM.uQ]
   grind
  grind
 .grind [OA.kT,bM.field]
 .grind [OA.kT,bM.uR,bM.wZ]
 .grind [OA.kT,bM.build]
 .grind [OA.kT,bM.buildSlice]
 .grind [OA.kT,bM.makeFunc]
 .grind [OA.kT,bM.makeInterface]
 .grind [OA.kT,bM.typeAssert]
 grind
theorem R9(hT:cW P T){d:D}{obs:List Prop}(h:Yz T φ o=aa (d,obs))(e:az obs):bM P o (bU φ) σ d σ:=by
 unfold Yz at h;split at h
 .rename_i t x y u;split at h
  .rename_i i hi;split at h
   .rename_i E B;split at h
    .rename_i I H;split at h
     .rename_i l g k q m kk j r G;split at h
      .rename_i hk;cases h;obtain⟨F,C⟩:0<=j/\j<(m:Int):=e;grind[Nat.eq_of_beq_eq_true,bM.YC]
      grind
     .rename_i b off n cap kk j r G;cases h;obtain⟨F,C⟩:0<=j/\j<(n:Int):=e;grind[bM.Cp]
     grind
    grind
   grind
  grind
 .rename_i t x f u;split at h
  .rename_i k j J;split at h
   .rename_i l g V i q r;cases h;exact bM.Sa hT u r J
   .rename_i b off r;cases h;exact bM.Sb hT u r J
   grind
  grind
 .grind [bM.YD]
 .rename_i t x lo hi u;split at h
  .cases h
  rename_i i A;split at h
  .cases h
  rename_i W S;split at h
  .cases h
  grind[Nat.eq_of_beq_eq_true,bM.sliceB]
 .rename_i t x y z u;split at h
  .cases h
  rename_i i A;split at h
  .rename_i E B;split at h
   .cases h
   rename_i I H;split at h
   .rename_i tt k n es kj j Q m r G L;cases h;obtain⟨F,C,K⟩:0<=j/\j<=m/\m<=(n:Int):=e;exact bM.slice3 hT u A B H (λs v=>mV r σ s v) G L F C K
   grind
  grind
 .rename_i t x w y z u;split at h
  .cases h
  rename_i i A;split at h
  .rename_i E B;split at h
   .cases h
   rename_i I H;split at h
   .rename_i l g k q n U i kj j Q m r Z G L;cases h;obtain⟨F,C,K,Y⟩:0<=i/\i<=j/\j<=m/\m<=(n:Int):=e;grind[bM.slice3B]
   grind
  grind
 .rename_i c u;obtain⟨M,args,O⟩:=c;simp only at h;split at h
  .split at h
   .rename_i x t r R;split at h
    .rename_i i hi;split at h
     .rename_i E B;split at h
      .grind [wX,bM.YE]
      .rename_i a n cap hxx;cases h;have:=wX r;subst this;exact bM.YF hT u R hi B hxx e
      grind
     grind
    grind
   grind
  grind
 grind
theorem HX(hT:cW P T){t:aj}{x:aq}(c:o.op=.load t x){d:D}{obs:List Prop}(h:Ar T φ σ t x=aa (d,obs))(a:az obs):bM P o (bU φ) σ d σ:=by
 unfold Ar at h;split at h
 .rename_i m hi;split at h
  .rename_i l g k i f b;split at h
   .rename_i E k' n es hB;split at h
    .rename_i hk;have e:=bX hk;subst e;split at h
     .rename_i e j;cases h;exact bM.Vi hT c b a.1 (b9 hB) hi j a.2
     grind
    grind
   grind
  grind
 grind
theorem EB(hT:cW P T){t:aj}{x y:aq}(j:o.op=.store t x y){d:D}{σ':List aR}{obs:List Prop}(h:Ax T φ σ t x y=aa (d,σ',obs))(a:az obs):bM P o (bU φ) σ d σ':=by
 unfold Ax at h;split at h
 .rename_i s hi;split at h
  .rename_i l g k i f c;split at h
   .rename_i E k' n es hB;split at h
    .rename_i hk;have e:=bX hk;subst e;split at h
     .rename_i new hy;split at h
      .rename_i q;split at h
       .rename_i cc Qw;split at h
        .rename_i m;rw[dh,jq]at h;cases h;have b:f=0/\cc.length=k':=by
          cases f with
          |zero=>exact⟨rfl,bX m⟩
          |succ f=>simp[J8]at m
         obtain⟨rfl,b⟩:=b;exact bM.Kd hT j c a.1 (b9 hB) hi hy (bX q) Qw (λr=>sV (by grind)) a.2
        .split at h
         .rename_i ci YG;rw[dh,jq]at h;cases h;exact bM.Kd hT j c a.1 (b9 hB) hi hy (bX q) Qw (λ_=>YG) a.2
         grind
       grind
      grind
     grind
    grind
   grind
  grind
 grind
theorem Sc(hT:cW P T)(e:bL X CT){d:D}{obs:List Prop}(h:Oe T CT φ σ o=aa (d,obs))(b:az obs)(g:∀σ s a,cu N σ s φ a->bg o (yielded all.toArray a.tmps)=ab):OA X N all o φ σ d σ:=by
 unfold Oe at h;split at h
 .rename_i t y i;split at h
  .rename_i f c;cases h;unfold J0 at c;split at c
   .grind [OA.kT,bM.GD,b9,bM.Ke]
   grind
  grind[OA.kT,HX]
 grind[R7,OA.kT,R9]
theorem Sd(hT:cW P T)(i:bL X CT){d:D}{σ':List aR}{obs:List Prop}(h:YA T CT φ σ o=aa (d,σ',obs))(b:az obs)(j:∀σ s a,cu N σ s φ a->bg o (yielded all.toArray a.tmps)=ab):OA X N all o φ σ d σ':=by
 unfold YA at h;split at h
 .grind [OA.kT,EC]
 .grind [OA.kT,EC]
 .grind [OA.kT,EC,EB]
 .rename_i c g;obtain⟨f,args,e⟩:=c;grind[wY,OA.kT,Om,OA.call]
 grind
theorem Ov(hT:cW P T){w:Bool}{A:aq->D}{x y:aq}{t c:aj}{d:D}{σ':List aR}{obs:List Prop}(R:o.op=.call {callee:=.builtin .append,args:=#[x,y],argTypes:=#[t,c]})(h:appW w T A σ x y t c=aa (d,σ',obs))(b:az obs):bM P o A σ d σ':=by
 unfold appW at h;split at h
 .cases h
 rename_i i hi;split at h
 .cases h
 rename_i i2 NI;split at h
 case h_2=>cases h
 rename_i E I;split at h
 case h_2=>cases h
 rename_i E2 Vf;split at h
 .cases h
 rename_i f;have H:=bX f;subst H;split at h
 .cases h
 rename_i B r;split at h
 case h_2=>cases h
 rename_i q z;have a:lL P o x y E2 B:=⟨⟨t,c,i,i2,R,hT t i hi,I,hT c i2 NI,Vf⟩,hT _ _ r,by have:=db q;omega,by have:=db z;omega⟩
 split at h
 .split at h
  .cases h
  rename_i tx k' m es' hy;split at h
  .cases h
  rename_i u;have Q:=bX u;subst Q;split at h
  .rename_i k n es hx;split at h
   .rename_i M;have C:=bX M;subst C;rw[dh]at h;cases h;exact bM.HJ a hx (λs v=>mV hy _ s v) b
   grind
  grind
 .split at h
  .rename_i l g k i l' g' k' j m hx hy;split at h
   .cases h
   rename_i e;have el:=bX e;subst el;split at h
   .rename_i Y W n es hl;split at h
    .rename_i V q2 q3 q4;have L:=bX V;have J:=bX q2;have O:=bX q3;have U:=bX q4;rw[dh]at h;cases h;obtain⟨K,F,S,G⟩:=b;subst K F L J O U;have:=bM.JD (σ:=σ) a hx hy (b9 hl) S G;grind[jq]
    grind
   grind
  grind
theorem Se(hT:cW P T)(i:bL X CT){ds:List (Nat×Bool)}{d:D}{σ':List aR}{obs:List Prop}(h:U6 ds T CT φ σ o=aa (d,σ',obs))(b:az obs)(j:∀σ s a,cu N σ s φ a->bg o (yielded all.toArray a.tmps)=ab):OA X N all o φ σ d σ':=by
 have key:∀w,XK w T φ σ o=aa (d,σ',obs)->OA X N all o φ σ d σ':=by
  intro w h;unfold XK at h;split at h
  .rename_i c g;obtain⟨f,args,e⟩:=c;grind[wY,OA.kT,Ov]
  grind
 unfold U6 at h;grind[Sd]
def gL(hT:cW P T)(z:bL X CT){ds:List (Nat×Bool)}{d:D}{σ':Option (List aR)}{obs:List Prop}(h:wP T CT ds all φ σ o=aa (d,σ',obs))(g:az obs):OA X N all o φ σ d (σ'.getD σ):=by
 have go:(∀σ s a,cu N σ s φ a->bg o (yielded all.toArray a.tmps)=ab)->(match Oe T CT φ σ o with
  |some (x,obs)=>match J5 ds o.dst x obs with
   |some (y,k)=>oH y λy=>aa (y,af,k)
   |none=>af
  |none=>match Yp ds o.dst with
   |true=>match YB T φ o with
    |some (x,obs)=>oH x λx=>aa (x,af,obs)
    |none=>af
   |false=>match U6 ds T CT φ σ o with
    |some (x,σ',obs)=>oH x λx=>aa (x,aa σ',obs)
    |none=>af)=aa (d,σ',obs)->OA X N all o φ σ d (σ'.getD σ):=by
  intro A h;split at h
  .rename_i x l B;split at h
   .rename_i y q t;rw[nR]at h;cases h;obtain⟨rfl,C⟩:=Oj t g;grind[Sc]
   grind
  .split at h
   .split at h
    .rename_i x l n;rw[nR]at h;cases h;unfold YB at n;split at n
     .rename_i c w;obtain⟨u,args,r⟩:=c;grind[wY,Ol]
     grind
    grind
   grind[nR,Se]
 unfold wP at h;simp only at h;split at h
 .grind [dK]
 .rename_i j b i;split at h
  .rename_i m e;have v:∀σ s a,cu N σ s φ a->bg o (yielded all.toArray a.tmps)=(aa m==aa b):=λσ s a f=>by simp only[bg,i,qF e f]
   split at h
   .grind
   .grind
   .cases h;refine OA.pass (λσ s a f=>(v σ s a f).trans ?_);cases b<;>cases m<;>simp_all
  .rename_i e;cases h;exact OA.pass (λσ s a f=>by simp only[bg,i,qF e f];rfl)
  grind
end
def Jr(φ:Fr)(o:au):Bool:=match o.op with
 |.load _ x=>match bU φ x with
  |.e (.one (.c (.rp _)))=>ae
  |_=>ab
 |_=>ae
def JZ{T:List (Nat×TI)}{CT:List (Nat×dv)}{φ:Fr}{σ σ2:List aR}{o:au}(h:Jr φ o=ae):Oe T CT φ σ o=Oe T CT φ σ2 o:=by
 unfold Oe;split
 .rename_i t x a;simp only[Jr,a]at h;split at h
  .rename_i cs hx;simp only[J0,Ar,hx]
  grind
 .rfl
def J1{T:List (Nat×TI)}{CT:List (Nat×dv)}{ds:List (Nat×Bool)}{all:List au}{φ:Fr}{σ:List aR}{o:au}{d:D}{obs:List Prop}(h:Jr φ o=ae)(a:wP T CT ds all φ σ o=aa (d,af,obs))(σ2:List aR):
  wP T CT ds all φ σ2 o=aa (d,af,obs):=by
 unfold wP at a⊢;simp only at a⊢;rw[JZ (σ2:=σ) h];cases c:Oe T CT φ σ o with
 |some r=>grind
 |none =>
  simp only[c]at a⊢;cases b:Yp ds o.dst with
  |true=>grind
  |false =>
   simp only[b]at a⊢;have key:∀{y:Option (D×Option (List aR)×List Prop)},(match U6 ds T CT φ σ o with|some (x,σ',obs)=>oH x λx=>aa (x,aa σ',obs)|none=>af)=y->y≠aa (d,af,obs):=by grind[nR]
   split at a
   .grind
   grind
def pE(t:Nat):List au->Bool
 |[]=>ae
 |o::r=>match o.dst with
  |some d=>match aB d t with|true=>ab|false=>pE t r
  |none=>pE t r
theorem sL{t:Nat}:∀{l:List au}{i:Nat}{o:au},l[i]?=aa o->o.dst=aa t->pE t l=ab
 |[],_,_,h,_=>by grind
 |p::r,0,o,h,a=>by simp at h;subst h;simp[pE,a,ja]
 |p::r,i+1,o,h,a=>by have:=sL (l:=r) (by simpa using h) a;simp only[pE];grind
theorem qC{t:Nat}:∀{l:List au},pE t l=ab->∃(i:Nat)(o:au),l[i]?=aa o/\o.dst=aa t
 |[],h=>by cases h
 |p::r,h=>by
  simp only[pE]at h;split at h
  .rename_i d c;split at h
   .rename_i e;exact⟨0,p,rfl,by grind[Nat.eq_of_beq_eq_true]⟩
   .obtain⟨i,o,b,a⟩:=qC h;exact⟨i+1,o,by grind,a⟩
  .obtain⟨i,o,b,a⟩:=qC h;exact⟨i+1,o,by grind,a⟩
def mT:List au->Bool
 |[]=>ab
 |o::r=>match o.dst with
  |some d=>match pE d r with|true=>ae|false=>mT r
  |none=>mT r
theorem tV{t:Nat}:∀{l:List au}{i j:Nat}{o p:au},mT l=ab->l[i]?=aa o->l[j]?=aa p->o.dst=aa t->p.dst=aa t->i=j
 |[],_,_,_,_,_,h,_,_,_=>by grind
 |q::r,0,0,_,_,_,_,_,_,_=>rfl
 |q::r,0,j+1,o,p,a,b,c,d1,d2=>by simp at b;subst b;simp only[mT,d1]at a;grind[sL]
 |q::r,i+1,0,o,p,a,b,c,d1,d2=>by simp at c;subst c;simp only[mT,d2]at a;grind[sL]
 |q::r,i+1,j+1,o,p,a,b,c,d1,d2=>by
  have:mT r=ab:=by simp only[mT]at a;grind
  have f:r[i]?=aa o:=by grind
  have d:r[j]?=aa p:=by grind
  have e:=tV this f d d1 d2;omega
def vm(all:List au):Fr->Fr
 |[]=>[]
 |(t,d)::r=>match pE t all with|true=>vm all r|false=>(t,d)::vm all r
def l5{all:List au}{t:Nat}:∀{φ:Fr},look (vm all φ) t=if pE t all=ab then .any else look φ t
 |[]=>by simp[vm,look]
 |(u,d)::r=>by
  simp only[vm];by_cases c:aB u t=ab
  .have e:=bX c;subst e;cases b:pE u all with
   |true=>simp only;rw[l5];grind
   |false=>simp[look]
  .have a:aB u t=ae:=by grind
   cases b:pE u all with
   |true=>simp only;rw[l5];simp[look,a]
   |false=>simp only[look,a,cond];rw[l5]
def bZ:List Edge->List Nat
 |[]=>[]
 |e::r=>match e.ground with
  |.textOnly _=>bZ r
  |.gcOnly _=>bZ r
  |_=>e.on::bZ r
theorem eX{j:Nat}:∀{l:List Edge},j∈bZ l↔∃e∈l,dr e=ab/\e.on=j
 |[]=>by simp[bZ]
 |e::r=>by
  have c:=eX (j:=j) (l:=r);have yes:bZ (e::r)=e.on::bZ r->dr e=ab->(j∈bZ (e::r)↔∃a∈e::r,dr a=ab/\a.on=j):=by grind
  have no:bZ (e::r)=bZ r->dr e=ae->(j∈bZ (e::r)↔∃a∈e::r,dr a=ab/\a.on=j):=by grind
  cases b:e.ground with
  |textOnly w=>exact no (by simp only[bZ,b]) (by unfold dr Region.binds;grind)
  |gcOnly w=>exact no (by simp only[bZ,b]) (by unfold dr Region.binds;grind)
  |_=>exact yes (by simp only[bZ,b]) (by unfold dr Region.binds;rw[b])
def wQ(i t:Nat):List au->Bool
 |[]=>ae
 |o::r=>match o.dst with
  |some d=>match aB d t with
   |true=>match iv i (bZ o.after.toList)with
    |true=>wQ i t r
    |false=>ab
   |false=>wQ i t r
  |none=>wQ i t r
def wR{i t:Nat}:∀{l:List au},wQ i t l=ae->∀(j:Nat)(o:au),l[j]?=aa o->o.dst=aa t->iv i (bZ o.after.toList)=ab
 |[],_,j,o,h,_=>by grind
 |p::r,h,0,o,b,a=>by simp at b;subst b;simp only[wQ,a,ja]at h;grind
 |p::r,h,j+1,o,b,a=>by
  have:wQ i t r=ae:=by simp only[wQ]at h;grind
  exact wR this j o (by grind) a
def pF(all:List au):Fr->List (Nat×D×Bool)
 |[]=>[]
 |(t,d)::r=>match pE t all with
  |true=>(t,d,ab)::pF all r
  |false=>(t,d,ae)::pF all r
def lf(i:Nat)(all:List au):List (Nat×D×Bool)->Fr
 |[]=>[]
 |(t,d,b)::r=>match b with
  |false=>(t,d)::lf i all r
  |true=>match wQ i t all with
   |true=>lf i all r
   |false=>(t,d)::lf i all r
def yX{i:Nat}{all:List au}{t:Nat}:∀{φ:Fr},look (lf i all (pF all φ)) t=if pE t all=ab/\wQ i t all=ab then .any else look φ t
 |[]=>by simp[pF,lf,look]
 |(u,d)::r=>by
  have f:=yX (i:=i) (all:=all) (t:=t) (φ:=r);have c:look ((u,d)::lf i all (pF all r)) t=if aB u t=ab then d else look (lf i all (pF all r)) t:=by simp only[look];cases aB u t<;>rfl
  have b:look ((u,d)::r) t=if aB u t=ab then d else look r t:=by simp only[look];cases aB u t<;>rfl
  cases a:pE u all with
  |false =>
   simp only[pF,a,lf];grind[Nat.eq_of_beq_eq_true]
  |true =>
   cases e:wQ i u all with
   |true =>
    simp only[pF,a,lf,e];grind[Nat.eq_of_beq_eq_true]
   |false =>
    simp only[pF,a,lf,e];grind[Nat.eq_of_beq_eq_true]
def jF(m:Nat->Bool):Nat->List (Option Nat×D)->Fr->Fr
 |_,[],φ=>φ
 |i,(d,x)::r,φ=>match m i with
  |true=>match d with
   |some t=>(t,x)::jF m (i+1) r φ
   |none=>jF m (i+1) r φ
  |false=>jF m (i+1) r φ
def nS{m:Nat->Bool}{φ:Fr}{t:Nat}:∀{l:List (Option Nat×D)}{i:Nat},(∃j x,l[j]?=aa (aa t,x)/\m (i+j)=ab/\look (jF m i l φ) t=x)∨look (jF m i l φ) t=look φ t
 |[],i=>.inr rfl
 |(d,x)::r,i=>by
  have f:=nS (m:=m) (φ:=φ) (t:=t) (l:=r) (i:=i+1);have step:look (jF m i ((d,x)::r) φ) t=look (jF m (i+1) r φ) t->((∃j b,((d,x)::r)[j]?=aa (aa t,b)/\m (i+j)=ab/\look (jF m i ((d,x)::r) φ) t=b)∨look (jF m i ((d,x)::r) φ) t=look φ t):=by
   intro e;rw[e];rcases f with⟨j,b,n,o,g⟩|h
   .exact .inl ⟨j+1,b,by grind,by grind,g⟩
   grind
  cases a:m i with
  |false=>exact step (by simp[jF,a])
  |true =>
   cases d with
   |none=>exact step (by simp[jF,a])
   |some u =>
    by_cases k:aB u t=ab
    .have e:=bX k;subst e;exact .inl ⟨0,x,rfl,by grind,by simp[jF,a,look]⟩
    .have c:aB u t=ae:=by grind
     exact step (by simp[jF,a,look,c])
structure Ef where
 i:Nat
 pre:List (Option Nat×D)
 σ:List aR
 cls:List (List Bool)
 As:List Bool
 Of:List Bool
 obs:List Prop
def Uw(i:Nat):List Nat->Bool
 |[]=>ab
 |k::r=>match Nat.blt k i with|true=>Uw i r|false=>ae
def Eu{i:Nat}:∀{l:List Nat},Uw i l=ab->∀k∈l,k<i
 |[],_,k,h=>by grind
 |x::r,h,k,hk=>by
  simp only[Uw]at h;cases a:Nat.blt x i with
  |false=>grind
  |true =>
   simp only[a]at h;rcases eB.1 hk with rfl|hk
   .exact db a
   .exact Eu h k hk
def bit:List Bool->Nat->Bool
 |[],_=>ae
 |b::_,0=>b
 |_::r,n+1=>bit r n
def yA:List Bool->List Bool->List Bool
 |[],b=>b
 |true::a,[]=>ab::a
 |false::a,[]=>ae::a
 |true::a,_::b=>ab::yA a b
 |false::a,ab::b=>ab::yA a b
 |false::a,ae::b=>ae::yA a b
def mU:∀{a b:List Bool}{j:Nat},bit (yA a b) j=(bit a j||bit b j)
 |[],b,j=>by simp[yA,bit]
 |true::a,[],j=>by simp[yA,bit]
 |false::a,[],j=>by simp[yA,bit]
 |true::a,c::b,0=>by simp[yA,bit]
 |true::a,c::b,j+1=>by simp only[yA,bit];exact mU
 |false::a,ab::b,0=>by simp[yA,bit]
 |false::a,ab::b,j+1=>by simp only[yA,bit];exact mU
 |false::a,ae::b,0=>by simp[yA,bit]
 |false::a,ae::b,j+1=>by simp only[yA,bit];exact mU
def tX:Nat->List Bool
 |0=>[ab]
 |n+1=>ae::tX n
theorem sM:∀{n j:Nat},bit (tX n) j=decide (n=j)
 |0,0=>rfl
 |0,j+1=>by simp[tX,bit]
 |n+1,0=>by simp[tX,bit]
 |n+1,j+1=>by simp only[tX,bit,sM];simp
def Gx(a:List (List Bool)):List Nat->List Bool
 |[]=>[]
 |e::r=>match dC e a with
  |some c=>yA (yA c (tX e)) (Gx a r)
  |none=>yA (tX e) (Gx a r)
theorem Au{b:List (List Bool)}{j:Nat}:∀{l:List Nat},bit (Gx b l) j=ab->∃e∈l,e=j∨∃c,b[e]?=aa c/\bit c j=ab
 |[],h=>by simp[Gx,bit]at h
 |e::r,h=>by
  simp only[Gx,fC]at h;have two:∀{a:Nat},bit (tX e) a=ab->e=a:=by grind[sM]
  have rest:bit (Gx b r) j=ab->∃d∈e::r,d=j∨∃c,b[d]?=aa c/\bit c j=ab:=by intro h;obtain⟨d,f,g⟩:=Au h;grind
  split at h
  .rename_i c i;rw[mU,mU,jU,jU]at h;grind
  .rw[mU,jU]at h;grind
def tY:List Bool->List Bool->Bool
 |[],_=>ab
 |true::a,ab::b=>tY a b
 |true::_,_=>ae
 |false::a,_::b=>tY a b
 |false::a,[]=>tY a []
theorem qD:∀{a b:List Bool}{j:Nat},tY a b=ab->bit a j=ab->bit b j=ab
 |[],b,j,_,d=>by simp[bit]at d
 |true::a,ab::b,0,_,_=>rfl
 |true::a,ab::b,j+1,h,d=>by simp only[bit]at d⊢;exact qD (by simpa[tY]using h) d
 |true::a,ae::b,j,h,_=>by simp[tY]at h
 |true::a,[],j,h,_=>by simp[tY]at h
 |false::a,c::b,0,_,d=>by simp[bit]at d
 |false::a,c::b,j+1,h,d=>by simp only[bit]at d⊢;exact qD (by simpa[tY]using h) d
 |false::a,[],0,_,d=>by simp[bit]at d
 |false::a,[],j+1,h,d=>by simp only[bit]at d;have:=qD (j:=j) (by simpa[tY]using h) d;simp[bit]at this
def sO(T:List (Nat×TI))(CT:List (Nat×dv))(N:Nat)(ds:List (Nat×Bool))(all:List au)(φm:List (Nat×D×Bool))(st:Ef)(o:au):Option Ef :=
 match gg N o.dst with
 |false=>af
 |true =>
  dD (bZ o.after.toList) λes =>
  match Uw st.i es with
  |false=>af
  |true=>match wP T CT ds all (jF (λj=>iv j es) 0 st.pre (lf st.i all φm)) st.σ o with
   |none=>af
   |some (x,σ',obs) =>
    dD (Gx st.cls es) λcl =>
    match σ',Jr (jF (λj=>iv j es) 0 st.pre (lf st.i all φm)) o with
    |none,ae=>dD (st.pre++[(o.dst,x)]) λpre=>dD (st.cls++[cl]) λcls=>dD (la obs st.obs) λobs=>aa ⟨st.i+1,pre,st.σ,cls,st.As,st.Of,obs⟩
    |none,ab=>match tY st.As cl with
     |true=>dD (st.pre++[(o.dst,x)]) λpre=>dD (st.cls++[cl]) λcls=>dD (la obs st.obs) λobs=>dD (yA st.Of (tX st.i)) λa=>aa ⟨st.i+1,pre,st.σ,cls,st.As,a,obs⟩
     |false=>af
    |some σ',_=>match tY st.Of cl with
     |true=>dD (st.pre++[(o.dst,x)]) λpre=>dD (st.cls++[cl]) λcls=>dD (la obs st.obs) λobs=>dD (yA st.Of (tX st.i)) λa=>dD (yA st.As (tX st.i)) λb=>aa ⟨st.i+1,pre,σ',cls,b,a,obs⟩
     |false=>af
def Og(T:List (Nat×TI))(CT:List (Nat×dv))(N:Nat)(ds:List (Nat×Bool))(all:List au)(φm:List (Nat×D×Bool)):List au->Ef->Option Ef
 |[],st=>aa st
 |o::r,st=>match sO T CT N ds all φm st o with
  |some qW=>Og T CT N ds all φm r qW
  |none=>af
def Gy(T:List (Nat×TI))(CT:List (Nat×dv))(N:Nat)(ds:List (Nat×Bool))(all:List au)(φ:Fr)(σ:List aR):Option (Fr×List aR×List Prop) :=
 match mT all with
 |false=>af
 |true=>dD (pF all φ) λφm=>match Og T CT N ds all φm all ⟨0,[],σ,[],[],[],[]⟩with
  |some st=>dD (jF (λ_=>ab) 0 st.pre (vm all φ)) λφ'=>aa (φ',st.σ,st.obs)
  |none=>af
def jN:au:=⟨af,.move (.tmp 0),0,"",#[],af⟩
section
variable (T:List (Nat×TI))(CT:List (Nat×dv))(N:Nat)(ds:List (Nat×Bool))(all:List au)(φm:List (Nat×D×Bool))
def yB(st:Ef):Nat->Ef
 |0=>st
 |i+1=>(sO T CT N ds all φm (yB st i) (all.getD i jN)).getD (yB st i)
def QB(st:Ef)(i:Nat):Fr:=jF (λj=>iv j (bZ (all.getD i jN).after.toList)) 0 (yB T CT N ds all φm st i).pre (lf (yB T CT N ds all φm st i).i all φm)
def Gz(st:Ef)(i:Nat):Option (D×Option (List aR)×List Prop):=wP T CT ds all (QB T CT N ds all φm st i) (yB T CT N ds all φm st i).σ (all.getD i jN)
def xD(st:Ef)(i:Nat):D:=match Gz T CT N ds all φm st i with|some (x,_,_)=>x|none=>.any
def pf(st:Ef)(i:Nat):Bool:=match Gz T CT N ds all φm st i with|some (_,aa _,_)=>ab|_=>ae
def uP(st:Ef)(i:Nat):Bool:=!Jr (QB T CT N ds all φm st i) (all.getD i jN)&&!pf T CT N ds all φm st i
def QC(st:Ef)(i:Nat):List Bool:=Gx (yB T CT N ds all φm st i).cls (bZ (all.getD i jN).after.toList)
end
section
variable {T:List (Nat×TI)}{CT:List (Nat×dv)}{N:Nat}{ds:List (Nat×Bool)}{all:List au}{φm:List (Nat×D×Bool)}
structure J2(T:List (Nat×TI))(CT:List (Nat×dv))(N:Nat)(ds:List (Nat×Bool))(all:List au)(φm:List (Nat×D×Bool))(st qW:Ef)(o:au)(x:D)(σ':Option (List aR))(obs:List Prop):Prop where
 dst:gg N o.dst=ab
 lt:Uw st.i (bZ o.after.toList)=ab
 op:wP T CT ds all (jF (λj=>iv j (bZ o.after.toList)) 0 st.pre (lf st.i all φm)) st.σ o=aa (x,σ',obs)
 i:qW.i=st.i+1
 pre:qW.pre=st.pre++[(o.dst,x)]
 cls:qW.cls=st.cls++[Gx st.cls (bZ o.after.toList)]
 σ:qW.σ=σ'.getD st.σ
 obs:qW.obs=la obs st.obs
 eff:qW.As=if σ'.isSome=ab then yA st.As (tX st.i)else st.As
 nf:qW.Of=if(Jr (jF (λj=>iv j (bZ o.after.toList)) 0 st.pre (lf st.i all φm)) o||σ'.isSome)=ab then yA st.Of (tX st.i)else st.Of
 load:Jr (jF (λj=>iv j (bZ o.after.toList)) 0 st.pre (lf st.i all φm)) o=ab->σ'.isSome=ae->tY st.As (Gx st.cls (bZ o.after.toList))=ab
 jM:σ'.isSome=ab->tY st.Of (Gx st.cls (bZ o.after.toList))=ab
def Cm{st qW:Ef}{o:au}(h:sO T CT N ds all φm st o=aa qW):∃x σ' obs,J2 T CT N ds all φm st qW o x σ' obs:=by
 unfold sO at h;split at h
 .cases h
 rename_i b;simp only[dh]at h;split at h
 .cases h
 rename_i a;split at h
 .cases h
 rename_i x σ' obs mP;refine⟨x,σ',obs,?_⟩;cases σ' with
 |none =>
  cases d:Jr (jF (λj=>iv j (bZ o.after.toList)) 0 st.pre (lf st.i all φm)) o with
  |false =>
   simp only[d,dh]at h;cases h;exact⟨b,a,mP,rfl,rfl,rfl,rfl,rfl,by simp,by grind,by grind,by simp⟩
  |true =>
   simp only[d,dh]at h;split at h
   .rename_i c;cases h;exact⟨b,a,mP,rfl,rfl,rfl,rfl,rfl,by simp,by grind,λ_ _=>c,by simp⟩
   grind
 |some σ' =>
  simp only[dh]at h;split at h
  .rename_i c;cases h;exact⟨b,a,mP,rfl,rfl,rfl,rfl,rfl,by simp,by simp,by simp,λ_=>c⟩
  grind
def GA{st sf:Ef}:∀{rest:List au}{k:Nat},(∀i,rest[i]?=all[k+i]?)->Og T CT N ds all φm rest (yB T CT N ds all φm st k)=aa sf ->
  (∀i o,rest[i]?=aa o->sO T CT N ds all φm (yB T CT N ds all φm st (k+i)) o=aa (yB T CT N ds all φm st (k+i+1)))/\yB T CT N ds all φm st (k+rest.length)=sf
 |[],k,_,h=>by cases h;grind
 |p::r,k,c,h=>by
  simp only[Og]at h;have d:all[k]?=aa p:=by have:=c 0;grind
  split at h
  .rename_i b a;have e:yB T CT N ds all φm st (k+1)=b:=by simp only[yB,ak,d,ij,a]
   rw[<-e]at h;obtain⟨f,g⟩:=GA (rest:=r) (k:=k+1) (λi=>by have:=c (i+1);grind) h;grind
  grind
theorem J3{j:Nat}:∀{l:List Nat},iv j l=ab->j∈l:=by
 intro l;induction l with
 |nil=>intro h;cases h
 |cons a r b =>
  intro h;simp only[iv]at h;grind[Nat.eq_of_beq_eq_true]
def J4{P:ar}{X:Cx P}(hf:P.follows Departure.mixedOrders=ab)(hT:cW P T)(hC:bL X CT){ops:Array au}{φ φ':Fr}{σ σ':List aR}{obs:List Prop}(h:Gy T CT N ds ops.toList φ σ=aa (φ',σ',obs))(acV:az obs){Q:Post}(hQ:Q .normal φ' σ')(id:Nat):
  AW X N (.region id ops ab) Q φ σ:=by
 unfold Gy at h;split at h
 .cases h
 rename_i U7;rw[dh]at h;split at h
 case h_2=>cases h
 rename_i sf wS;rw[dh]at h;cases h;generalize RZ:ops.toList=all at *;generalize Yq:pF all φ=φm at *;have K:∀i:Nat,ops[i]?=all[i]?:=λi=>by grind
 have B5:ops.size=all.length:=by grind
 let g:Ef:=⟨0,[],σ,[],[],[],[]⟩
 obtain⟨M,O⟩:=GA (T:=T) (CT:=CT) (N:=N) (ds:=ds) (φm:=φm) (st:=g) (rest:=all) (k:=0) (λi=>by simp) wS;simp only[bF]at M O;let F:=yB T CT N ds all φm g;have r:∀i o,all[i]?=aa o->all.getD i jN=o:=λi o h=>by grind
 have efr:∀i o,all[i]?=aa o->QB T CT N ds all φm g i=(jF (λj=>iv j (bZ (o).after.toList)) 0 (F i).pre (lf (F i).i all φm)):=λi o h=>by unfold QB;grind
 have facts:∀i o,all[i]?=aa o->∃E,J2 T CT N ds all φm (F i) (F (i+1)) o (xD T CT N ds all φm g i) (if pf T CT N ds all φm g i=ab then aa (F (i+1)).σ else af) E:=by
  intro i o q;obtain⟨x,σ1,E,n⟩:=Cm (M i o q);have A:=n.op;have hR:Gz T CT N ds all φm g i=aa (x,σ1,E):=by unfold Gz QB;grind
  have hx:xD T CT N ds all φm g i=x:=by unfold xD;rw[hR]
  cases σ1 with
  |none =>
   have B:pf T CT N ds all φm g i=ae:=by unfold pf;rw[hR]
   grind
  |some σ2 =>
   have B:pf T CT N ds all φm g i=ab:=by unfold pf;rw[hR]
   have hσ2:(F (i+1)).σ=σ2:=n.σ;grind
 have R:∀i,i<=all.length->(F i).i=i:=by
  intro i;induction i with
  |zero=>intro _;rfl
  |succ i C =>
   intro hi;obtain⟨_,n⟩:=facts i _ (br (by omega));rw[n.i,C (by omega)]
 have U8:∀i,i<=all.length->∀j,(F i).pre[j]?=if j<i then(all[j]?).map (λo=>(o.dst,xD T CT N ds all φm g j))else af:=by
  intro i;induction i with
  |zero=>intro _ j;simp[F,yB,g]
  |succ i C =>
   intro hi j;obtain⟨_,n⟩:=facts i _ (br (by omega));have Z:(F i).pre.length=i:=by
    apply Nat.le_antisymm
    .grind
    grind
   rw[n.pre];grind
 have Yr:∀i,i<=all.length->∀j,(F i).cls[j]?=if j<i then aa (QC T CT N ds all φm g j)else af:=by
  intro i;induction i with
  |zero=>intro _ j;simp[F,yB,g]
  |succ i C =>
   intro hi j;obtain⟨_,n⟩:=facts i _ (br (by omega));have Z:(F i).cls.length=i:=by
    apply Nat.le_antisymm
    .apply Nat.le_of_not_lt;intro u;have:=C (by omega) i;grind
    grind
   rw[n.cls];by_cases Ys:j<i
   .grind
   .rw[gk (by omega)];by_cases e:j=i
    .subst e;rw[bl (by omega),Z,Nat.sub_self];simp only[kB,QC,r j _ (br (by omega:j<all.length))];rfl
    grind
 have acX:∀i,i<=all.length->∀j,bit (F i).As j=(decide (j<i)&&pf T CT N ds all φm g j):=by
  intro i;induction i with
  |zero=>intro _ j;simp[F,yB,g,bit]
  |succ i C =>
   intro hi j;obtain⟨_,n⟩:=facts i _ (br (by omega));rw[n.eff];cases B:pf T CT N ds all φm g i with
   |false =>
    grind
   |true =>
    simp only[cq,Option.isSome_some];rw[mU,C (by omega) j,sM,R i (by omega)];by_cases e:j=i
    .grind
    grind
 have nfI:∀i,i<=all.length->∀j,bit (F i).Of j=(decide (j<i)&&!uP T CT N ds all φm g j):=by
  intro i;induction i with
  |zero=>intro _ j;simp[F,yB,g,bit]
  |succ i C =>
   intro hi j;obtain⟨_,n⟩:=facts i _ (br (by omega));have U9:(if pf T CT N ds all φm g i=ab then aa (F (i+1)).σ else af).isSome=pf T CT N ds all φm g i:=by cases pf T CT N ds all φm g i<;>rfl
   have yW:uP T CT N ds all φm g i=!(Jr (jF (λj=>iv j (bZ (all[i]'(by omega)).after.toList)) 0 (F i).pre (lf (F i).i all φm)) (all[i]'(by omega))||pf T CT N ds all φm g i):=by unfold uP;rw[efr i _ (br (by omega)),r i _ (br (by omega))];simp
   rw[n.nf,U9];cases B:(Jr (jF (λj=>iv j (bZ (all[i]'(by omega)).after.toList)) 0 (F i).pre (lf (F i).i all φm)) (all[i]'(by omega))||pf T CT N ds all φm g i)with
   |false =>
    grind
   |true =>
    simp only[cq];rw[mU,C (by omega) j,sM,R i (by omega)];by_cases e:j=i
    .grind
    grind
 have Va:∀i,i<=all.length->az (F i).obs:=by
  have back:∀k i,i+k=all.length->az (F i).obs:=by
   intro k;induction k with
   |zero =>
    grind
   |succ k C =>
    intro i hi;obtain⟨_,n⟩:=facts i _ (br (by omega));have:=C (i+1) (by omega);rw[n.obs,az.cat]at this;exact this.2
  intro i hi;exact back (all.length-i) i (by omega)
 have oaI:∀i o,all[i]?=aa o->OA X N all o (QB T CT N ds all φm g i) (F i).σ (xD T CT N ds all φm g i) (F (i+1)).σ:=by intro i o q;have hi:i<all.length:=(b6.1 q).1;obtain⟨_,n⟩:=facts i o q;have NH:=Va (i+1) (by omega);rw[n.obs,az.cat]at NH;have:=gL (P:=P) (N:=N) hT hC n.op NH.1;rw[n.σ];grind
 let idx:Nat->Option Nat:=λt=>(bh all.length).find? (λi=>decide ((all.getD i jN).dst=aa t));have H:∀t j,idx t=aa j->∃o,all[j]?=aa o/\o.dst=aa t:=by grind
 have G:∀i o d,all[i]?=aa o->o.dst=aa d->idx d=aa i:=by
  intro i o d q hd;have hi:i<all.length:=(b6.1 q).1;cases hx:idx d with
  |none =>
   grind
  |some j =>
   grind[tV]
 have W:∀t,pE t all=ab↔∃j,idx t=aa j:=by grind[qC,sL]
 have Y:∀i o,all[i]?=aa o->∀e∈o.after,dr e=ab->e.on<i:=by intro i o q e B S;have hi:i<all.length:=(b6.1 q).1;obtain⟨_,n⟩:=facts i o q;have:=Eu n.lt e.on (eX.2 ⟨e,by grind,S,rfl⟩);grind
 have aaF:=Y;have hd:wN X N ops φ (λi=>(F i).σ) (xD T CT N ds all φm g) (QB T CT N ds all φm g) (uP T CT N ds all φm g) (λi=>decide (i<all.length)&&pf T CT N ds all φm g i) (λi j=>i<all.length/\bit (QC T CT N ds all φm g i) j=ab) idx (jF (λ_=>ab) 0 sf.pre (vm all φ)):=by
  refine⟨hf,?_,?_,?_,?_,?_,?_,?_,?_,?_,?_⟩
  .grind
  .intro i o d q hd;rw[K]at q;obtain⟨_,n⟩:=facts i o q;exact⟨G i o d q hd,gK n.dst d hd⟩
  .grind
  .intro i B;rcases cM i all.length with hi|hi
   .obtain⟨_,n⟩:=facts i _ (br hi);have:pf T CT N ds all φm g i=ae:=by grind
    have hσ:=n.σ;grind
   .have h0:all.getD i jN=jN:=by grind
    show(F (i+1)).σ=(F i).σ;have:sO T CT N ds all φm (F i) jN=af∨∃s',sO T CT N ds all φm (F i) jN=aa s':=by
     cases sO T CT N ds all φm (F i) jN with
     |none=>grind
     |some s'=>grind
    show((sO T CT N ds all φm (F i) (all.getD i jN)).getD (F i)).σ=(F i).σ;rw[h0];rcases this with h|⟨s',h⟩
    .grind
    .rw[h];obtain⟨x,σ1,ob,n⟩:=Cm h;have A:=n.op;have:σ1=af:=by unfold wP at A;simp only[jN,Oe,XG,J5,nR]at A;grind
     rw[ij,n.σ,this];rfl
  .grind
  .intro i o q GC;rw[K]at q;have hi:i<all.length:=(b6.1 q).1;have p:Jr (jF (λj=>iv j (bZ (o).after.toList)) 0 (F i).pre (lf (F i).i all φm)) o=ae/\pf T CT N ds all φm g i=ae:=by unfold uP at GC;grind
   refine⟨by grind,λk=>?_⟩;obtain⟨ob,n⟩:=facts i o q;have A:=n.op;rw[p.2]at A;have Yt:=J1 p.1 (by simpa using A) (F k).σ;have NH:=Va (i+1) (by omega);rw[n.obs,az.cat]at NH;have:=gL (P:=P) (N:=N) hT hC Yt NH.1;grind
  .intro L hL i j ⟨hi,S⟩;have fA:∀i,i<all.length->L i->∀e,e∈bZ (all.getD i jN).after.toList->L e:=by intro i hi hLi e B;rw[r i _ (br hi)]at B;obtain⟨e',V,h2,rfl⟩:=eX.1 B;grind
   have key:∀i,i<all.length->∀j,bit (QC T CT N ds all φm g i) j=ab->(∀e∈bZ (all.getD i jN).after.toList,L e)->L j:=by
    intro i;induction i using Nat.strongRecOn with
    |_ i C =>
     intro hi j S Yu;obtain⟨e,B,h⟩:=Au S;have u:e<i:=by have Vb:=B;rw[r i _ (br hi)]at Vb;obtain⟨e',V,h2,rfl⟩:=eX.1 Vb;grind
     rcases h with rfl|⟨c,hc,HM⟩
     .grind
     .have:=Yr i (by omega) e;rw[bl u]at this;have Ya:(F i).cls[e]?=aa c:=hc;rw[Ya]at this;cases this;exact C e u (by omega) j HM (fA e (by omega) (Yu e B))
   refine⟨λhLi=>key i hi j S (fA i hi hLi),all[i],by grind,λRX=>key i hi j S ?_⟩;grind[List.getElem?_eq_getElem,eX]
  .intro i f hi Uv B B6 hnf;rw[B5]at hi Uv;have Vb:pf T CT N ds all φm g f=ab:=by grind
   rcases cM f i with u|Ux
   .refine .inl ⟨u,hi,?_⟩;obtain⟨_,n⟩:=facts i _ (br hi);have NC:QC T CT N ds all φm g i=Gx (F i).cls (bZ (all[i]).after.toList):=by unfold QC;grind
    rw[NC];cases hei:pf T CT N ds all φm g i with
    |true =>
     have V:=n.jM (by grind);refine qD V ?_;rw[nfI i (by omega) f];have:uP T CT N ds all φm g f=ae:=by unfold uP;grind
     grind
    |false =>
     have XH:Jr (jF (λj=>iv j (bZ (all[i]).after.toList)) 0 (F i).pre (lf (F i).i all φm)) all[i]=ab:=by unfold uP at hnf;rw[efr i _ (br hi),r i _ (br hi),hei]at hnf;grind
     have V:=n.load XH (by grind);grind[qD]
   .have u:i<f:=by omega
    refine .inr ⟨u,Uv,?_⟩;obtain⟨_,n⟩:=facts f _ (br Uv);have NC:QC T CT N ds all φm g f=Gx (F f).cls (bZ (all[f]).after.toList):=by unfold QC;grind
    rw[NC];have V:=n.jM (by grind);grind[qD]
  .intro i o q t σ s v U;rw[K]at q;have hi:i<all.length:=(b6.1 q).1;unfold QB;rw[r i o q];rcases nS (m:=λj=>iv j (bZ o.after.toList)) (φ:=lf (F i).i all φm) (t:=t) (l:=(F i).pre) (i:=0)with⟨j,x,V,h2,h3⟩|h3
   .have Yv:look (jF (λj=>iv j (bZ o.after.toList)) 0 (yB T CT N ds all φm g i).pre (lf (yB T CT N ds all φm g i).i all φm)) t=x:=h3;rw[Yv];have hp:=U8 i (by omega) j;rw[V]at hp;have Ys:j<i:=by grind
    rw[bl Ys,br (by omega:j<all.length)]at hp;simp only[lS,dw,l9]at hp;obtain⟨Yw,hp2⟩:=hp;have y:=G j _ t (br (by omega:j<all.length)) Yw.symm;rw[y]at U;simp only at U;rw[bl]at U
    .grind
    .have Yx:j∈bZ o.after.toList:=by simp only[bF]at h2;exact J3 h2
     obtain⟨e,a,b,c⟩:=eX.1 Yx;grind
   .have Yv:look (jF (λj=>iv j (bZ o.after.toList)) 0 (yB T CT N ds all φm g i).pre (lf (yB T CT N ds all φm g i).i all φm)) t=look (lf (F i).i all φm) t:=h3;rw[Yv,R i (by omega),<-Yq,yX];split
    .trivial
    .rename_i hno;cases y:idx t with
     |some j =>
      have hD:=(W t).2 ⟨j,y⟩;have hN:wQ i t all=ae:=by grind
      obtain⟨oj,Ym,Yn⟩:=H t j y;have hm:=J3 (wR hN j oj Ym Yn);obtain⟨e,B,S,heq⟩:=eX.1 hm;rw[y]at U;simp only at U;split at U
      ·
       rename_i hex;obtain⟨e2,Xv,hb2,ac1⟩:=hex;grind
      .rw[bl ⟨oj,by grind,e,by grind,S,heq⟩]at U;exact U
     |none=>grind
  .intro t σ s v U;have hF:F all.length=sf:=O;rcases nS (m:=λ_=>ab) (φ:=vm all φ) (t:=t) (l:=sf.pre) (i:=0)with⟨j,x,V,_,h3⟩|h3
   .rw[h3];have hp:=U8 all.length (bc _) j;rw[hF,V]at hp;have Ys:j<all.length:=by grind
    grind
   .rw[h3,l5];split
    .trivial
    grind
 intro s a yW hh b kk cs SS S hQQ;have NB:F ops.size=sf:=by grind
 refine .next rfl λz I=>?_;have I:=X.iH I;have J:=hh.rely I;have Yy:=yW.rely I hh;have R0:Step σ z σ {z with w:={z.w with drawn:=z.w.drawn+1}}:=Step.same rfl rfl rfl rfl;have ND:aF σ {z with w:={z.w with drawn:=z.w.drawn+1}}:=J.same rfl;have stW:=I.stepW.trans (R0.nF J);refine⟨_,{z with w:={z.w with drawn:=z.w.drawn+1}},#[],mb,⟨⟨σ,σ,J,ND,R0⟩,.nil⟩,?_⟩;simp only[Region.schedule,hf,Bool.true_or,cq];refine hd.arr S (s0:={z with w:={z.w with drawn:=z.w.drawn+1}}) (λs2 a2 f2 h2 mR=>?_) ops.size _ (by simp) ?_ ?_ 0 _ a (by omega) ?_ ?_ ND (.refl _ _) _
 .simp only[NB]at f2 h2 mR;exact hQQ .normal _ _ s2 a2 hQ f2 h2 (stW.trans mR)
 .simp
 .intro i o q hi;simp[dZ,ni]at hi;split at hi<;>simp at hi
 .intro f Uv XF;simp[dZ,ni];split<;>simp
 .have p:=Yy.mono (R0.nF J) J.len;refine⟨p.size,p.defers,λt=>?_⟩;unfold gz;cases y:idx t with
  |none=>exact p.slot t
  |some j =>
   simp only;rw[aY]
   .exact p.slot t
   .simp[dZ,ni];split<;>simp
end
section
variable {P:ar}{X:Cx P}{N:Nat}{Qf:Post}{K:List It}{φ:Fr}{σ:List aR}
theorem AK.draw{T:List (Nat×TI)}{CT:List (Nat×dv)}(b:P.follows Departure.mixedOrders=ab)(hT:cW P T)(hC:bL X CT){ds:List (Nat×Bool)}{ops:Array au}{φ':Fr}{σ':List aR}{obs:List Prop}{id:Nat}(h:Gy T CT N ds ops.toList φ σ=aa (φ',σ',obs))(a:az obs)(k:AK X N Qf K .normal φ' σ'):AK X N Qf (.code (.region id ops ab)::K) .normal φ σ :=
 J4 b hT hC h a k id
end
def wL(T:List (Nat×TI))(CT:List (Nat×dv))(ds:List (Nat×Bool))(N:Nat)(K:List It)(φ:Fr)(σ:List aR):Option (List It×Fr×List aR×List Prop) :=
 match K with
 |[]=>af
 |.blk _::K=>aa (K,φ,σ,[])
 |.ops _ []::K=>aa (K,φ,σ,[])
 |.ops all (o::rest)::K=>match gg N o.dst with
  |true=>match wP T CT ds all φ σ o with
   |some (x,af,obs)=>dD (kH o.dst x φ) λφ=>aa (.ops all rest::K,φ,σ,obs)
   |some (x,aa σ',obs)=>dD (kH o.dst x φ) λφ=>aa (.ops all rest::K,φ,σ',obs)
   |none=>af
  |false=>af
 |.code c::K=>match c with
  |.skip=>aa (K,φ,σ,[])
  |.seq x y=>aa (.code x::.code y::K,φ,σ,[])
  |.block id c=>aa (.code c::.blk id::K,φ,σ,[])
  |.region id ops d=>match Co ds (id+1000000)with
   |some _=>af
   |none=>match d with
    |false=>aa (.ops ops.toList ops.toList::K,φ,σ,[])
    |true=>match Gy T CT N ds ops.toList φ σ with
     |some (φ',σ',obs)=>aa (K,φ',σ',obs)
     |none=>af
  |.exit id=>match j9 id K with
   |some K'=>aa (K',φ,σ,[])
   |none=>af
  |.cond (.tmp t) x y=>match look φ t with
   |.e (.one (.c (.bool ab)))=>aa (.code x::K,φ,σ,[])
   |.e (.one (.c (.bool ae)))=>aa (.code y::K,φ,σ,[])
   |_=>af
  |_=>af
theorem KV{P:ar}{X:Cx P}(j:P.follows Departure.mixedOrders=ab){T:List (Nat×TI)}(hT:cW P T){CT:List (Nat×dv)}(e:bL X CT){ds:List (Nat×Bool)}{N:Nat}{Qf:Post}{K f:List It}{φ φ':Fr}{σ σ':List aR}{obs:List Prop}(h:wL T CT ds N K φ σ=aa (f,φ',σ',obs))(d:az obs)(k:AK X N Qf f .normal φ' σ'):AK X N Qf K .normal φ σ:=by
 unfold wL at h;split at h
 .cases h
 .grind [AK.SH]
 .grind [AK.KU]
 .rename_i all o rest K0;cases g:gg N o.dst with
  |false=>grind
  |true =>
   simp only[g]at h;have i:=gK g;split at h
   .rename_i x a b;rw[dh]at h;cases h;exact iw.AI (gL hT e b d) i k
   .rename_i x σ1 a b;rw[dh]at h;cases h;exact iw.AI (gL hT e b d) i k
   grind
 .rename_i c K0;split at h
  .grind [AK.skip]
  .grind [AK.seq]
  .grind [AK.block]
  .grind [AK.region,AK.draw]
  .grind [AK.exit]
  .grind [AK.cond]
  grind
def ln(T:List (Nat×TI))(CT:List (Nat×dv))(ds:List (Nat×Bool))(N:Nat):Nat->List It->Fr->List aR->List Prop->Option (List It×Fr×List aR×List Prop)
 |0,K,φ,σ,obs=>dD obs λobs=>aa (K,φ,σ,obs)
 |n+1,K,φ,σ,obs=>match wL T CT ds N K φ σ with
  |some (a,φ',σ',o)=>ln T CT ds N n a φ' σ' (la o obs)
  |none=>dD obs λobs=>aa (K,φ,σ,obs)
def G1{P:ar}{X:Cx P}(d:P.follows Departure.mixedOrders=ab){T:List (Nat×TI)}(hT:cW P T){CT:List (Nat×dv)}(e:bL X CT){ds:List (Nat×Bool)}{N:Nat}{Qf:Post}:∀{n:Nat}{K a:List It}{φ φ':Fr}{σ σ':List aR}{obs EA:List Prop},
  ln T CT ds N n K φ σ obs=aa (a,φ',σ',EA)->az EA->AK X N Qf a .normal φ' σ'->AK X N Qf K .normal φ σ/\az obs
 |0,K,a,φ,φ',σ,σ',obs,EA,h,b,k=>by simp only[ln,dh]at h;grind
 |n+1,K,a,φ,φ',σ,σ',obs,EA,h,b,k=>by
  simp only[ln]at h;cases c:wL T CT ds N K φ σ with
  |none =>
   grind[dh]
  |some r =>
   obtain⟨j,f,σ1,g⟩:=r;simp only[c]at h;obtain⟨i,l⟩:=G1 d hT e h b k;grind[az.cat,KV]
def AK.ln{P:ar}{X:Cx P}(c:P.follows Departure.mixedOrders=ab){T:List (Nat×TI)}(hT:cW P T){CT:List (Nat×dv)}(hC:bL X CT)(ds:List (Nat×Bool)){N:Nat}{Qf:Post}(n:Nat){K b:List It}{φ φ':Fr}{σ σ':List aR}{a:List Prop}(h:AM.ln T CT ds N n K φ σ []=aa (b,φ',σ',a))(d:az a)(k:AK X N Qf b .normal φ' σ'):AK X N Qf K .normal φ σ:=(G1 c hT hC h d k).1
section
variable {P:ar}{X:Cx P}{N:Nat}{Qf:Post}{K:List It}{φ:Fr}{σ:List aR}
def Ap(rs:List ResultVar)(ks:List Nat)(φ:Fr)(res:D):Option (List Prop) :=
 match yy φ rs with
 |some ds=>match sG ds with
  |some d=>match wD ks.length res with
   |true=>Ee d (iu ks res)
   |false=>af
  |none=>af
 |none=>af
def AK.dk{fn:Func}{a:Nat}{res:D}{σ':List aR}(ks:List Nat){ps:List Prop}(h:Ap fn.results.toList ks φ res=aa ps)(d:az ps)(c:j3 ks σ=aa σ')(b:kJ σ'=ab)(e:dH ks=ab)(hk:∀j,j<a->ks[j]?=aa j):
  AK X N (cw fn a res σ') (.code .ret::K) .normal φ σ:=by refine AK.ret ⟨.inl rfl,ks,?_⟩;unfold Ap at h;grind
def AK.bz{fn:Func}{res:D}{ps:List Prop}(h:Ap fn.results.toList [] φ res=aa ps)(a:az ps:=by simp):AK X N (cw fn 0 res []) (.code .ret::K) .normal φ σ :=
 AK.dk [] h a rfl rfl rfl (λj h=>by omega)
def cw.zero{fn:Func}{res:D}{ps:List Prop}(h:Ap fn.results.toList [] φ res=aa ps)(c:az ps:=by simp):cw fn 0 res [] .ret φ σ:=by
 refine⟨.inl rfl,[],?_⟩;unfold Ap at h;split at h
 .rename_i ds Y8;split at h
  .rename_i d b;split at h
   .rename_i a;exact⟨ds,d,ps,Y8,b,h,c,a,rfl,rfl,rfl,λj h=>by omega⟩
   grind
  grind
 grind
def AK.leave{id:Nat}{φ:Fr}{σ:List aR}{A:Fr->List aR->Prop}{Qr:Post}{K g f:List It}(h1:j9 id K=af)(h2:j9 id g=aa f)(k:AK X N Qr f .normal φ σ):
  AK X N (λe φ' σ'=>match e with
   |.normal=>A φ' σ'
   |e=>AK X N Qr g e φ' σ') (.code (.exit id)::K) .normal φ σ:=by
 have key:∀{K:List It},j9 id K=af->∀{Q:Post},Q (.exit id) φ σ->AK X N Q K (.exit id) φ σ:=by
  intro K;induction K with
  |nil=>intro _ Q h;exact h
  |cons i r l =>
   intro hk Q h;cases i with
   |code c=>exact l (by simpa[j9]using hk) h
   |ops a b=>exact l (by simpa[j9]using hk) h
   |blk j =>
    simp only[j9]at hk;cases m:aB id j with
    |true=>grind
    |false =>
     simp[m]at hk;have d:id≠j:=λe=>by grind[Nat.beq_refl]
     simp only[AK,d,ck];grind
 exact AW.exit (key h1 (AK.xd h2 k))
def AK.ir{φ:Fr}{σ:List aR}{A:Fr->List aR->Prop}{Qr:Post}{K a:List It}(k:Qr .ret φ σ):
  AK X N (λe φ' σ'=>match e with
   |.normal=>A φ' σ'
   |e=>AK X N Qr a e φ' σ') (.code .ret::K) .normal φ σ:=AK.ret (AK.sZ (Qf:=Qr) k)
def AK.again{S:Type}{I:S->Prop}{fr:S->Fr}{st:S->List aR}{a:S->Nat}{x:S}{Qr:Post}(y:S){ps:List Prop}(b:nV φ (fr y)=aa ps)(f:az ps)(g:I y)(d:a y<a x)(c:σ=st y):
  AK X N (λe φ' σ'=>match e with
   |.normal=>∃y,I y/\a y<a x/\oB φ' (fr y)/\σ'=st y
   |e=>Qr e φ' σ') [] .normal φ σ:=⟨y,g,d,cD b f,c⟩
def AK.xe{S:Type}{c:Code}(I:S->Prop)(fr:S->Fr)(st:S->List aR)(b:S->Nat)(x:S){ps:List Prop}(a:nV φ (fr x)=aa ps)(f:az ps)(g:I x)(d:st x=σ)(round:∀x,I x->AK X N (λe φ' σ'=>match e with
   |.normal=>∃y,I y/\b y<b x/\oB φ' (fr y)/\σ'=st y
   |e=>AK X N Qf K e φ' σ') [.code c] .normal (fr x) (st x)):AK X N Qf (.code (.loop c)::K) .normal φ σ :=
 AK.loop I fr st b x g (cD a f) d round
def Fits(args:List D)(σ:List aR):Prop:=∃s vs,cp σ s vs args/\aF σ s
def Fits.at{args:List D}{σ:List aR}(h:Fits args σ){j:Nat}{d:D}(hj:args[j]?=aa d):∃s v,dt σ s v d:=by obtain⟨s,vs,a,_⟩:=h;obtain⟨_,b⟩:=cp.get a;grind
def Fits.str{args:List D}{σ:List aR}(h:Fits args σ)(j:Nat){l:List UInt8}(hj:args[j]?=aa (.e (.one (.c (.str l))))):l.length<=9223372036854775807:=by
 obtain⟨s,v,a⟩:=h.at hj;cases e9 a with
 |str h hl=>exact hl
def Fits.sl{args:List D}{σ:List aR}(h:Fits args σ)(j:Nat){t:Bool}{k n:Nat}{es:Nat->List C}(hj:args[j]?=aa (.e (.one (.c (.sl t k n es))))):n<=9223372036854775807:=by
 obtain⟨s,v,d⟩:=h.at hj;cases e9 d with
 |sl b off f a g=>omega
def Ev.body{f:aJ}{fn:Func}{c:Code}{args:List D}{σ σ':List aR}{res:D}(d:P.funcs[f]?=aa fn)(a:(fn.name== "runtime.NumGoroutine")=ae)(e:fn.body=aa c)(b:bA args.length fn.ntmps=ab)(h:Fits args σ->AK X fn.ntmps (cw fn σ.length res σ') [.code c] .normal (ji 0 args) σ):Ev X f args σ res σ':=by refine⟨⟨fn,d,a,by grind⟩,λs vs hr hh=>?_⟩;exact(Ev.intro d a e (db b) (AK.of_code (h ⟨s,vs,hr,hh⟩))).2 s vs hr hh
def Ev.bQ{f:aJ}{fn:Func}{c:Code}{args:List D}{σ σ':List aR}{res:D}(b:P.funcs[f]?=aa fn)(a:(fn.name== "runtime.NumGoroutine",fn.body,bA args.length fn.ntmps)=(ae,aa c,ab))(h:Fits args σ->AK X fn.ntmps (cw fn σ.length res σ') [.code c] .normal (ji 0 args) σ):Ev X f args σ res σ':=by simp only[l9]at a;exact Ev.body b a.1 a.2.1 a.2.2 h
def AK.join{c:Code}{b:List It}(φ':Fr)(σ':List aR)(h:(∀(a:Fr)(ps:List Prop),nV a φ'=aa ps->az ps->AK X N Qf (.code c::b) .normal a σ')->AK X N Qf K .normal φ σ)(k:AK X N Qf (.code c::b) .normal φ' σ'):AK X N Qf K .normal φ σ :=
 h λ_ _ h1 h2=>AW.le k (cD h1 h2)
end
def EK(σ σ':List aR):Prop:=∀(s:St),aF σ s->aF σ' s/\Step σ s σ' s/\∀(v:ah)(d:D),dt σ s v d->dt σ' s v d
def Y9:aR->aR->Option (List Prop)
 |.vec E k n es,.vec E' k' n' es'=>match aB E E',aB k k' with
  |true,ab=>aa [n=n',cA n es es']
  |_,_=>af
 |.cells E cs,.cells E' nG=>match aB E E' with
  |true=>QU cs nG
  |false=>af
 |.dead,.dead=>aa []
 |.cm H,.cm H'=>aa [H=H']
 |.loop N φ r,.loop N' φ' r'=>aa [aR.loop N φ r=aR.loop N' φ' r']
 |.qY,.qY=>aa []
 |.buf E k n es,.buf E' k' n' es'=>match aB E E',aB k k' with
  |true,ab=>aa [n=n',cA n es es']
  |_,_=>af
 |_,_=>af
def ph:List aR->List aR->Option (List Prop)
 |[],[]=>aa []
 |a::r,b::q=>match Y9 a b with
  |some p=>match ph r q with
   |some ps=>aa (la p ps)
   |none=>af
  |none=>af
 |_,_=>af
def OL(B B':aR):Prop :=
 (∀E k n es,B=.vec E k n es->∃es',B'=.vec E k n es'/\cA n es es')/\((∀E k n es,B≠.vec E k n es)->(∀E k n es,B'≠.vec E k n es)/\(B=B'∨(∃E cs nG,B=.cells E cs/\B'=.cells E nG/\∀σ s vs,ei σ s vs cs->ei σ s vs nG)∨∃E k n es es',B=.buf E k n es/\B'=.buf E k n es'/\cA n es es'))
theorem Sr{B B':aR}{ps:List Prop}(h:Y9 B B'=aa ps)(a:az ps):OL B B':=by
 unfold Y9 at h;split at h
 .rename_i E k n es E' k' n' es';split at h
  .rename_i b i;cases h;have d:=bX b;have g:=bX i;obtain⟨f,j⟩:n=n'/\cA n es es':=a;subst d g f;refine⟨λE0 k0 n0 Xr he=>?_,λl=>absurd rfl (l _ _ _ _)⟩;grind
  grind
 .rename_i E cs E' nG;split at h
  .rename_i b;have d:=bX b;subst d;exact⟨λ_ _ _ _ he=>(by cases he),λ_=>⟨λ_ _ _ _ he=>(by cases he),.inr (.inl ⟨E,cs,nG,rfl,rfl,λσ s vs r=>EM h a r⟩)⟩⟩
  grind
 .exact⟨λ_ _ _ _ he=>(by cases he),λ_=>⟨λ_ _ _ _ he=>(by cases he),.inl rfl⟩⟩
 .cases h;rename_i H H';have e:H=H':=a;subst e;exact⟨λ_ _ _ _ he=>(by cases he),λ_=>⟨λ_ _ _ _ he=>(by cases he),.inl rfl⟩⟩
 .cases h;rename_i N φ r m φ' r';have e:aR.loop N φ r=aR.loop m φ' r':=a;exact⟨λ_ _ _ _ he=>(by cases he),λ_=>⟨λ_ _ _ _ he=>(by cases he),.inl e⟩⟩
 .exact⟨λ_ _ _ _ he=>(by cases he),λ_=>⟨λ_ _ _ _ he=>(by cases he),.inl rfl⟩⟩
 .rename_i E k n es E' k' n' es';split at h
  .rename_i b i;cases h;have d:=bX b;have g:=bX i;obtain⟨f,j⟩:n=n'/\cA n es es':=a;subst d g f;exact⟨λ_ _ _ _ he=>(by cases he),λ_=>⟨λ_ _ _ _ he=>(by cases he),.inr (.inr ⟨E,k,n,es,es',rfl,rfl,j⟩)⟩⟩
  grind
 grind
def CE:∀{σ σ':List aR}{ps:List Prop},ph σ σ'=aa ps->az ps->σ'.length=σ.length/\∀(l:Nat)(B B':aR),σ[l]?=aa B->σ'[l]?=aa B'->OL B B'
 |[],[],_,_,_=>⟨rfl,λl B B' h=>by grind⟩
 |[],_::_,_,h,_=>by cases h
 |_::_,[],_,h,_=>by cases h
 |a::r,b::q,ps,h,d=>by
  simp only[ph]at h;split at h
  .rename_i p g;split at h
   .rename_i p2 h2;cases h;rw[az.cat]at d;obtain⟨e,f⟩:=CE h2 d.2;grind[Sr]
   grind
  grind
def gD{σ σ':List aR}{ps:List Prop}(h:ph σ σ'=aa ps)(Z:az ps):EK σ σ':=by
 obtain⟨W,hg⟩:=CE h Z;intro s I;have R:∀(l:Nat) (B:aR),σ[l]?=aa B->∃B',σ'[l]?=aa B'/\OL B B':=by grind
 have get:∀(l:Nat) (B':aR),σ'[l]?=aa B'->∃B,σ[l]?=aa B/\OL B B':=by grind
 have i:∀(l:Nat),(∀B,σ[l]?=aa B->B.gr=ae)->∀B,σ'[l]?=aa B->B.gr=ae:=by
  intro l hn B' he;obtain⟨B,hB,m⟩:=get l _ he;have q:=hn B hB;rcases(m.2 (λE k n es e=>by rw[e]at q;cases q)).2 with rfl|⟨E,cs,F,rfl,rfl,_⟩|⟨E,k,n,es,es',rfl,rfl,_⟩
  .exact q
  .rfl
  .cases q
 have U:∀(l:Nat) E k n es,σ'[l]?=aa (aR.buf E k n es)->∃es',σ[l]?=aa (aR.buf E k n es'):=by
  intro l E k n es he;obtain⟨B,hB,m⟩:=get l _ he;by_cases p:∃E k n es,B=aR.vec E k n es
  .obtain⟨E1,k1,n1,EN,rfl⟩:=p;obtain⟨es',f,_⟩:=m.1 _ _ _ _ rfl;cases f
  .rcases(m.2 (λE k n es e=>p ⟨E,k,n,es,e⟩)).2 with rfl|⟨E,cs,F,rfl,h,_⟩|⟨E,k,n,es,es',rfl,h,_⟩
   .grind
   .cases h
   grind
 have u:∀(l:Nat) E k n es,σ'[l]?=aa (aR.vec E k n es)->∃es',σ[l]?=aa (aR.vec E k n es'):=by
  intro l E k n es he;obtain⟨B,hB,m⟩:=get l _ he;by_cases p:∃E k n es,B=aR.vec E k n es
  .obtain⟨E1,k1,n1,EN,rfl⟩:=p;obtain⟨es',f,_⟩:=m.1 _ _ _ _ rfl;grind
  .exact absurd rfl ((m.2 (λE k n es e=>p ⟨E,k,n,es,e⟩)).1 E k n es)
 have Q:∀(v:ah) (a:A),gB σ s v a->gB σ' s v a:=by
  intro v a r;cases a with
  |c x=>exact r
  |ptr l o=>exact⟨i l r.1,r.2⟩
  |vec l k n es =>
   refine⟨r.1,by rw[W];exact r.2.1,λE k' n' es' he=>?_⟩;obtain⟨Aa,g⟩:=u l E k' n' es' he;exact r.2.2 E k' n' Aa g
  |ref l=>exact⟨i l r.1,r.2⟩
  |bp l w =>
   obtain⟨lv,r1,r2,r3⟩:=r;refine⟨lv,r1,by grind,λE k' n' es' he=>?_⟩;grind
  |any=>exact r
 have z:∀(vs:List ah) (cs:List A),ei σ s vs cs->ei σ' s vs cs:=by
  intro vs;induction vs with
  |nil=>intro cs r;cases cs with|nil=>trivial|cons _ _=>exact r.elim
  |cons v vs ih=>intro cs r;cases cs with|nil=>exact r.elim|cons c cs=>exact⟨Q _ _ r.1,ih _ r.2⟩
 have O:∀(v:ah) (e:E1),nC σ s v e->nC σ' s v e:=by
  intro v e r;cases e with
  |one a=>exact Q _ _ r
  |agg cs=>obtain⟨vs,f,g⟩:=r;exact⟨vs,f,z _ _ g⟩
 have J:∀(vs:List ah) (cs:List E1),hY σ s vs cs->hY σ' s vs cs:=by
  intro vs;induction vs with
  |nil=>intro cs r;cases cs with|nil=>trivial|cons _ _=>exact r.elim
  |cons v vs ih=>intro cs r;cases cs with|nil=>exact r.elim|cons c cs=>exact⟨O _ _ r.1,ih _ r.2⟩
 have M:∀(v:ah) (d:D),dt σ s v d->dt σ' s v d:=by
  intro v d r;cases d with
  |e x=>exact O _ _ r
  |fa xs=>obtain⟨vs,f,g⟩:=r;exact⟨vs,f,J _ _ g⟩
  |any=>trivial
 refine⟨⟨I.mem,by rw[I.len,W],?_,I.eO,I.lt,I.own⟩,⟨bc _,λ_ _ _=>rfl,λ_ _ _ h=>h,λ_ _ _ _=>rfl,λL h b j=>.inr ⟨L,h,j⟩,?_,rfl,rfl,rfl,rfl⟩,M⟩
 .intro l B' L y V;obtain⟨B,hB,m⟩:=get l B' y;have j:=I.box l B L hB V;by_cases p:∃E k n es,B=aR.vec E k n es
  .obtain⟨E,k,n,es,rfl⟩:=p;obtain⟨es',rfl,he⟩:=m.1 _ _ _ _ rfl;refine⟨j.1.Ei he,?_⟩;rcases j.2 with⟨f,g⟩|f
   .exact .inl ⟨f,g.Ei he⟩
   grind
  .rcases(m.2 (λE k n es e=>p ⟨E,k,n,es,e⟩)).2 with rfl|⟨E,cs,F,rfl,rfl,S⟩|⟨E,k,n,es,es',rfl,rfl,S⟩
   .cases B with
    |cells E cs=>obtain⟨b,vs,f,g,C,G⟩:=j;exact⟨b,vs,f,g,z _ _ C,G⟩
    |vec E k n es=>grind
    |cm H=>exact j
    |dead=>trivial
    |loop N φ r=>obtain⟨l,tmps,fn,df,f,g,C,G,T⟩:=j;exact⟨l,tmps,fn,df,f,g,C,λt=>M _ _ (G t),T⟩
    |qY=>exact j
    |buf E k n es=>exact j
   .obtain⟨b,vs,f,g,C,G⟩:=j;exact⟨b,vs,f,g,z _ _ (S _ _ _ C),G⟩
   .rcases j with j|⟨b,c0,vs,Y,f,g,C,G,T,h6,h7⟩
    .exact .inl j
    .exact .inr ⟨b,c0,vs,Y,f,g,C,G,T,h6.Ei S,h7⟩
 .intro l B L hB V;obtain⟨B',y,m⟩:=R l B hB;refine⟨B',L,y,V,?_⟩;by_cases p:∃E k n es,B=aR.vec E k n es
  .obtain⟨E,k,n,es,rfl⟩:=p;obtain⟨es',rfl,he⟩:=m.1 _ _ _ _ rfl;exact⟨λ_=>rfl,bc _⟩
  .rcases(m.2 (λE k n es e=>p ⟨E,k,n,es,e⟩)).2 with rfl|⟨E,cs,F,rfl,rfl,S⟩|⟨E,k,n,es,es',rfl,rfl,_⟩
   .exact gI.refl _ _
   .exact rfl
   .exact⟨λ_=>rfl,bc _⟩
section
variable {P:ar}{X:Cx P}{N:Nat}{Qf:Post}{K:List It}{φ:Fr}{σ:List aR}{c:Code}
theorem AW.ghost{Q:Post}{φ':Fr}{σ':List aR}(h:∀s a,cu N σ s φ a->aF σ s->∃s':St,s'.w=s.w/\cu N σ' s' φ' a/\aF σ' s'/\Step σ s σ' s')(k:AW X N c Q φ' σ'):AW X N c Q φ σ:=by intro s a m hh b kk cs S o l;obtain⟨s',n,i,f,st⟩:=h s a m hh;have d:=st.nF hh;refine .ghost (.of hh f n d) ?_;exact k s' a i f b kk cs S o λe g σ2 s2 a2 q j h2 mR=>l e g σ2 s2 a2 q j h2 (d.trans mR)
theorem AK.ghost{φ':Fr}{σ':List aR}(h:∀s a,cu N σ s φ a->aF σ s->∃s':St,s'.w=s.w/\cu N σ' s' φ' a/\aF σ' s'/\Step σ s σ' s')(k:AK X N Qf (.code c::K) .normal φ' σ'):AK X N Qf (.code c::K) .normal φ σ :=
 AW.ghost h k
def cu.bs{σ':List aR}{s:St}{a:Act}(b:EK σ σ')(f:cu N σ s φ a)(hh:aF σ s):cu N σ' s φ a:=⟨f.size,f.defers.imp λ_ h1=>h1.mono (b s hh).2.1.ext,λt=>(b s hh).2.2 _ _ (f.slot t)⟩
def AK.norm(σ':List aR){ps:List Prop}(h:ph σ σ'=aa ps)(b:az ps)(k:AK X N Qf (.code c::K) .normal φ σ'):AK X N Qf (.code c::K) .normal φ σ :=
 AK.ghost (λs a d hh=>⟨s,rfl,d.bs (gD h b) hh,(gD h b s hh).1,(gD h b s hh).2.1⟩) k
def AK.iM(t:Nat)(E:aj)(k:Nat){k' n:Nat}{es:Nat->List C}(i:look φ t=.e (.one (.c (.sl ab k' n es))))(g:n=0)(kk:AK X N Qf (.code c::K) .normal ((t,.e (.one (.vec σ.length k n es)))::φ) (σ++[.vec E k n es])):AK X N Qf (.code c::K) .normal φ σ:=by
 refine AK.ghost (λs a b hh=>?_) kk;have f:=b.slot t;rw[i]at f;have h1:=Rd.vI (k:=k') (k':=k) (.inr g) (e9 f);have hB:eE (σ++[.vec E k n es]) {s with β:=s.β++[⟨a.tmps.getD t ai,[]⟩]} (.vec E k n es) ⟨a.tmps.getD t ai,[]⟩:=⟨h1.loose,.inl ⟨⟨rfl,g⟩,h1⟩⟩;obtain⟨h,d⟩:=hh.ik (.refl _ _) rfl hh hB (by simp)
 refine⟨{s with β:=s.β++[⟨a.tmps.getD t ai,[]⟩]},rfl,⟨b.size,b.defers.imp λ_ h1=>h1.mono d.ext,λu=>?_⟩,h,d⟩;simp only[look];cases j:aB t u with
 |false=>exact(b.slot u).mono d.ext hh.len
 |true =>
  have e:=bX j;subst e;exact qw (L:=⟨a.tmps.getD t ai,[]⟩) (by simp) (by simp[<-hh.len]) hB
def AK.kg{S:Type}(I:S->Prop)(fr:S->Fr)(st:S->List aR)(j:S->Nat)(x:S){ps qs:List Prop}(t:nV φ (fr x)=aa ps)(C:az ps)(p:ph σ (st x)=aa qs)(B:az qs)(G:I x)(round:∀x,I x->AK X N (λe φ' σ'=>match e with
   |.normal=>∃y,I y/\j y<j x/\oB φ' (fr y)/\EK σ' (st y)
   |e=>AK X N Qf K e φ' σ') [.code c] .normal (fr x) (st x)):AK X N Qf (.code (.loop c)::K) .normal φ σ:=by
 intro s a D hh b kk cs SS hb hQ;have f:=gD p B;obtain⟨o,u,_⟩:=f s hh;refine s8 (λn a' s'=>∃y,I y/\cu N (st y) s' (fr y) a'/\aF (st y) s'/\cY σ s (st y) s'/\j y=n) ?_ ?_ ⟨x,G,(D.le (cD t C)).bs f hh,o,u.nF hh,rfl⟩
 .rintro n a' s' ⟨y,k,r,i,d,e⟩;exact⟨st y,i,λH h1=>⟨y,k,r.rely h1 i,i.rely h1,d.trans h1.stepW,e⟩⟩
 rintro n a' s' ⟨y,k,r,i,d,rfl⟩ E;refine round y k s' a' r i b (.inLoop c::kk) cs SS hb ?_;intro e A σ2 s2 a2 q w h2 mR;cases e with
 |normal =>
  obtain⟨z,F,v,h,g⟩:=q;obtain⟨l,m,_⟩:=g s2 h2;exact E a2 s2 (j z) v ⟨z,F,(w.le h).bs g h2,l,d.trans (mR.trans (m.nF h2)),rfl⟩
 |_=>exact ends.cons (λ_ _=>rfl) (by simp) (hQ _ _ _ _ _ q w h2 (d.trans mR))
def AK.gb{S:Type}{I:S->Prop}{fr:S->Fr}{st:S->List aR}{a:S->Nat}{x:S}{Qr:Post}(y:S){ps qs:List Prop}(d:nV φ (fr y)=aa ps)(g:az ps)(b:ph σ (st y)=aa qs)(i:az qs)(h:I y)(f:a y<a x):
  AK X N (λe φ' σ'=>match e with
   |.normal=>∃y,I y/\a y<a x/\oB φ' (fr y)/\EK σ' (st y)
   |e=>Qr e φ' σ') [] .normal φ σ:=⟨y,h,f,cD d g,gD b i⟩
end
def Ev.forget{P:ar}{X:Cx P}{f:aJ}{args:List D}{res ud:D}{σ':List aR}(h:Ev X f args [] res σ'){ps:List Prop}(g:Ee res ud=aa ps)(j:az ps)(a:wD 0 ud=ab):Ev X f args [] ud []:=by
 refine⟨h.1,λs vs hr hh S cs hS=>h.2 s vs hr hh S cs λfr v e hl hv h1 st=>?_⟩
 have m:s.β=[]:=jv hh.len;have k:eF e {e with β:=[]}:=⟨rfl,λ_ _ _ h=>h,λ_ _ _=>rfl,h1.mem,λb i=>.inl (by grind)⟩
 refine .ghost k (hS fr v {e with β:=[]} (hl.mono λ_ _ _ h=>h) ?_ ⟨h1.mem,rfl,by simp,by simp,by simp,λb i=>⟨(h1.own b i).1,by simp⟩⟩ ⟨st.size,st.fy,st.mem,st.je,by simp,λl B L hB=>by grind,st.os,st.tape,st.output,st.own⟩)
 .have h2:=oE g j hv;have:=dt.sub (ks:=[]) (σ:=σ') (σ':=[]) (s:=e) (β':=[]) (d:=ud) rfl rfl (by rw[CF a];exact h2) a;exact this
section drop
variable {σ1 rest:List aR}{s:St}
def Vx(n:Nat):aR->Bool
 |.cells _ cs=>Gs n cs
 |.loop ..=>ae
 |_=>ab
def sK(n:Nat):List aR->Bool
 |[]=>ab
 |a::r=>match Vx n a with|true=>sK n r|false=>ae
def CG{n:Nat}:∀{l:List aR},sK n l=ab->∀B∈l,Vx n B=ab
 |[],_,B,hB=>by grind
 |b::r,h,B,hB=>by
  simp only[sK]at h;cases a:Vx n b with
  |false=>grind
  |true =>
   simp only[a]at h;rcases eB.1 hB with rfl|hB
   .exact a
   .exact CG h B hB
def eE.uT{B:aR}{L:Loc}(a:Vx σ1.length B=ab)(h:eE (σ1++rest) s B L):eE σ1 (s.cut σ1.length) B L:=by
 cases B with
 |cells E cs =>
  obtain⟨b,vs,h1,h2,d,e⟩:=h;exact⟨b,vs,h1,h2,ei.sQ d a,e⟩
 |vec E k n es=>exact h
 |cm H=>exact h
 |dead=>trivial
 |loop N φ r=>simp[Vx]at a
 |qY=>exact h
 |buf E k n es=>exact h
def aF.drop(h:aF (σ1++rest) s)(i:sK σ1.length σ1=ab):aF σ1 (s.cut σ1.length):=by
 have hl:σ1.length<=s.β.length:=by rw[h.len];simp
 refine⟨h.mem,by simp[St.cut,hl],?_,?_,?_,λb e=>⟨(h.own b e).1,λL a=>(h.own b e).2 L (fM a)⟩⟩
 .intro l B L hB a;have f:l<σ1.length:=(b6.1 hB).1;simp only[St.cut,iX,f,cq]at a;exact eE.uT (rest:=rest) (CG i B (bP hB)) (h.box l B L (by grind) a)
 .intro l l' L L' a d b e g;simp only[St.cut,iX]at a d;split at a<;>split at d<;>first|exact h.eO l l' L L' a d b e g|grind|grind
 .intro L a b e;exact h.lt L (fM a) b e
def pe.drop(a:lM rest=ab):∀{ds:List Deferred}{ls:List Nat},pe (σ1++rest) s ds ls->pe σ1 (s.cut σ1.length) ds ls
 |[],[],_=>trivial
 |[],_::_,r=>r.elim
 |_::_,[],r=>r.elim
 |d::ds,l::ls,⟨⟨h1,L,r,h2,b⟩,e,f⟩=>by
  have hl:l<σ1.length:=by
   rcases cM l σ1.length with h|h
   .exact h
   .rw[gk h]at h1;exact absurd rfl (nQ a _ (bP h1))
  rw[jy hl]at h1;exact⟨⟨h1,L,r,by simp only[St.cut,iX,hl,cq];exact h2,b⟩,e,pe.drop a f⟩
def xf(n:Nat)(σ:List aR):Bool:=match bA n σ.length with|true=>lM (σ.drop n)|false=>ae
theorem qH{n:Nat}{σ:List aR}(h:xf n σ=ab):bA n σ.length=ab/\lM (σ.drop n)=ab:=by unfold xf at h;grind
end drop
def CH(n:Nat):Fr->Bool
 |[]=>ab
 |(_,d)::r=>match wD n d with|true=>CH n r|false=>ae
def nW{n:Nat}:∀{φ:Fr}{t:Nat},CH n φ=ab->wD n (look φ t)=ab
 |[],t,_=>rfl
 |(u,d)::r,t,h=>by
  simp only[CH]at h;cases a:wD n d with
  |false=>grind
  |true =>
   simp only[a]at h;simp only[look];cases aB u t with
   |true=>exact a
   |false=>exact nW h
section
variable {P:ar}{X:Cx P}{N:Nat}{Qf:Post}{K:List It}{φ:Fr}{σ:List aR}{c:Code}
def lF{S:Type}{P:ar}(X:Cx P)(N:Nat)(Qf:Post)(K:List It)(I:S->Prop)(a:S->Fr)(st:S->List aR)(b:S->Nat)(n:Nat)(x:S):Post:=λe φ' σ'=>match e with
 |.normal=>∃y,I y/\b y<b x/\oB φ' (a y)/\CH n (a y)=ab/\∃σ1 rest,σ'=σ1++rest/\σ1.length=n/\(sK n σ1=ab/\lM rest=ab)/\EK σ1 (st y)
 |e=>AK X N Qf K e φ' σ'
def AK.cE{S:Type}(n:Nat)(I:S->Prop)(fr:S->Fr)(st:S->List aR)(k:S->Nat)(x:S){ps qs:List Prop}(B:nV φ (fr x)=aa ps)(R:az ps)(w:ph σ (st x)=aa qs)(O:az qs)(hn:σ.length=n)(Z:I x)(round:∀x,I x->AK X N (lF X N Qf K I fr st k n x) [.code c] .normal (fr x) (st x)):AK X N Qf (.code (.loop c)::K) .normal φ σ:=by
 intro s a T hh b kk cs SS hb hQ;have f:=gD w O;obtain⟨v,C,_⟩:=f s hh;refine s8 (λm a' s'=>∃y,I y/\cu N (st y) s' (fr y) a'/\aF (st y) s'/\cY σ s (st y) s'/\k y=m) ?_ ?_ ⟨x,Z,(T.le (cD B R)).bs f hh,v,C.nF hh,rfl⟩
 .rintro n a' s' ⟨y,o,A,j,d,e⟩;exact⟨st y,j,λs1 h1=>⟨y,o,A.rely h1 j,j.rely h1,d.trans h1.stepW,e⟩⟩
 rintro m a' s' ⟨y,o,A,j,d,rfl⟩ U;refine round y o s' a' A j b (.inLoop c::kk) cs SS hb ?_;intro e H σ2 s2 a2 q F h2 mR;cases e with
 |normal =>
  obtain⟨z,W,E,i,J,σ1,rest,rfl,M,⟨Q,r⟩,u⟩:=q;have G:=h2.drop (by grind);obtain⟨p,g,D⟩:=u _ G;have l:=F.le i;have V:eF s2 (s2.cut σ1.length):=⟨rfl,λ_ _ _ h=>h,λ_ _ _=>rfl,h2.mem,λb hb=>hb.imp id λ⟨L,Y,hb⟩=>⟨L,fM Y,hb⟩⟩
  refine .ghost V (U a2 (s2.cut σ1.length) (k z) E ⟨z,W,⟨l.size,l.defers.imp λ_ h1=>(h1.drop r).mono g.ext,λt=>D _ _ ((l.slot t).drop (nW (by grind)))⟩,p,?_,rfl⟩);exact((d.trans mR).drop (by omega)).trans (g.nF G)
 |_=>exact ends.cons (λ_ _=>rfl) (by simp) (hQ _ _ _ _ _ q F h2 (d.trans mR))
def AK.Ss{S:Type}{n:Nat}{I:S->Prop}{fr:S->Fr}{st:S->List aR}{e:S->Nat}{x:S}{k:List It}(y:S){ps qs:List Prop}(d:nV φ (fr y)=aa ps)(i:az ps)(f:CH n (fr y)=ab)(g:xf n σ=ab)(b:ph (σ.take n) (st y)=aa qs)(l:az qs)(a:sK n (σ.take n)=ab)(j:I y)(h:e y<e x):
  AK X N (lF X N Qf k I fr st e n x) [] .normal φ σ :=
 ⟨y,j,h,cD d i,f,σ.take n,σ.drop n,(jz n σ).symm,by grind[Nat.le_of_ble_eq_true,qH],⟨a,(qH g).2⟩,gD b l⟩
def AK.aQ{S:Type}{n:Nat}{I:S->Prop}{fr:S->Fr}{st:S->List aR}{a:S->Nat}{x:S}{f:List It}(y:S){ps qs:List Prop}(h:(nV φ (fr y),CH n (fr y),xf n σ,ph (σ.take n) (st y),sK n (σ.take n))=(aa ps,ab,ab,aa qs,ab))(d:az ps)(g:az qs)(e:I y)(b:a y<a x):
  AK X N (lF X N Qf f I fr st a n x) [] .normal φ σ:=by simp only[l9]at h;exact AK.Ss y h.1 d h.2.1 h.2.2.1 h.2.2.2.1 g h.2.2.2.2 e b
def AK.leaveD{S:Type}{n:Nat}{I:S->Prop}{fr:S->Fr}{st:S->List aR}{b:S->Nat}{x:S}{id:Nat}{d a f:List It}(h1:j9 id d=af)(h2:j9 id a=aa f)(k:AK X N Qf f .normal φ σ):
  AK X N (lF X N Qf a I fr st b n x) (.code (.exit id)::d) .normal φ σ :=
 AW.mono (AK.leave (A:=λφ' σ'=>lF X N Qf a I fr st b n x .normal φ' σ') h1 h2 k) λe φ' σ' q=>by
  have key:∀(K:List It) e,AK X N (λe φ' σ'=>match e with
    |.normal=>lF X N Qf a I fr st b n x .normal φ' σ'
    |e=>AK X N Qf a e φ' σ') K e φ' σ'->AK X N (lF X N Qf a I fr st b n x) K e φ' σ':=by
   have e:(λe φ' σ'=>match e with
    |.normal=>lF X N Qf a I fr st b n x .normal φ' σ'
    |e=>AK X N Qf a e φ' σ')=lF X N Qf a I fr st b n x:=by funext e φ' σ';cases e<;>rfl
   grind
  exact key _ _ q
def AK.fQ{S:Type}{n:Nat}{I:S->Prop}{fr:S->Fr}{st:S->List aR}{d:S->Nat}{x:S}{a b:List It}(k:Qf .ret φ σ):AK X N (lF X N Qf b I fr st d n x) (.code .ret::a) .normal φ σ :=
 AK.ret (AK.sZ (Qf:=Qf) k)
theorem cu.freeze(t l:Nat){E:aj}{cs:List A}{cc:List C}(z:look φ t=.e (.one (.ptr l 0)))(hl:dC l σ=aa (.cells E cs))(H:gM cs=aa cc){s:St}{a:Act}(i:cu N σ s φ a)(hh:aF σ s):∃s':St,s'.w=s.w/\cu N (σ.set l .dead) s' ((t,.e (.one (.c (.rp cc))))::φ) a/\aF (σ.set l .dead) s'/\Step σ s (σ.set l .dead) s':=by
 have hB:=b9 hl;have m:l<σ.length:=(b6.1 hB).1;have p:=i.slot t;rw[z]at p;obtain⟨_,L,b,n,f,y⟩:=p;obtain⟨g,vs,h1,h2,F,J⟩:=hh.box l _ L hB n;subst h1;simp at f;subst f;let s':St:={s with M:=λr o=>if r=g then vs[o]? else s.M r o}
 have st:Step σ s (σ.set l .dead) s':=by
  refine⟨bc _,λ_ _ _=>rfl,?_,?_,λL h b d=>.inr ⟨L,h,d⟩,?_,rfl,rfl,rfl,rfl⟩
  .grind
  .intro b d G o;have k:b≠g:=λe=>G _ (bP n) (by simp[e]);grind
  .intro l' B L' kv fA;by_cases e:l=l'
   .subst e;rw[hB]at kv;cases kv;exact⟨.dead,L',by grind,fA,rfl⟩
   .exact⟨B,L',by grind,fA,.refl _ _⟩
 refine⟨s',rfl,⟨i.size,i.defers.imp λ_ h1=>h1.mono st.ext,λu=>?_⟩,⟨?_,by simp[hh.len,s'],?_,hh.eO,hh.lt,hh.own⟩,st⟩
 .simp only[look];cases d:aB t u with
  |false=>exact(i.slot u).mono st.ext hh.len
  |true =>
   have e:=bX d;subst e;rw[y];have x:=l6 H F;refine Rd.rp g 0 (λj=>(vs[j]?).getD ai) ?_ ?_
   .intro j c hj;obtain⟨v,q,_⟩:=x.get (j:=j) (a:=.c c) (by grind);grind
   .intro j c hj;obtain⟨v,q,p2⟩:=x.get (j:=j) (a:=.c c) (by grind);simp only[q,ij];exact Rd.mono st.mem p2
 .intro b o v I;by_cases e:b=g
  .subst e;have hm':vs[o]?=aa v:=by grind
   show s.w.cell? _=_;simp[aV,h2,hm']
  .exact hh.mem b o v (by grind)
 .intro l' B L' kv fA;by_cases e:l=l'
  .subst e;rw[gn m]at kv;cases kv;trivial
  .rw[kC e]at kv;refine(hh.box l' B L' kv fA).carry st.ext hh.len λb d=>⟨rfl,λo=>?_⟩
   have k:b≠g:=λD=>e (hh.eO l l' _ L' n fA b (by grind) d);grind
theorem AK.freeze(t l:Nat){E:aj}{cs:List A}{cc:List C}(a:look φ t=.e (.one (.ptr l 0)))(hl:dC l σ=aa (.cells E cs))(b:gM cs=aa cc)(kk:AK X N Qf (.code c::K) .normal ((t,.e (.one (.c (.rp cc))))::φ) (dW.qV l .dead σ)):AK X N Qf (.code c::K) .normal φ σ:=by grind[jq,AK.ghost,cu.freeze]
def AK.one{all rest:List au}{o:au}{x:D}{σ':List aR}(h:OA X N all o φ σ x σ')(a:gg N o.dst=ab)(k:AK X N Qf (.ops all rest::K) .normal (kH o.dst x φ) σ'):AK X N Qf (.ops all (o::rest)::K) .normal φ σ :=
 iw.AI h (gK a) k
end
def aF.jM{σ:List aR}{s:St}(h:aF σ s){l:Nat}{H H':ah->(Nat->Option Obj)->Prop}{L L':Loc}(hB:σ[l]?=aa (.cm H))(t:s.β[l]?=aa L){w':aA}(A:L'.v=L.v)(r:s.w.heap.size<=w'.heap.size)(hk:∀b,b<s.w.heap.size->b∉L.bs->w'.heap[b]?=s.w.heap[b]?)(k:∀b∈L'.bs,b∈L.bs∨(s.w.heap.size<=b/\b<w'.heap.size))(y:∃ch,H' L'.v ch/\(∀(b:Nat) (o:Obj),ch b=aa o->w'.heap[b]?=aa o)/\(∀b,b∈L'.bs↔(ch b).isSome=ab))(O:w'.os=s.w.os)(K:w'.tape=s.w.tape)(F:w'.output=s.w.output):
  aF (σ.set l (.cm H')) ⟨s.β.set l L',s.M,w',s.own⟩/\Step σ s (σ.set l (.cm H')) ⟨s.β.set l L',s.M,w',s.own⟩:=by
 have z:l<σ.length:=(b6.1 hB).1;have x:l<s.β.length:=by grind
 obtain⟨N,_,_,_,I⟩:=h.box l _ L hB t;have q:∀b∈L'.bs,∀o,s.M b o=af:=by
  intro b i o;rcases k b i with h1|⟨h1,_⟩
  .grind
  .cases u:s.M b o with
   |none=>rfl
   |some v=>have:=h.block u;omega
 have st:Step σ s (σ.set l (.cm H')) ⟨s.β.set l L',s.M,w',s.own⟩:=by
  refine⟨r,?_,λ_ _ _ h=>h,λ_ _ _ _=>rfl,?_,?_,O,K,F,rfl⟩
  .grind
  .grind
  .intro l' B a d f;by_cases e:l=l'
   .subst e;rw[hB]at d;cases d;rw[t]at f;cases f;exact⟨.cm H',L',by grind,by grind,A⟩
   .exact⟨B,a,by grind,by grind,.refl _ _⟩
 have g:∀(l':Nat) (a:Loc),(s.β.set l L')[l']?=aa a->(l'=l/\a=L')∨(l≠l'/\s.β[l']?=aa a):=by grind
 refine⟨⟨?_,by simp[h.len],?_,?_,?_,?_⟩,st⟩
 .intro b o v u;have D:=h.block u;have G:b∉L.bs:=λm=>by grind
  rw[<-h.mem b o v u];simp only[aV];grind
 .intro l' B a d f;rcases g l' a f with⟨rfl,rfl⟩|⟨e,h2⟩
  .rw[gn z]at d;cases d;obtain⟨ch,k1,C,P⟩:=y;exact⟨ch,k1,C,P,q⟩
  .rw[kC e]at d;refine(h.box l' B a d h2).carry st.ext h.len λb i=>⟨hk b (h.lt a (bP h2) b i) λm=>e (h.eO l l' L a t h2 b m i),λ_=>rfl⟩
 .intro E J L1 a h1 h2 b j c;rcases g E L1 h1 with⟨rfl,rfl⟩|⟨e1,p⟩<;>rcases g J a h2 with⟨rfl,rfl⟩|⟨e2,n⟩
  .rfl
  .rcases k b j with m|m
   .exact h.eO _ _ L a t n b m c
   .have:=h.lt a (bP n) b c;omega
  .rcases k b c with m|m
   .exact h.eO _ _ L1 L p t b j m
   .have:=h.lt L1 (bP p) b j;omega
  .exact h.eO _ _ L1 a p n b j c
 .intro a f b c;rcases List.mem_or_eq_of_mem_set f with h1|h1
  .exact c7 (h.lt a h1 b c) r
  .subst h1;rcases k b c with h2|h2
   .exact c7 (h.lt L (bP t) b h2) r
   grind
 .intro b y;obtain⟨R,Q⟩:=h.own b y;grind
section
variable {H H':ah->(Nat->Option Obj)->Prop}{s:St}
end
def cw.pO{fn:Func}{a:Nat}{res:D}{σ':List aR}{φ:Fr}{σ:List aR}(ks:List Nat){ps:List Prop}(h:Ap fn.results.toList ks φ res=aa ps)(d:az ps)(c:j3 ks σ=aa σ')(b:kJ σ'=ab)(e:dH ks=ab)(hk:∀j,j<a->ks[j]?=aa j):
  cw fn a res σ' .normal φ σ:=by refine⟨.inr rfl,ks,?_⟩;unfold Ap at h;grind
def AK.RS{P:ar}{X:Cx P}{N:Nat}{Qf:Post}{K:List It}{φ:Fr}{σ:List aR}{all rest:List au}{o:au}{m:aq}{xs:Array aq}{e:Array aj}{f:aJ}{cap:List C}{a:List D}{c σ1:List aR}{res:D}(g:Ev X f a c res σ1)(ks:List Nat)(l:o.guard=af)(q:o.op=.call {callee:=.value m,args:=xs,argTypes:=e})(p:eQ (bU φ m)=aa (f,cap))(b:mS (xs.toList.map (bU φ)++fP cap)=fU ks a)(h:lE ks.length a=ab)(j:j3 ks σ=aa c)(n:cx c=ab)(d:cx σ1=ab)(r:dH ks=ab)(i:bA ks.length σ1.length=ab)(s:gg N o.dst=ab)(k:AK X N Qf (.ops all rest::K) .normal (kH o.dst (iu (ks++k9 σ.length (σ1.length-ks.length)) res) φ) (dW ks σ1 σ)):AK X N Qf (.ops all (o::rest)::K) .normal φ σ :=
 iw.call (λ_ _ _ _=>dK l) q p ks g b h j n d r (db i) o.dst rfl (gK s) k
def AK.qA{P:ar}{ι:Type}{X:Cx P}{N:Nat}{Qf:Post}{K:List It}{φ:Fr}{σ:List aR}{all rest:List au}{o:au}{n:aq}{xs:Array aq}{e:Array aj}{f:aJ}{cap:List C}{a:List D}{c:List aR}{σ1:ι->List aR}{res:ι->D}(g:ef X f a c res σ1)(ks:List Nat)(m:o.guard=af)(r:o.op=.call {callee:=.value n,args:=xs,argTypes:=e})(q:eQ (bU φ n)=aa (f,cap))(b:mS (xs.toList.map (bU φ)++fP cap)=fU ks a)(h:lE ks.length a=ab)(l:j3 ks σ=aa c)(p:cx c=ab)(d:∀j,cx (σ1 j)=ab)(s:dH ks=ab)(i:∀j,bA ks.length (σ1 j).length=ab)(t:gg N o.dst=ab)(k:∀j,AK X N Qf (.ops all rest::K) .normal (kH o.dst (iu (ks++k9 σ.length ((σ1 j).length-ks.length)) (res j)) φ) (dW ks (σ1 j) σ)):AK X N Qf (.ops all (o::rest)::K) .normal φ σ :=
 iw.Qy (λ_ _ _ _=>dK m) r q ks g b h l p d s (λj=>db (i j)) o.dst rfl (gK t) k
def AK.cQ{P:ar}{X:Cx P}{N:Nat}{Qf:Post}{K:List It}{φ:Fr}{σ:List aR}{all rest:List au}{o:au}{s:aq}{xs:Array aq}{q:Array aj}{f:aJ}{cap:List C}{n:List D}{p σ1:List aR}{res:D}(r:Ev X f n p res σ1)(ks:List Nat)(h:(o.guard,o.op,eQ (bU φ s),mS (xs.toList.map (bU φ)++fP cap),lE ks.length n,j3 ks σ,cx p,cx σ1,dH ks,bA ks.length σ1.length,gg N o.dst)=(af,.call {callee:=.value s,args:=xs,argTypes:=q},aa (f,cap),fU ks n,ab,aa p,ab,ab,ab,ab,ab))(k:AK X N Qf (.ops all rest::K) .normal (kH o.dst (iu (ks++k9 σ.length (σ1.length-ks.length)) res) φ) (dW ks σ1 σ)):AK X N Qf (.ops all (o::rest)::K) .normal φ σ:=by simp only[l9]at h;obtain⟨a,b,c,d,e,f,g,i,j,l,m⟩:=h;exact AK.RS r ks a b c d e f g i j l m k
def AK.cP{P:ar}{ι:Type}{X:Cx P}{N:Nat}{Qf:Post}{K:List It}{φ:Fr}{σ:List aR}{all rest:List au}{o:au}{r:aq}{xs:Array aq}{n:Array aj}{f:aJ}{cap:List C}{i:List D}{l:List aR}{σ1:ι->List aR}{res:ι->D}(p:ef X f i l res σ1)(ks:List Nat)(h:(o.guard,o.op,eQ (bU φ r),mS (xs.toList.map (bU φ)++fP cap),lE ks.length i,j3 ks σ,cx l,dH ks,gg N o.dst)=(af,.call {callee:=.value r,args:=xs,argTypes:=n},aa (f,cap),fU ks i,ab,aa l,ab,ab,ab))(q:∀j,(cx (σ1 j),bA ks.length (σ1 j).length)=(ab,ab))(k:∀j,AK X N Qf (.ops all rest::K) .normal (kH o.dst (iu (ks++k9 σ.length ((σ1 j).length-ks.length)) (res j)) φ) (dW ks (σ1 j) σ)):AK X N Qf (.ops all (o::rest)::K) .normal φ σ:=by simp only[l9]at h q;obtain⟨a,b,c,d,e,f,g,j,m⟩:=h;exact AK.qA p ks a b c d e f g (λj=>(q j).1) j (λj=>(q j).2) m k
def wG:List D->List D->Option (List Prop)
 |[],[]=>aa []
 |a::al,b::bs=>match Ee a b with
  |some p=>match wG al bs with
   |some q=>aa (la p q)
   |none=>af
  |none=>af
 |_,_=>af
def vP{σ:List aR}{s:St}:∀{vs:List ah}{xs ys:List D}{ps:List Prop},wG xs ys=aa ps->az ps->cp σ s vs xs->cp σ s vs ys
 |[],[],[],_,_,_,_=>trivial
 |_::_,[],_,_,_,_,h=>h.elim
 |[],_::_,_,_,_,_,h=>h.elim
 |[],[],_::_,_,h,_,_=>by simp[wG]at h
 |_::_,_::_,[],_,h,_,_=>by simp[wG]at h
 |v::vs,a::al,b::bs,ps,h,c,e=>by
  simp only[wG]at h;cases f:Ee a b with
  |none=>grind
  |some p =>
   cases d:wG al bs with
   |none=>grind
   |some q =>
    simp[f,d]at h;subst h;rw[az.cat]at c;exact⟨oE f c.1 e.1,vP d c.2 e.2⟩
def AK.j4{P:ar}{ι:Type}{X:Cx P}{N:Nat}{Qf:Post}{K:List It}{φ:Fr}{σ:List aR}{all rest:List au}{o:au}{q:aq}{xs:Array aq}{e:Array aj}{f:aJ}{cap:List C}{a:List D}{c:List aR}{σ1:ι->List aR}{res:ι->D}(g:ef X f a c res σ1)(ks:List Nat)(n:o.guard=af)(u:o.op=.call {callee:=.value q,args:=xs,argTypes:=e})(t:eQ (bU φ q)=aa (f,cap)){ps:List Prop}(b:wG (xs.toList.map (bU φ)++fP cap) (fU ks a)=aa ps)(p:az ps)(i:lE ks.length a=ab)(m:j3 ks σ=aa c)(r:cx c=ab)(d:∀j,cx (σ1 j)=ab)(v:dH ks=ab)(l:∀j,bA ks.length (σ1 j).length=ab)(w:gg N o.dst=ab)(k:∀j,AK X N Qf (.ops all rest::K) .normal (kH o.dst (iu (ks++k9 σ.length ((σ1 j).length-ks.length)) (res j)) φ) (dW ks (σ1 j) σ)):AK X N Qf (.ops all (o::rest)::K) .normal φ σ :=
 iw.Ci (λ_ _ _ _=>dK n) u t ks g (λs vs h=>vP b p h) i m r d v (λj=>db (l j)) o.dst rfl (gK w) k
def Kx{a:Act}{d:Nat}{v:ah}(h:d<a.tmps.size):(a.put (aa d) v).tmps.getD d ai=v:=by simp[Act.put,dZ,wo h]
def me{P:ar}{f:aJ}{fn:Func}{e:Array ah->Sem ah}(c:P.funcs[f]?=aa fn)(a:(fn.name== "runtime.NumGoroutine")=ae)(h:fn.body.isNone=ab)(g:Extern.findNext fn=af)(j:Extern.find fn=aa e)(args:Array ah)(b:di P (e args))(w:aA)(es:Array Event):
  (callFunc f args).events P w es=es.push ⟨.mark (.extern f),ae,ab⟩:=by
 have d:fn.name≠ "runtime.NumGoroutine":=by grind
 have i:fn.body=af:=by simpa using h
 simp[callFunc,c,d,i,g,j];rw[b w]
section
variable {P:ar}{X:Cx P}{N:Nat}{Qf:Post}{K:List It}{φ:Fr}{σ:List aR}{all rest:List au}{o:au}
def ee(P:ar)(N:Nat)(o:au)(φ:Fr)(σ:List aR){ι:Type}(x:ι->D)(σ':ι->List aR):Prop :=
 ∀s a,cu N σ s φ a->aF σ s->∃i b s' v,(aw a.eval o).run P s.w=.ok b s'.w/\(b=.value v∨(b=.skip/\v=ai))/\dt (σ' i) s' v (x i)/\aF (σ' i) s'/\Step σ s (σ' i) s'/\fg s ((aw a.eval o).events P s.w #[])
def AK.hand{ι:Type}(x:ι->D)(σ':ι->List aR)(y:o.guard=af)(A:gg N o.dst=ab)(h:ee P N o φ σ x σ')(k:∀i,AK X N Qf (.ops all rest::K) .normal (kH o.dst (x i) φ) (σ' i)):AK X N Qf (.ops all (o::rest)::K) .normal φ σ:=by
 intro s a f hh b kk cs S idx hb jE hQ;cases idx with
 |nil=>exact jE.elim
 |cons j idx =>
 refine rK hb jE.1 (dK y) λw d=>?_;have c:=hh.rely d;have l:=f.rely d hh;obtain⟨i,B,s',v,h1,h2,z,n,m,r⟩:=h w a l c;have e:=m.nF c;refine⟨B,s',v,h1,h2,⟨⟨σ,σ' i,c,n,m⟩,r⟩,?_⟩;refine k i s' _ ?_ n b kk cs S idx hb jE.2 λg σ2 s2 a2 q p h2 st=>hQ g σ2 s2 a2 q p h2 ((d.stepW.trans e).trans st);cases u:o.dst with
 |none=>exact l.mono e c.len
 |some t=>exact(l.mono e c.len).put (gK A t u) z
def AK.law{x:D}{σ':List aR}(h:bM P o (bU φ) σ x σ')(a:o.guard=af)(b:gg N o.dst=ab)(k:AK X N Qf (.ops all rest::K) .normal (kH o.dst x φ) σ'):AK X N Qf (.ops all (o::rest)::K) .normal φ σ :=
 AK.one (.kT (λ_ _ _ _=>dK a) h) b k
def rf(all:List au)(φ:Fr)(o:au):Bool:=match o.guard with
 |none=>ab
 |some (j,b)=>match Ay φ all j with
  |some (aa ab)=>b
  |some (aa ae)=>!b
  |_=>ae
def fD{all:List au}{o:au}{φ:Fr}(h:rf all φ o=ab):∀σ s a,cu N σ s φ a->bg o (yielded all.toArray a.tmps)=ab:=by
 intro σ s a f;unfold rf at h;split at h
 .grind [dK]
 .rename_i j b d;split at h
  .rename_i c;simp only[bg,d,qF c f,h];rfl
  .rename_i c;simp only[bg,d,qF c f];grind
  grind
def AK.OJ{m:aq}{xs:Array aq}{e:Array aj}{f:aJ}{cap:List C}{a:List D}{c σ1:List aR}{res:D}(g:Ev X f a c res σ1)(ks:List Nat)(l:rf all φ o=ab)(q:o.op=.call {callee:=.value m,args:=xs,argTypes:=e})(p:eQ (bU φ m)=aa (f,cap))(b:mS (xs.toList.map (bU φ)++fP cap)=fU ks a)(h:lE ks.length a=ab)(j:j3 ks σ=aa c)(n:cx c=ab)(d:cx σ1=ab)(r:dH ks=ab)(i:bA ks.length σ1.length=ab)(s:gg N o.dst=ab)(k:AK X N Qf (.ops all rest::K) .normal (kH o.dst (iu (ks++k9 σ.length (σ1.length-ks.length)) res) φ) (dW ks σ1 σ)):AK X N Qf (.ops all (o::rest)::K) .normal φ σ :=
 iw.call (fD l) q p ks g b h j n d r (db i) o.dst rfl (gK s) k
end
inductive nD where
 |nil (a:Option Addr)
 |row (b cap:Nat)
def lA(bf:nD)(n:Nat):ah:=match bf with
 |.nil a=>.slice a 0 0
 |.row b cap=>.slice (aa ⟨b,0,af⟩) n cap
def nJ(bf:nD)(n:Nat):cN (lA bf n)=ab:=by cases bf<;>rfl
def N8(xs:List ah):Nat->List C:=λi=>[.val (xs.getD i ai)]
section
variable {P:ar}{X:Cx P}{N:Nat}{Qf:Post}{K:List It}{φ:Fr}{σ:List aR}{all rest:List au}{o:au}
def AW.tO{ι:Type}{c:Code}{Q:Post}{φ':ι->Fr}{σ':ι->List aR}(h:∀s a,cu N σ s φ a->aF σ s->∃(i:ι)(s':St),s'.w=s.w/\cu N (σ' i) s' (φ' i) a/\aF (σ' i) s'/\Step σ s (σ' i) s')(k:∀i,AW X N c Q (φ' i) (σ' i)):AW X N c Q φ σ:=by intro s a n hh b kk cs S r m;obtain⟨i,s',p,j,f,st⟩:=h s a n hh;have d:=st.nF hh;refine .ghost (.of hh f p d) ?_;exact k i s' a j f b kk cs S r λe g σ2 s2 a2 q l h2 mR=>m e g σ2 s2 a2 q l h2 (d.trans mR)
def AK.N9{ι:Type}(l:Nat){H:ah->(Nat->Option Obj)->Prop}(H':ι->ah->(Nat->Option Obj)->Prop){c:Code}(hl:σ[l]?=aa (.cm H))(h:∀v ch,H v ch->∃i,H' i v ch)(kk:∀i,AK X N Qf (.code c::K) .normal φ (σ.set l (.cm (H' i)))):AK X N Qf (.code c::K) .normal φ σ:=by
 refine AW.tO (φ':=λ_=>φ) (σ':=λi=>σ.set l (.cm (H' i))) (λs a k hh=>?_) kk;have g:l<σ.length:=(b6.1 hl).1;have f:l<s.β.length:=by rw[hh.len];grind
 have m:=br f;generalize s.β[l]=L at m;obtain⟨ch,p,d,j,n⟩:=hh.box l _ L hl m;obtain⟨i,hi⟩:=h _ _ p;have ex:Ext σ s (σ.set l (.cm (H' i))) s:=by
  refine⟨λ_ _ _ h=>h,λl' B L' kv fA=>?_⟩;by_cases e:l=l'
  .subst e;rw[hl]at kv;cases kv;exact⟨.cm (H' i),L',by grind,fA,rfl⟩
  .exact⟨B,L',by grind,fA,.refl _ _⟩
 have st:Step σ s (σ.set l (.cm (H' i))) s :=
  ⟨bc _,λ_ _ _=>rfl,λ_ _ _ h=>h,λ_ _ _ _=>rfl,λL h b q=>.inr ⟨L,h,q⟩,ex.box,rfl,rfl,rfl,rfl⟩
 refine⟨i,s,rfl,⟨k.size,k.defers.imp λ_ h1=>h1.mono st.ext,λu=>(k.slot u).mono st.ext hh.len⟩,⟨hh.mem,by simp[hh.len],?_,hh.eO,hh.lt,hh.own⟩,st⟩;intro l' B L' kv fA;by_cases e:l=l'
 .subst e;rw[gn g]at kv;cases kv;rw[m]at fA;cases fA;exact⟨ch,hi,d,j,n⟩
 .rw[kC e]at kv;exact(hh.box l' B L' kv fA).carry ex hh.len λ_ _=>⟨rfl,λ_=>rfl⟩
end
def vk:C->Bool
 |.int _ _|.bool _|.str _|.fz|.iI|.yw|.val _=>ab
 |_=>ae
def wy:A->Bool
 |.c x=>vk x
 |.any=>ab
 |_=>ae
def N5:List A->Bool
 |[]=>ab
 |a::r=>match wy a with|true=>N5 r|false=>ae
def JN:E1->Bool
 |.one a=>wy a
 |.agg cs=>N5 cs
def Gn:List E1->Bool
 |[]=>ab
 |a::r=>match JN a with|true=>Gn r|false=>ae
def N6:D->Bool
 |.e x=>JN x
 |.fa xs=>Gn xs
 |.any=>ab
section
variable {σ σ':List aR}{s s':St}
theorem qy{M M':Mem}{v:ah}{c:C}(h:vk c=ab)(r:Rd M v c):Rd M' v c:=by
 cases r<;>first|(simp[vk]at h;done)|skip
 case int h1=>exact .int h1
 case bool=>exact .bool
 case str h1 h2=>exact .str h1 h2
 case fz=>exact .fz
 case iI=>exact .iI
 case yw=>exact .yw
 case val h1=>exact .val h1
def Gp{v:ah}{a:A}(h:wy a=ab)(r:gB σ s v a):gB σ' s' v a:=by
 cases a with
 |c x=>exact qy h r
 |any=>exact r
 |_=>simp[wy]at h
def Gq:∀{vs:List ah}{cs:List A},N5 cs=ab->ei σ s vs cs->ei σ' s' vs cs
 |[],[],_,_=>trivial
 |[],_::_,_,r=>r.elim
 |_::_,[],_,r=>r.elim
 |v::vs,c::cs,h,r=>by
  simp only[N5]at h;cases a:wy c with
  |false=>grind
  |true=>simp only[a]at h;exact⟨Gp a r.1,Gq h r.2⟩
def Ag{v:ah}{x:E1}(h:JN x=ab)(r:nC σ s v x):nC σ' s' v x:=by
 cases x with
 |one a=>exact Gp h r
 |agg cs=>obtain⟨vs,c,b⟩:=r;exact⟨vs,c,Gq h b⟩
def B9:∀{vs:List ah}{cs:List E1},Gn cs=ab->hY σ s vs cs->hY σ' s' vs cs
 |[],[],_,_=>trivial
 |[],_::_,_,r=>r.elim
 |_::_,[],_,r=>r.elim
 |v::vs,c::cs,h,r=>by
  simp only[Gn]at h;cases a:JN c with
  |false=>grind
  |true=>simp only[a]at h;exact⟨Ag a r.1,B9 h r.2⟩
def N7{v:ah}{d:D}(h:N6 d=ab)(r:dt σ s v d):dt σ' s' v d:=by
 cases d with
 |e x=>exact Ag h r
 |fa xs=>obtain⟨vs,b,a⟩:=r;exact⟨vs,b,B9 h a⟩
 |any=>trivial
end
def Ca:List aR->Bool
 |[]=>ab
 |.cm _::r=>Ca r
 |.dead::r=>Ca r
 |_=>ae
def Cb:∀{l:List aR},Ca l=ab->∀B∈l,(∃H,B=.cm H)∨B=.dead
 |[],_,B,hB=>by grind
 |b::r,h,B,hB=>by
  have a:((∃H,b=.cm H)∨b=.dead)/\Ca r=ab:=by cases b<;>simp_all[Ca]
  rcases eB.1 hB with rfl|hB
  .exact a.1
  .exact Cb a.2 B hB
def hU(σ:List aR)(a:Nat)(u:ah)(k n:Nat)(es:Nat->List C):Prop :=
 ∀s,aF σ s->∃(L:Loc) (M':Mem),s.β[a]?=aa L/\(∀b o v,s.M b o=aa v->M' b o=aa v)/\(∀b,b∉L.bs->∀o,M' b o=s.M b o)/\(∀b o v,M' b o=aa v->s.w.cell? ⟨b,o,af⟩=aa v) /\
  (∀b∈L.bs,∀o,s.M b o=af)/\Rd M' u (.sl ae k n es)
section
variable {P:ar}{X:Cx P}{N:Nat}{Qf:Post}{K:List It}{φ:Fr}{σ:List aR}{all rest:List au}{o:au}
def cp.setAt{σ:List aR}{s:St}{d:D}:∀{vs:List ah}{ds:List D}{p:Nat}{v:ah},cp σ s vs ds->vs[p]?=aa v->dt σ s v d->cp σ s vs (ds.set p d)
 |[],[],_,_,_,h,_=>by grind
 |[],_::_,_,_,h,_,_=>h.elim
 |_::_,[],_,_,h,_,_=>h.elim
 |u::vs,e::ds,0,v,h,b,a=>by simp at b;subst b;exact⟨a,h.2⟩
 |u::vs,e::ds,p+1,v,h,b,a=>⟨h.1,cp.setAt (p:=p) h.2 (by grind) a⟩
def j1(σ:List aR)(ds Gr:List D):Prop :=
 ∀s vs,aF σ s->cp σ s vs ds->∃(B:Nat->Prop) (M':Mem),(∀b,B b->∃L∈s.β,b∈L.bs)/\(∀b o v,s.M b o=aa v->M' b o=aa v)/\(∀b,¬B b->∀o,M' b o=s.M b o) /\
  (∀b o v,M' b o=aa v->s.w.cell? ⟨b,o,af⟩=aa v)/\(∀b,B b->∀o,s.M b o=af)/\cp σ {s with M:=M'} vs Gr
def j1.refl(σ:List aR)(ds:List D):j1 σ ds ds:=λs vs hh hr=>⟨λ_=>False,s.M,λ_ h=>h.elim,λ_ _ _ h=>h,λ_ _ _=>rfl,hh.mem,λ_ h=>h.elim,hr⟩
def j1.step{σ:List aR}{ds Gr:List D}(h:j1 σ ds Gr)(p x:Nat){u:ah}{k n:Nat}{es:Nat->List C}(q:Gr[p]?=aa (.e (.one (.v u))))(hl:hU σ x u k n es):j1 σ ds (Gr.set p (.e (.one (.c (.sl ae k n es))))):=by
 classical
 intro s vs hh hr;obtain⟨B,M1,I,y,z,E,F,j⟩:=h s vs hh hr;obtain⟨L,a,m,J,H,G,A,r⟩:=hl s hh;have h1:∀b o v,M1 b o=aa v->(M1 b o).or (a b o)=aa v:=λb o v d=>by grind
 have h2:∀b o v,a b o=aa v->(M1 b o).or (a b o)=aa v:=λb o v d=>by
  cases e:M1 b o with
  |none=>grind
  |some v' =>
   grind
 refine⟨λb=>B b∨b∈L.bs,λb o=>(M1 b o).or (a b o),?_,λb o v d=>h1 b o v (y b o v d),?_,?_,?_,?_⟩
 .grind
 .grind
 .intro b o v d;cases e:M1 b o with
  |none=>grind
  |some v'=>grind
 .grind
 .have e1:Ext σ {s with M:=M1} σ {s with M:=λb o=>(M1 b o).or (a b o)}:=⟨h1,λl B L hB m=>⟨B,L,hB,m,.refl _ _⟩⟩
  have t:=j.mono e1 hh.len;obtain⟨w,f⟩:=cp.get j;have g:p<vs.length:=by grind
  have i:vs[p]?=aa u:=by have:=f p;rw[q,br g]at this;have:=Rd.en (show Rd M1 vs[p] (.val u)from this);grind
  exact t.setAt i (show dt σ {s with M:=λb o=>(M1 b o).or (a b o)} u (.e (.one (.c (.sl ae k n es))))from Rd.mono h2 r)
end
def gf(E:aj)(k:Nat)(bf:nD)(n:Nat)(xs:List ah):ah->(Nat->Option Obj)->Prop:=λv c=>v=.nilFunc/\(∀x∈xs,cN x=ab)/\xs.length=n*k/\match bf with
 |.nil _=>n=0/\c=λ_=>af
 |.row b cap=>n<=cap/\cap<=9223372036854775807/\∃a,(xs++a).length=cap*k/\c=λd=>if d=b then aa (.cells (xs++a).toArray E (0,0))else af
def tP(k:Nat)(xs:List ah):Nat->List C:=λi=>((xs.drop (i*k)).take k).map .val
def Cc{k n i:Nat}{xs:List ah}(a:xs.length=n*k)(hi:i<n):(tP k xs i).length=k:=by
 have:i*k+k<=n*k:=by rw[<-lD];exact eP _ hi
 simp[tP,a];omega
def Cd{k i j:Nat}{xs:List ah}{c:C}(h:(tP k xs i)[j]?=aa c):∃u,xs[i*k+j]?=aa u/\c=.val u:=by simp only[tP,nk,iX,pt]at h;grind
def gf.lookup{E:aj}{k b cap n:Nat}{xs:List ah}{v:ah}{ch:Nat->Option Obj}(h:gf E k (.row b cap) n xs v ch):∃a,(xs++a).length=cap*k/\ch b=aa (.cells (xs++a).toArray E (0,0))/\∀c,(ch c).isSome=ab↔c=b:=by obtain⟨_,_,_,_,_,a,h1,h2⟩:=h;grind
def Rd.U1{M:Mem}{b cap k n:Nat}{xs:List ah}(d:∀x∈xs,cN x=ab)(hl:xs.length=n*k)(e:n<=cap)(f:cap<=9223372036854775807)(h:∀o,M b o=xs[o]?):Rd M (.slice (aa ⟨b,0,af⟩) n cap) (.sl ae k n (tP k xs)):=by refine Rd.rB (M:=M) (k:=k) (n:=n) (es:=tP k xs) (vs:=xs) (a:=aa ⟨b,0,af⟩) (b:=b) (off:=0) (cap:=cap) (t:=ae) ⟨hl,λi hi=>Cc hl hi,λi hi j c hj=>?_⟩ (λ_=>rfl) e f (by simp) (λp u g=>by grind);obtain⟨u,h1,rfl⟩:=Cd hj;exact⟨u,h1,.val (d u (bP h1))⟩
section
variable {P:ar}{X:Cx P}{N:Nat}{Qf:Post}{K:List It}{φ:Fr}{σ:List aR}{all rest:List au}{o:au}
def gf.Ce{E:aj}{k n f:Nat}{bf:nD}{xs:List ah}(hl:σ[f]?=aa (.cm (gf E k bf n xs)))(es:Nat->List C)(r:∀i,i<n->(es i).length=k/\∀M j c x,(es i)[j]?=aa c->xs[i*k+j]?=aa x->Rd M x c):hU σ f (lA bf n) k n es:=by
 intro s hh;have I:f<σ.length:=(b6.1 hl).1;have q:f<s.β.length:=by rw[hh.len];grind
 have z:=br q;generalize s.β[f]=L at z;obtain⟨ch,H,e,D,d⟩:=hh.box f _ L hl z;cases bf with
 |nil a0 =>
  obtain⟨_,_,_,rfl,_⟩:=H;exact⟨L,s.M,z,λ_ _ _ h=>h,λ_ _ _=>rfl,hh.mem,d,Rd.jY⟩
 |row b cap =>
  obtain⟨T,Q,w,J⟩:=H.lookup;obtain⟨O,A,m,g,F,_⟩:=H;have G:b∈L.bs:=(D b).2 (by grind)
  have y:=e b _ w;obtain⟨c1,c2⟩:=hh.Ab (b:=b) (vs:=xs) (d b G) (λo v V=>by
   simp only[aV,y]
   grind)
  refine⟨L,λB o=>if B=b then xs[o]? else s.M B o,z,c2,λB R o=>aY (by grind),c1.mem,d,?_⟩;refine Rd.rB (k:=k) (n:=n) (es:=es) (vs:=xs) (a:=aa ⟨b,0,af⟩) (b:=b) (off:=0) (cap:=cap) (t:=ae) ⟨m,λi hi=>(r i hi).1,λi hi j c hj=>?_⟩ (λ_=>rfl) g F (by simp) (λp u U=>by grind);have S:j<k:=by grind
  have l:i*k+j<xs.length:=by
   rw[m];have:i*k+k<=n*k:=by rw[<-lD];exact eP _ hi
   omega
  exact⟨xs[i*k+j],br l,(r i hi).2 _ j c _ hj (br l)⟩
def ee.oA{k:Nat}{x y:aq}{E:aj}{Y:TI}(h:lL P o x y E Y)(hs:Y.size=k){l:Nat}{bf:nD}{xs:List ah}{n:Nat}(hx:bU φ x=.e (.one (.v (lA bf n))))(hl:σ[l]?=aa (.cm (gf E k bf n xs))){tx:Bool}{es':Nat->List C}(hy:bU φ y=.e (.one (.c (.sl tx k 1 es')))){xv:List ah}(hxv:xv.length=k)(hcx:∀(M:Mem) (v:ah) (j:Nat) (c:C),(es' 0)[j]?=aa c->Rd M v c->xv[j]?=aa v/\cN v=ab)(J:(n+1)*Y.bytes<=140737488355328):
  ee P N o φ σ (λU:nD=>.e (.one (.v (lA U (n+1))))) λU=>σ.set l (.cm (gf E k U (n+1) (xs++xv))):=by
 intro s a hf hh;obtain⟨t,t2,i,i2,ho,hi,G,B,D⟩:=h.op;have RG:l<σ.length:=(b6.1 hl).1;have RH:l<s.β.length:=by rw[hh.len];grind
 have hL:=br RH;generalize s.β[l]=L at hL;obtain⟨ch,Z,W,RJ,Xz⟩:=hh.box l _ L hl hL;have S:=bP hL;have I:=dg hf x;rw[hx]at I;have I:=Rd.en I;have hw:=dg hf y;rw[hy]at hw;have hw:=e9 hw;have Q:=Z.2.1;have T:=Z.2.2.1;have nM:∀b,s.w.heap.size<=b->∀o,s.M b o=af:=λb J o=>by
  cases hm:s.M b o with
  |none=>rfl
  |some v=>have:=hh.block hm;omega
 have mk:∀(M':Mem) (a0:Option Addr) (cap:Nat),lA bf n=.slice a0 n cap->cap<n+1->aF (σ.map λ_=>.dead) {s with M:=M'}->(∀f o v,s.M f o=aa v->M' f o=aa v) ->
   Rd M' (.slice a0 n cap) (.sl ae k n (tP k xs))->(∀{es},fg {s with M:=M'} es->fg s es) ->
   ∃i nx s' v,(aw a.eval o).run P s.w=.ok nx s'.w/\(nx=.value v∨(nx=.skip/\v=ai))/\dt (σ.set l (.cm (gf E k i (n+1) (xs++xv)))) s' v (.e (.one (.v (lA i (n+1)))))/\aF (σ.set l (.cm (gf E k i (n+1) (xs++xv)))) s'/\Step σ s (σ.set l (.cm (gf E k i (n+1) (xs++xv)))) s'/\fg s ((aw a.eval o).events P s.w #[]):=by
  intro M' a0 cap hsl HQ JK hMM hR XA;have F:Rd ({s with M:=M'}:St).M (a.eval y) (.sl tx Y.size 1 es'):=by rw[hs];exact hw.mono hMM
  have hR':Rd ({s with M:=M'}:St).M (.slice a0 n cap) (.sl ae Y.size n (tP k xs)):=by grind
  obtain⟨vs,g,z,A,f2,f3,f4,f5⟩:=iG (P:=P) (s:={s with M:=M'}) (ty:=o.type) hi G B D h.elem JK hR' F HQ J h.bytes;have f6:=jf (P:=P) (s:={s with M:=M'}) (ty:=o.type) hi G B D h.elem JK hR' F HQ J h.bytes;rw[hs]at A f4;have Qx:vs.length=(n+1)*k:=A.len;have NC:xs.length+k=(n+1)*k:=by grind
  have hk0:0<k:=by have:=h.size;omega
  have Ur:∀j,j<k->∃v,vs[n*k+j]?=aa v/\xv[j]?=aa v/\cN v=ab:=λj hj=>by
   have RN:=A.width n (by omega);have hwn:cK n (tP k xs) es' n=es' 0:=by simp[cK]
   rw[hwn]at RN;obtain⟨v,v1,v2⟩:=A.rd n (by omega) j ((es' 0)[j]'(by omega)) (by grind);grind
  have Us:vs=xs++xv:=by
   apply iY;intro q;by_cases e:q<xs.length
   .have hi:q / k<n:=qd (by grind);have UN:q / k*k+q % k=q:=qm q k;have hwl:=Cc (k:=k) T hi;have hap:cK n (tP k xs) es' (q / k)=tP k xs (q / k):=by simp[cK,hi]
    have hjl:q % k<(tP k xs (q / k)).length:=by rw[hwl];exact iS _ hk0
    obtain⟨v,v1,v2⟩:=A.rd (q / k) (by omega) (q % k) ((tP k xs (q / k))[q % k]) (by grind);obtain⟨u,u1,u2⟩:=Cd (br hjl);grind[Rd.en]
   grind
  subst Us;have Ye:∀x∈xv,cN x=ab:=λx hx=>by grind[List.getElem_of_mem]
  let w':aA:=s.w.drew.alloc (.cells (xs++xv++g).toArray E);have N3:w'.heap[s.w.heap.size]?=aa (.cells (xs++xv++g).toArray E (0,0)):=dT s.w.drew _;have B5:w'.heap.size=s.w.heap.size+1:=by show(s.w.drew.heap.push _).size=_;simp
  obtain⟨t1,R⟩:=hh.jM (l:=l) (H':=gf E k (.row s.w.heap.size z) (n+1) (xs++xv)) (L':=⟨L.v,[s.w.heap.size]⟩) (w':=w') hl hL rfl (by omega)
   (λb J _=>cR s.w.drew _ J) (λb J=>by grind)
   ⟨λf=>if f=s.w.heap.size then aa (.cells (xs++xv++g).toArray E (0,0))else af,⟨Z.1,λx hx=>by
    grind,by grind,f2,f3,g,by rw[f4],rfl⟩,λb o J=>by grind,λb=>by by_cases e:b=s.w.heap.size<;>simp[e]⟩ rfl rfl rfl
  refine⟨.row s.w.heap.size z,.value (.slice (aa ⟨s.w.heap.size,0,af⟩) (n+1) z),_,_,?_,.inl rfl,Rd.val rfl,t1,R,?_⟩
  .rw[dn ho,I,hsl];simp only[bT,dx];have f5':(Builtin.append_ #[t,t2] o.type #[.slice a0 n cap,a.eval y]).run P s.w=_:=f5;rw[f5'];rfl
  grind[dn,eU]
 cases bf with
 |nil a0 =>
  obtain⟨_,_,_,rfl,_⟩:=Z;refine mk s.M a0 0 rfl (by simp) (by have:=hh.lW;exact⟨this.mem,this.len,this.box,this.eO,this.lt,this.own⟩) (λ_ _ _ h=>h) Rd.jY (λh=>h)
 |row b cap =>
  obtain⟨g,XB,RO,RP⟩:=Z.lookup;obtain⟨RI,_,_,HQ,HM,_⟩:=Z;have H:b∈L.bs:=(RJ b).2 (by grind);have p:=W b _ RO;have hMb:=Xz b H;have Yf:b<s.w.heap.size:=hh.lt L S b H;have Qw:∀o v,xs[o]?=aa v->s.w.cell? ⟨b,o,af⟩=aa v:=by intro o v ho;simp only[aV,p];grind
  obtain⟨c1,c2⟩:=hh.Ab (b:=b) (vs:=xs) hMb Qw;have XA:∀{es:Array Event},fg {s with M:=λf o=>if f=b then xs[o]? else s.M f o} es->fg s es:=λhe =>
   he.wu (b:=b) S H c2 λf o v I=>by grind
  have hR:=Rd.U1 (M:=λf o=>if f=b then xs[o]? else s.M f o) (b:=b) (cap:=cap) (xs:=xs) Q T HQ HM (λo=>by simp);by_cases m:n+1<=cap
  .have F:Rd ({s with M:=λf o=>if f=b then xs[o]? else s.M f o}:St).M (a.eval y) (.sl tx Y.size 1 es'):=by rw[hs];exact hw.mono c2
   obtain⟨d,A,f2⟩:=kE (P:=P) (s:={s with M:=λf o=>if f=b then xs[o]? else s.M f o}) (ty:=o.type) (n:=n) (b:=b) (cap:=cap) hi G B D h.elem c1 p (by grind) F m;have f6:=ma (P:=P) (s:=s) (ty:=o.type) (n:=n) (b:=b) (cap:=cap) hi G B D h.elem hh p (by grind) (x:=a.eval y) (tx:=tx) (es':=es') (by grind) m S H (λo _=>hMb o);rw[hs]at A f2;have Uq:d.length=k:=by have:=A.len;omega
   have hw0:=A.width 0 (by omega);have Ur:∀j,j<k->∃v,d[j]?=aa v/\xv[j]?=aa v/\cN v=ab:=λj hj=>by obtain⟨v,v1,v2⟩:=A.rd 0 (by omega) j ((es' 0)[j]'(by omega)) (br (by omega));grind
   have V:d=xv:=by apply iY;grind
   subst V;have Ye:∀x∈d,cN x=ab:=λx hx=>by grind[List.getElem_of_mem]
   have hfk:n*k+k<=cap*k:=by rw[<-lD];exact eP _ m
   have hzk:k<=g.length:=by grind
   have O:((xs++g).take (n*k)++d++(xs++g).drop (n*k+d.length))=xs++d++g.drop k:=by rw[<-T,Uq];simp[List.drop_append]
   rw[O]at f2;have RE:(s.w.setRow b (xs++d++g.drop k).toArray).heap[b]?=aa (.cells (xs++d++g.drop k).toArray E (0,0)):=setRow_heap s.w b _ _ E _ p;have Eo:∀f,f≠b->(s.w.setRow b (xs++d++g.drop k).toArray).heap[f]?=s.w.heap[f]?:=λf r=>setRow_other s.w b f _ r;obtain⟨t1,R⟩:=hh.jM (l:=l) (H':=gf E k (.row b cap) (n+1) (xs++d)) (L':=L) (w':=s.w.setRow b (xs++d++g.drop k).toArray) hl hL rfl (by simp)
    (λf r hn=>Eo f (by grind)) (λf r=>.inl r)
    ⟨λf=>if f=b then aa (.cells (xs++d++g.drop k).toArray E (0,0))else af,⟨RI,λx hx=>by
     grind,by grind,m,HM,g.drop k,by grind,rfl⟩,λf o r=>by
     grind,λf=>by grind⟩ rfl rfl rfl
   refine⟨.row b cap,.value (.slice (aa ⟨b,0,af⟩) (n+1) cap),_,_,?_,.inl rfl,Rd.val rfl,t1,R,?_⟩
   .rw[dn ho,I];simp only[bT,dx,lA];have f2':(Builtin.append_ #[t,t2] o.type #[.slice (aa ⟨b,0,af⟩) n cap,a.eval y]).run P s.w=_:=f2;rw[f2'];rfl
   .rw[dn ho,I];exact eU f6
  .exact mk _ (aa ⟨b,0,af⟩) cap rfl (by omega) c1 c2 hR XA
def AK.oA{k:Nat}{x y:aq}{E:aj}{b:TI}(h:lL P o x y E b)(i:b.size=k){d:Nat}(p:o.dst=aa d)(q:o.guard=af)(r:gg N o.dst=ab){l:Nat}{bf:nD}{xs:List ah}{n:Nat}(m:bU φ x=.e (.one (.v (lA bf n))))(hl:σ[l]?=aa (.cm (gf E k bf n xs))){tx:Bool}{es':Nat->List C}(t:bU φ y=.e (.one (.c (.sl tx k 1 es')))){xv:List ah}(g:xv.length=k)(f:∀(M:Mem) (v:ah) (j:Nat) (c:C),(es' 0)[j]?=aa c->Rd M v c->xv[j]?=aa v/\cN v=ab)(s:(n+1)*b.bytes<=140737488355328)(kk:∀a:nD,AK X N Qf (.ops all rest::K) .normal ((d,.e (.one (.v (lA a (n+1)))))::φ) (σ.set l (.cm (gf E k a (n+1) (xs++xv))))):AK X N Qf (.ops all (o::rest)::K) .normal φ σ :=
 AK.hand (ι:=nD) (λa=>.e (.one (.v (lA a (n+1))))) (λa=>σ.set l (.cm (gf E k a (n+1) (xs++xv)))) q r (.oA h i m hl t g f s) λa=>by rw[p];exact kk a
def AK.Oa(t:Nat)(E:aj)(k:Nat){l:Nat}{es:Nat->List C}{c:Code}(j:look φ t=.e (.one (.c (.sl ab l 0 es))))(kk:∀bf:nD,AK X N Qf (.code c::K) .normal ((t,.e (.one (.v (lA bf 0))))::φ) (σ++[.cm (gf E k bf 0 [])])):AK X N Qf (.code c::K) .normal φ σ:=by
 refine AW.tO (λs a d hh=>?_) kk;have g:=d.slot t;rw[j]at g;obtain⟨a0,cap,vs,h,_,_,b,_,_⟩:=(e9 g).flat;have b:=b rfl;subst b;obtain⟨i,f⟩:=hh.ik (B:=.cm (gf E k (.nil a0) 0 [])) (L:=⟨.nilFunc,[]⟩) (.refl _ _) rfl hh ⟨λ_=>af,⟨rfl,by simp,by simp,rfl,rfl⟩,by simp,by simp,by simp⟩ (by simp);refine⟨.nil a0,{s with β:=s.β++[⟨.nilFunc,[]⟩]},rfl,⟨d.size,d.defers.imp λ_ h1=>h1.mono f.ext,λu=>?_⟩,i,f⟩;simp only[look];cases m:aB t u with
 |false=>exact(d.slot u).mono f.ext hh.len
 |true =>
  have e:=bX m;subst e;show Rd _ _ _;rw[h];exact Rd.val rfl
def AK.wz(t l:Nat){E:aj}{k n:Nat}{bf:nD}{xs:List ah}(es:Nat->List C){c:Code}(z:look φ t=.e (.one (.v (lA bf n))))(hl:σ[l]?=aa (.cm (gf E k bf n xs)))(m:∀i,i<n->(es i).length=k/\∀M j c x,(es i)[j]?=aa c->xs[i*k+j]?=aa x->Rd M x c)(kk:AK X N Qf (.code c::K) .normal ((t,.e (.one (.c (.sl ae k n es))))::φ) (σ.set l .dead)):AK X N Qf (.code c::K) .normal φ σ:=by
 refine AK.ghost (λs a g hh=>?_) kk;obtain⟨L,M',w,r,q,y,G,H⟩:=gf.Ce hl es m s hh;have d:l<σ.length:=(b6.1 hl).1;have p:=g.slot t;rw[z]at p;have F:=Rd.en p;have ex:Ext σ s (σ.set l .dead) {s with M:=M'}:=by
  refine⟨r,λl' B L' kv fA=>?_⟩;by_cases e:l=l'
  .subst e;rw[hl]at kv;cases kv;exact⟨.dead,L',by grind,fA,rfl⟩
  .exact⟨B,L',by grind,fA,.refl _ _⟩
 have st:Step σ s (σ.set l .dead) {s with M:=M'}:=by refine⟨bc _,λ_ _ _=>rfl,r,λb _ A o=>q b (A L (bP w)) o,λL h b f=>.inr ⟨L,h,f⟩,ex.box,rfl,rfl,rfl,rfl⟩
 refine⟨{s with M:=M'},rfl,⟨g.size,g.defers.imp λ_ h1=>h1.mono st.ext,λu=>?_⟩,⟨y,by simp[hh.len],?_,hh.eO,hh.lt,hh.own⟩,st⟩
 .simp only[look];cases f:aB t u with
  |false=>exact(g.slot u).mono st.ext hh.len
  |true =>
   have e:=bX f;subst e;show Rd _ _ _;grind
 .intro l' B L' kv fA;by_cases e:l=l'
  .subst e;rw[gn d]at kv;cases kv;trivial
  .rw[kC e]at kv;exact(hh.box l' B L' kv fA).carry ex hh.len λb f=>⟨rfl,q b λD=>e (hh.eO l l' L L' w fA b D f)⟩
end
structure gy(k n:Nat)(es:Nat->List C)(xs:List ah):Prop where
 len:xs.length=n*k
 wid:∀i,i<n->(es i).length=k
 at':∀i,i<n->∀j c,(es i)[j]?=aa c->∃x,xs[i*k+j]?=aa x/\∀M,Rd M x c
def gy.rd{k n:Nat}{es:Nat->List C}{xs:List ah}(h:gy k n es xs):∀i,i<n->(es i).length=k/\∀M j c x,(es i)[j]?=aa c->xs[i*k+j]?=aa x->Rd M x c:=λi hi =>
 ⟨h.wid i hi,λM j c x hj hx=>by obtain⟨y,h1,h2⟩:=h.at' i hi j c hj;grind⟩
def QY(v:ah):A->A
 |.vec 0 _ _ _=>.v v
 |a=>a
def KW(v:ah):E1->E1
 |.one a=>.one (QY v a)
 |e=>e
def EY(v:ah):List E1->List E1
 |[]=>[]
 |a::r=>KW v a::EY v r
def QZ(v:ah):D->D
 |.e x=>.e (KW v x)
 |.fa xs=>.fa (EY v xs)
 |.any=>.any
def m0(n:Nat):A->Bool
 |.vec 0 _ b _=>aB b n
 |a=>wy a
def qL(n:Nat):E1->Bool
 |.one a=>m0 n a
 |e=>JN e
def pR(n:Nat):List E1->Bool
 |[]=>ab
 |a::r=>match qL n a with|true=>pR n r|false=>ae
def vW(n:Nat):D->Bool
 |.e x=>qL n x
 |.fa xs=>pR n xs
 |.any=>ab
section
variable {σ':List aR}{s s':St}{E:aj}{k n:Nat}{es:Nat->List C}{L:Loc}
def KX(i:s.β[0]?=aa L){v:ah}{a:A}(h:m0 n a=ab)(r:gB [aR.vec E k n es] s v a):gB σ' s' v (QY L.v a):=by
 cases a with
 |c x=>exact qy h r
 |any=>exact r
 |vec l k' n' es' =>
  cases l with
  |zero =>
   obtain⟨g,_,b⟩:=r;have b:=b E k n es rfl;have e:=bX h;obtain⟨L',d,f⟩:=b.2 e.symm;rw[i]at d;cases d;show Rd _ _ _;rw[f];exact .val (f▸g.cell)
  |succ l=>simp[m0,wy]at h
 |ptr=>simp[m0,wy]at h
 |ref=>simp[m0,wy]at h
 |bp=>simp[m0,wy]at h
def CP(b:s.β[0]?=aa L){v:ah}{x:E1}(h:qL n x=ab)(r:nC [aR.vec E k n es] s v x):nC σ' s' v (KW L.v x):=by
 cases x with
 |one a=>exact KX b h r
 |agg cs=>exact Ag (x:=.agg cs) h r
def zc(b:s.β[0]?=aa L):∀{vs:List ah}{cs:List E1},pR n cs=ab->hY [aR.vec E k n es] s vs cs->hY σ' s' vs (EY L.v cs)
 |[],[],_,_=>trivial
 |[],_::_,_,r=>r.elim
 |_::_,[],_,r=>r.elim
 |v::vs,c::cs,h,r=>by
  simp only[pR]at h;cases a:qL n c with
  |false=>grind
  |true=>simp only[a]at h;exact⟨CP b a r.1,zc b h r.2⟩
def CQ(a:s.β[0]?=aa L){v:ah}{d:D}(h:vW n d=ab)(r:dt [aR.vec E k n es] s v d):dt σ' s' v (QZ L.v d):=by
 cases d with
 |e x=>exact CP a h r
 |fa xs=>obtain⟨vs,c,b⟩:=r;exact⟨vs,c,zc a h b⟩
 |any=>trivial
end
def vX:List ResultVar->Bool
 |[]=>ab
 |.tmp _::r=>vX r
 |.cell _ _::_=>ae
def uW{P:ar}{a:Act}:∀{rs:List ResultVar},vX rs=ab->∃vs,(∀w,(rs.mapM (gv a)).run P w=Result.ok vs w)/\di P (rs.mapM (gv a))
 |[],_=>⟨[],by simp,by rw[List.mapM_nil];exact .pure⟩
 |.tmp t::r,h=>by
  obtain⟨vs,c,b⟩:=uW (P:=P) (a:=a) (rs:=r) h;refine⟨a.tmps.getD t ai::vs,λw=>?_,?_⟩
  .simp only[lT,bT,gv,dx,b5,c]
  .rw[lT];exact .bind .pure λ_=>.bind b λ_=>.pure
def vh.tmp{P:ar}{f:aJ}{fn:Func}{fr:aU}{v:ah}{s s':St}(h:vh P f fr v s)(x:P.funcs[f]?=aa fn)(i:vX fn.results.toList=ab)(l:∀b o u,s.M b o=aa u->s.w.cell? ⟨b,o,af⟩=aa u):vh P f fr v s':=by
 obtain⟨h1,h2,q,m,c,j,g⟩:=h;have e:c=fn:=by grind
 subst e;let a:Act:={tmps:=fr.tmps,defers:=[]}
 obtain⟨vs,k1,p⟩:=uW (P:=P) (a:=a) i;have e1:∀w,(c.results.mapM (gv a)).run P w=Result.ok vs.toArray w:=λw=>by grind[Array.mapM_eq_mapM_toList,Sem.run_map,Go.Result.andThen_ok]
 have e2:∀w,(results c fr.tmps).run P w=.ok (if h:vs.toArray.size=1 then vs.toArray[0]else .tuple vs.toArray) w:=λw=>by unfold results;rw[bT];refine(dJ (λr=>Result.andThen r _) (e1 w)).trans ?_;simp
 have e3:di P (results c fr.tmps):=by
  unfold results;have e:di P (c.results.mapM (gv a)):=by rw[rv];exact .map p
  exact .bind e λ_=>.pure
 have d:=(g s.w l).1;rw[e2]at d;cases d;exact⟨h1,h2,q,m,c,j,λw _=>⟨e2 w,λe t=>by rw[e3 w #[]]at t;grind⟩⟩
def Ev.thaw{P:ar}{X:Cx P}[X.hU]{f:aJ}{args:List D}{res:D}{E:aj}{k n:Nat}{es:Nat->List C}(h:Ev X f args [] res [.vec E k n es]){fn:Func}(hf:P.funcs[f]?=aa fn)(ht:vX fn.results.toList=ab)(T:vW n res=ab)(O:∀i,i<n->(es i).length=k/\∀c∈es i,vk c=ab):
  ef (ι:={q:nD×List ah // gy k n es q.2}) X f args [] (λq=>QZ (lA q.1.1 n) res) (λq=>[.cm (gf E k q.1.1 n q.1.2)]):=by
 refine⟨h.1,λs vs hr hh S cs hS=>h.2 s vs hr hh S cs λfr v s' hl mJ jh st=>?_⟩;have hβ0:s.β=[]:=jv hh.len;have hlen:s'.β.length=1:=jh.len;obtain⟨L,K⟩:∃L,s'.β=[L]:=by
  match hq:s'.β with
  |[L]=>grind
  |[]=>grind
  |_::_::_=>grind
 have hL:s'.β[0]?=aa L:=by grind
 obtain⟨hb1,hb2⟩:=jh.box 0 _ L rfl hL;rcases hb2 with⟨⟨RJ,V⟩,z⟩|⟨b,cap,cells,U,I,Y,GC⟩
 .subst V;obtain⟨a,cap,vs0,hv,HQ,HM,htc,_⟩:=z.flat;have H:cap=0:=htc rfl;subst H;let y:St:={s' with β:=[⟨.nilFunc,[]⟩]}
  have hg:eF s' y:=⟨rfl,λ_ _ _ h=>h,λ_ _ _=>rfl,jh.mem,λb hb=>by grind⟩
  have t:gy k 0 es []:=⟨by simp,λi hi=>by omega,λi hi=>by omega⟩
  refine .ghost hg (hS ⟨(.nil a,[]),t⟩ fr v y (hl.tmp hf ht jh.mem) ?_ ?_ ?_)
  .have:=CQ (σ':=[aR.cm (gf E k (.nil a) 0 [])]) (s':=y) hL T mJ;rw[hv]at this;exact this
  .refine⟨jh.mem,rfl,λl B L' hB fA=>?_,?_,by grind,λb hb=>⟨(jh.own b hb).1,by grind⟩⟩
   .cases l with
    |zero=>cases hB;cases fA;exact⟨λ_=>af,⟨rfl,by simp,by simp,rfl,rfl⟩,by simp,by simp,by simp⟩
    |succ l=>grind
   grind
  .refine⟨st.size,st.fy,st.mem,st.je,λL' fA b hb=>?_,λl B L' hB=>by grind,st.os,st.tape,st.output,st.own⟩;grind
 .subst U;have R:b∈(⟨.slice (aa ⟨b,0,af⟩) n cap,[b]⟩:Loc).bs:=by simp
  have abl:s.w.heap.size<=b:=by
   rcases st.vK _ (by grind) b R with h1|⟨L0,h1,_⟩
   .exact h1
   grind
  have Yf:b<s'.w.heap.size:=jh.lt _ (by grind) b R;obtain⟨a1,ad8,m,W,r,J,_,hF,hm⟩:=hb1.flat;cases W;have N:m.length=n*k:=hF.len;have ad9:∀p u,m[p]?=aa u->cells[p]?=aa u:=λp u Z=>by obtain⟨b1,aea,e,Zl⟩:=hm p u Z;cases e;have:=jh.mem _ _ _ Zl;simp only[aV,I]at this;simpa using this
  have hnk:n*k<=cells.length:=by rw[Y];exact eP _ r
  have QR:cells.take (n*k)=m:=by apply iY;grind
  have RF:m++cells.drop (n*k)=cells:=by grind[List.take_append_drop]
  have t:gy k n es m:=by refine⟨N,λi hi=>(O i hi).1,λi hi j c hj=>?_⟩;obtain⟨u,u1,u2⟩:=hF.rd i hi j c hj;grind[qy]
  have A:∀x∈m,cN x=ab:=λx hx=>by
   obtain⟨p,Z,rfl⟩:=dG hx;have hk:0<k:=by grind
   have hi:p / k<n:=qd (by grind);have UN:p / k*k+p % k=p:=qm p k;have hj:p % k<(es (p / k)).length:=by rw[(O _ hi).1];exact iS _ hk
   obtain⟨u,u1,u2⟩:=t.at' _ hi _ _ (br hj);rw[UN,br Z]at u1;cases u1;exact(u2 s.M).cell
  have G:∀d o v',s.M d o=aa v'->d≠b:=λd o v' hm' e=>by have:=hh.block hm';omega
  let Q:Mem:=λd o=>if d=b then af else s'.M d o;let s1:St:={s' with β:=[],own:=λx=>s'.own x∨x=b}
  let s2:St:={s1 with M:=Q}
  let y:St:={s' with β:=[⟨.nilFunc,[b]⟩],M:=Q}
  have F:∀d o v',Q d o=aa v'->s'.M d o=aa v':=λd o v' h'=>by grind
  have Ze:eF s' s1:=⟨rfl,λ_ _ _ h=>h,λ_ _ _=>rfl,jh.mem,λd g=>by
   rcases g with(g|g)|⟨L',fA,_⟩
   .grind
   .exact .inr ⟨_,by rw[K];simp;rfl,by grind⟩
   grind⟩
  have XF:nn s1 s2:=⟨rfl,rfl,rfl,F,λd o v' h'=>by grind⟩
  have hg3:eF s2 y:=⟨rfl,λ_ _ _ h=>h,λ_ _ _=>rfl,λd o v' h'=>jh.mem _ _ _ (F _ _ _ h'),λd g=>by grind⟩
  refine .ghost Ze (.forget Cx.hU.ok XF (.ghost hg3 (hS ⟨(.row b cap,m),t⟩ fr v y (hl.tmp hf ht jh.mem) ?_ ?_ ?_)))
  .exact CQ (L:=⟨.slice (aa ⟨b,0,af⟩) n cap,[b]⟩) hL T mJ
  .refine⟨λd o v' h'=>jh.mem _ _ _ (F _ _ _ h'),rfl,λl B L' hB fA=>?_,?_,λL' fA d g=>?_,λd g=>⟨(jh.own d g).1,λL' fA=>?_⟩⟩
   .cases l with
    |zero =>
     cases hB;cases fA;refine⟨λd=>if d=b then aa (.cells (m++cells.drop (n*k)).toArray E (0,0))else af,⟨rfl,A,N,r,J,cells.drop (n*k),?_,rfl⟩,λd o g=>?_,λd=>?_,λd g o=>?_⟩
     .grind
     .grind
     .by_cases e:d=b<;>simp[e]
     grind
    |succ l=>grind
   .grind
   .grind
   .simp[y]at fA;subst fA;have:=(jh.own d g).2 _ (by rw[K];simp;rfl);grind
  .refine⟨st.size,st.fy,λd o v' h'=>?_,λd g hn o=>?_,λL' fA d g=>?_,λl B L' hB=>by grind,st.os,st.tape,st.output,st.own⟩
   .simp only[y,Q,aY (G d o v' h')];exact st.mem _ _ _ h'
   .have:d≠b:=by omega
    simp only[y,Q,aY this];exact st.je d g hn o
   grind
section
variable {P:ar}{X:Cx P}{N:Nat}{Qf:Post}{K:List It}{φ:Fr}{σ:List aR}{all rest:List au}{o:au}
def AK.fact{p:Prop}(h:∀s,aF σ s->p){c:Code}(k:p->AK X N Qf (.code c::K) .normal φ σ):AK X N Qf (.code c::K) .normal φ σ :=
 λs a b hh=>k (h s hh) s a b hh
def AK.JO{p:Prop}(h:∀s,aF σ s->p)(k:p->AK X N Qf (.ops all rest::K) .normal φ σ):AK X N Qf (.ops all rest::K) .normal φ σ :=
 λs a b hh=>k (h s hh) s a b hh
def gf.len{E:aj}{k n l:Nat}{bf:nD}{xs:List ah}(hl:σ[l]?=aa (.cm (gf E k bf n xs)))(s:St)(hh:aF σ s):xs.length=n*k/\n<=9223372036854775807/\(0<n->∃b cap,bf=.row b cap)/\∀a,bf=.nil a->n=0:=by
 have c:l<s.β.length:=by rw[hh.len];grind
 obtain⟨ch,e,_⟩:=hh.box l _ _ hl (br c);cases bf with
 |nil a=>obtain⟨_,_,f,rfl,_⟩:=e;grind
 |row b cap=>obtain⟨_,_,f,h,g,_⟩:=e;grind
def AK.Ob{T:List (Nat×TI)}(hT:cW P T)(l:Nat){x:aq}{f:Array aj}{t:aj}{i:TI}{E0 E:aj}{k n:Nat}{bf:nD}{xs:List ah}(q:o.op=.call {callee:=.builtin .len,args:=#[x],argTypes:=f})(y:f[0]?=aa t)(hi:bG T t=aa i)(A:i.desc=.slice E0)(r:bU φ x=.e (.one (.v (lA bf n))))(hl:σ[l]?=aa (.cm (gf E k bf n xs)))(D:o.guard=af)(F:gg N o.dst=ab)(kk:AK X N Qf (.ops all rest::K) .normal (kH o.dst (.e (.one (.c (.int .i64 n)))) φ) σ):AK X N Qf (.ops all (o::rest)::K) .normal φ σ:=by
 refine AK.hand (ι:=Unit) (λ_=>.e (.one (.c (.int .i64 n)))) (λ_=>σ) D F (λs a z hh=>?_) λ_=>kk;obtain⟨_,h2,_,B⟩:=gf.len hl s hh;have g:=dg z x;rw[r]at g;have g:=Rd.en g;have p:=(hT t i hi).run_underlying (w:=s.w);rw[A]at p;have j:f[0]?=aa t:=y;have h:∃a0 cap,lA bf n=.slice a0 n cap:=by
  cases bf with
  |nil a0=>rw[B a0 rfl];exact⟨a0,0,rfl⟩
  |row b cap=>exact⟨_,cap,rfl⟩
 obtain⟨a0,cap,m⟩:=h;rw[m]at g;refine⟨(),.value (.int .i64 n),s,.int .i64 n,?_,.inl rfl,Rd.int (by simp only[bD];omega),hh,.refl _ _,?_⟩
 .simp[aw,q,resolve,invoke,builtin,Builtin.len_,g,p,goInt,j]
 .have:(aw a.eval o).events P s.w #[]=#[]:=by simp[aw,q,resolve,invoke,builtin,Builtin.len_,g,p,goInt,j]
  rw[this];exact .nil
def q8:List A->Bool
 |[]=>ab
 |.c x::r=>match vk x with|true=>q8 r|false=>ae
 |_=>ae
def nq(vs:List ah)(cs:List A):Prop:=vs.length=cs.length/\∀(j:Nat)(c:C),cs[j]?=aa (A.c c)->∃v,vs[j]?=aa v/\∀M,Rd M v c
theorem nq.of{σ:List aR}{s:St}:∀{vs:List ah}{cs:List A},q8 cs=ab->ei σ s vs cs->nq vs cs
 |[],[],_,_=>⟨rfl,λj c h=>by grind⟩
 |[],_::_,_,r=>r.elim
 |_::_,[],_,r=>r.elim
 |v::vs,.c x::cs,h,r=>by
  simp only[q8]at h;cases a:vk x with
  |false=>grind
  |true =>
   simp only[a]at h;obtain⟨h1,h2⟩:=nq.of h r.2;refine⟨by grind,λj c hj=>?_⟩;cases j with
   |zero=>simp at hj;subst hj;exact⟨v,rfl,λM=>qy a r.1⟩
   |succ j=>grind
 |_::_,.ptr _ _::_,h,_=>by simp[q8]at h
 |_::_,.vec _ _ _ _::_,h,_=>by simp[q8]at h
 |_::_,.ref _::_,h,_=>by simp[q8]at h
 |_::_,.bp _ _::_,h,_=>by simp[q8]at h
 |_::_,.any::_,h,_=>by simp[q8]at h
theorem ei.cN{σ:List aR}{s:St}:∀{vs:List ah}{cs:List A},ei σ s vs cs->∀v∈vs,AM.cN v=ab
 |[],[],_,v,h=>by grind
 |[],_::_,r,_,_=>r.elim
 |_::_,[],r,_,_=>r.elim
 |u::vs,c::cs,r,v,h=>by
  rcases eB.1 h with rfl|h
  .exact gB.cell r.1
  .exact ei.cN r.2 v h
def ee.Ah{T:List (Nat×TI)}(hT:cW P T)(l:Nat){t:aj}{x y:aq}{E:aj}{k n b cap off:Nat}{xs:List ah}{new:List A}{i:TI}(h:o.op=.store t x y)(hi:bG T t=aa i)(hx:bU φ x=.e (.one (.v (.pointer (aa ⟨b,off,af⟩)))))(hy:kI (bU φ y)=aa new)(N3:new.length=i.size)(Z:q8 new=ab)(hl:σ[l]?=aa (.cm (gf E k (.row b cap) n xs)))(U2:off+new.length<=xs.length):
  ee P N o φ σ (ι:={vs:List ah // nq vs new}) (λ_=>.any) (λvs=>σ.set l (.cm (gf E k (.row b cap) n (xs.take off++vs.1++xs.drop (off+vs.1.length))))):=by
 intro s a hf hh;have G:=dg hf x;rw[hx]at G;have G:=Rd.en G;have z:=l4 hy (dg hf y);have RG:l<σ.length:=(b6.1 hl).1;have O:l<s.β.length:=by rw[hh.len];grind
 have V:=br O;generalize s.β[l]=L at V;obtain⟨ch,hH,F,RJ,Xz⟩:=hh.box l _ L hl V;obtain⟨c,XB,R,RP⟩:=gf.lookup hH;obtain⟨W,Y,hxl,I,HM,_⟩:=hH;have S:b∈L.bs:=(RJ b).2 (by grind);have p:=F b _ R;let vs:=(a.eval y).cells.toList;have Q:nq vs new:=nq.of Z z;have Qx:vs.length=new.length:=Q.1;have q:off+0+vs.length<=(xs++c).toArray.size:=by grind
 have B:=run_storeCells_at P b off E vs 0 (xs++c).toArray s.w p q z.cell;simp only[iE]at B;have D:(xs++c).take off++vs++(xs++c).drop (off+vs.length)=(xs.take off++vs++xs.drop (off+vs.length))++c:=by grind
 rw[D]at B;have acF:(xs.take off++vs++xs.drop (off+vs.length)).length=xs.length:=by grind
 have RE:=setRow_heap s.w b (xs++c).toArray ((xs.take off++vs++xs.drop (off+vs.length))++c).toArray E (0,0) p;have J:∀f,f≠b->(s.w.setRow b ((xs.take off++vs++xs.drop (off+vs.length))++c).toArray).heap[f]?=s.w.heap[f]?:=λf m=>setRow_other s.w b f _ m;obtain⟨t1,t2⟩:=hh.jM (l:=l) (H':=gf E k (.row b cap) n (xs.take off++vs++xs.drop (off+vs.length))) (L':=L) (w':=s.w.setRow b ((xs.take off++vs++xs.drop (off+vs.length))++c).toArray) hl V rfl (by simp)
  (λf m hn=>J f (by grind)) (λf m=>.inl m)
  ⟨λf=>if f=b then aa (.cells ((xs.take off++vs++xs.drop (off+vs.length))++c).toArray E (0,0))else af,⟨W,λx hx=>by
   grind[ei.cN],by grind,I,HM,c,by grind,rfl⟩,λf o m=>by
   simp_all,λf=>by simp_all⟩ rfl rfl rfl
 have U:(a.eval y).cells.size=i.size:=by grind
 refine⟨⟨vs,Q⟩,.skip,_,ai,?_,.inr ⟨rfl,rfl⟩,ay,t1,t2,?_⟩
 .have M:(storeCells ⟨b,off,af⟩ (a.eval y).cells.toList).run P s.w=_:=B;simp[aw,h,G,Instr.storeAt,bq,storeVar,(hT t i hi).run_sizeOf,U,M]
 .intro ev g;have e:aw a.eval o=(do storeVar t ⟨b,off,af⟩ (a.eval y);pure .skip):=by simp[aw,h,G,Instr.storeAt,bq]
  rw[e]at g;have H:ev∈(storeCells ⟨b,off,af⟩ (a.eval y).cells.toList).events P s.w #[]:=by
   simp only[storeVar,aM,(hT t i hi).run_sizeOf,U,aP,events_sizeOf,dy,ft,ck,bT,b5,Sem.events_pure]at g;generalize(storeCells ⟨b,off,af⟩ (a.eval y).cells.toList).run P s.w=r at g;cases r with
   |ok v w'=>simpa using g
   |halt x w'=>simpa using g
  rcases dN (a.eval y).cells.toList 0 (xs++c).toArray s.w #[] p q z.cell ev H with JK|⟨j,_,_,rfl⟩
  .grind
  .exact jX (bP V) S (Xz b S _)
def AK.Ah{T:List (Nat×TI)}(hT:cW P T)(l:Nat){t:aj}{x y:aq}{E:aj}{k n b cap off:Nat}{xs:List ah}{new:List A}{i:TI}(h:o.op=.store t x y)(hi:bG T t=aa i)(g:bU φ x=.e (.one (.v (.pointer (aa ⟨b,off,af⟩)))))(p:kI (bU φ y)=aa new)(c:new.length=i.size)(f:q8 new=ab)(hl:σ[l]?=aa (.cm (gf E k (.row b cap) n xs)))(a:off+new.length<=xs.length)(j:o.guard=af)(m:gg N o.dst=ab)(kk:∀vs,nq vs new->AK X N Qf (.ops all rest::K) .normal (kH o.dst .any φ) (σ.set l (.cm (gf E k (.row b cap) n (xs.take off++vs++xs.drop (off+vs.length)))))):AK X N Qf (.ops all (o::rest)::K) .normal φ σ :=
 AK.hand _ _ j m (ee.Ah hT l h hi g p c f hl a) λvs=>kk vs.1 vs.2
def AK.swap(i j:Nat){H1 H2:ah->(Nat->Option Obj)->Prop}{c:Code}(M:i≠j)(hi:σ[i]?=aa (.cm H1))(hj:σ[j]?=aa (.cm H2))(h1:∀v ch,H1 v ch->v=.nilFunc)(h2:∀v ch,H2 v ch->v=.nilFunc)(kk:AK X N Qf (.code c::K) .normal φ ((σ.set i (.cm H2)).set j (.cm H1))):AK X N Qf (.code c::K) .normal φ σ:=by
 refine AK.ghost (λs a D hh=>?_) kk;have H:i<σ.length:=(b6.1 hi).1;have G:j<σ.length:=(b6.1 hj).1;have x:i<s.β.length:=by rw[hh.len];grind
 have w:j<s.β.length:=by rw[hh.len];grind
 obtain⟨m,z⟩:∃L,s.β[i]?=aa L:=⟨_,br x⟩;obtain⟨p,t⟩:∃L,s.β[j]?=aa L:=⟨_,br w⟩;have I:=hh.box i _ m hi z;have J:=hh.box j _ p hj t;have Q:m.v=.nilFunc:=by obtain⟨ch,O,_⟩:=I;grind
 have R:p.v=.nilFunc:=by obtain⟨ch,O,_⟩:=J;grind
 let s':St:={s with β:=(s.β.set i p).set j m}
 have y:∀l,((σ.set i (.cm H2)).set j (.cm H1))[l]?=if l=j then aa (.cm H1)else if l=i then aa (.cm H2)else σ[l]?:=λl=>by grind
 have r:∀l,s'.β[l]?=if l=j then aa m else if l=i then aa p else s.β[l]?:=λl=>by grind
 have F:∀L∈s'.β,L∈s.β:=λL f=>by grind
 have ex:Ext σ s ((σ.set i (.cm H2)).set j (.cm H1)) s':=by
  refine⟨λ_ _ _ h=>h,λl B L hB f=>?_⟩;rw[y,r];by_cases e:l=j
  .subst e;rw[hj]at hB;cases hB;rw[t]at f;cases f;exact⟨.cm H1,m,by simp,by simp,by show m.v=_;grind⟩
  .by_cases A:l=i
   .subst A;rw[hi]at hB;cases hB;rw[z]at f;cases f;exact⟨.cm H2,p,by simp[e],by simp[e],by show p.v=_;grind⟩
   .exact⟨B,L,by grind,by grind,.refl _ _⟩
 have st:Step σ s ((σ.set i (.cm H2)).set j (.cm H1)) s':=by exact⟨bc _,λ_ _ _=>rfl,λ_ _ _ h=>h,λ_ _ _ _=>rfl,λL h b g=>.inr ⟨L,F L h,g⟩,ex.box,rfl,rfl,rfl,rfl⟩
 refine⟨s',rfl,⟨D.size,D.defers.imp λ_ h1=>h1.mono ex,λu=>(D.slot u).mono ex hh.len⟩,⟨hh.mem,by simp[s',hh.len],?_,?_,λL f b g=>hh.lt L (F L f) b g,λb g=>⟨(hh.own b g).1,λL f=>(hh.own b g).2 L (F L f)⟩⟩,st⟩
 .intro l B L hB f;rw[y]at hB;rw[r]at f;split at hB
  .rename_i e;rw[bl e]at f;cases hB;cases f;exact I
  .rename_i e;rw[aY e]at f;split at hB
   .rename_i A;rw[bl A]at f;cases hB;cases f;exact J
   .rename_i A;rw[aY A]at f;exact(hh.box l B L hB f).carry ex hh.len λb g=>⟨rfl,λ_=>rfl⟩
 .intro l l' L1 L2 q1 q2 b g E;rw[r]at q1 q2;have key:∀l L,(if l=j then aa m else if l=i then aa p else s.β[l]?)=aa L->s.β[if l=j then i else if l=i then j else l]?=aa L:=λl L q=>by grind
  have:=hh.eO _ _ L1 L2 (key l L1 q1) (key l' L2 q2) b g E;by_cases e1:l=j<;>by_cases e2:l'=j<;>by_cases e3:l=i<;>by_cases S:l'=i<;>simp_all
def AK.JP{T:List (Nat×TI)}(hT:cW P T){t:aj}{x y:aq}{i p:TI}{E:aj}{n:Nat}{J U:IntKind}(h:o.op=.makeSlice t x y)(hi:bG T t=aa i)(hd:i.desc=.slice E)(hE:bG T E=aa p)(hx:bU φ x=.e (.one (.c (.int J n))))(hy:bU φ y=.e (.one (.c (.int U n))))(H:n*p.bytes<=140737488355328)(W:n<=140737488355328)(hg:o.guard=af)(hN:gg N o.dst=ab)(kk:∀b xs,AK X N Qf (.ops all rest::K) .normal (kH o.dst (.e (.one (.v (lA (.row b n) n)))) φ) (σ++[.cm (gf E p.size (.row b n) n xs)])):AK X N Qf (.ops all (o::rest)::K) .normal φ σ:=by
 refine AK.hand (ι:=Nat×List ah) (λq=>.e (.one (.v (lA (.row q.1 n) n)))) (λq=>σ++[.cm (gf E p.size (.row q.1 n) n q.2)]) hg hN (λs a Y hh=>?_) λq=>kk q.1 q.2;have m:=dg Y x;rw[hx]at m;have m:=e9 m;generalize D:a.eval x=vx at m;cases m;have j:=dg Y y;rw[hy]at j;have j:=e9 j;generalize F:a.eval y=vy at j;cases j;have l:=(hT t i hi).Ut;rw[hd]at l;obtain⟨g,z,I,z2,z3,Z,z5,z6,z7⟩:=(hT E p hE).info;have f:(g.bytes:Int)*(n:Int)<=281474976710656:=by grind
 have r:=run_make (P:=P) (w:=s.w) t E g z l I Z J U n n (by omega) (Int.le_refl _) f (by omega);simp only[cf]at r;let xs:=(madeCells z.cells (n*g.size)).toList;have R:xs.length=n*p.size:=by grind[size_madeCells]
 have hzc:∀v∈z.cells.toList,cN v=ab:=ei.cN (k7 (σ:=σ) (s:=s) z5);have XB:z.cells.toList.length=p.size:=by have:=dJ List.length z5;grind
 have O:∀v∈xs,cN v=ab:=by intro v hv;simp only[xs,madeCells,Array.toList_map,gH]at hv;grind[Nat.mod_lt]
 have hB:eE (σ++[.cm (gf E p.size (.row s.w.heap.size n) n xs)]) {s with w:=s.w.alloc (.cells xs.toArray E),β:=s.β++[⟨.nilFunc,[s.w.heap.size]⟩]} (.cm (gf E p.size (.row s.w.heap.size n) n xs)) ⟨.nilFunc,[s.w.heap.size]⟩:=by
  refine⟨λB=>if B=s.w.heap.size then aa (.cells (xs++[]).toArray E (0,0))else af,⟨rfl,O,R,bc _,by omega,[],by grind,rfl⟩,λB o f=>?_,λB=>?_,λB f o=>?_⟩
  .by_cases e:B=s.w.heap.size
   .subst e;simp only[cq]at f;grind[dT]
   grind
  .by_cases e:B=s.w.heap.size<;>simp[e]
  .simp at f;subst f;cases V:s.M s.w.heap.size o with
   |none=>rfl
   |some v=>have:=hh.block V;omega
 have G:aF σ {s with w:=s.w.alloc (.cells xs.toArray E)}/\Step σ s σ {s with w:=s.w.alloc (.cells xs.toArray E)} :=
  hh.grow (by simp) (λb H=>cR s.w _ H) (λb H o=>rfl) (λb H o v V=>by have:=hh.block V;omega) rfl rfl rfl
 obtain⟨g1,g2⟩:=G.1.ik G.2 rfl hh hB (λb H=>by simp_all)
 refine⟨(s.w.heap.size,xs),.value (.slice (aa ⟨s.w.heap.size,0,af⟩) n n),_,_,?_,.inl rfl,Rd.val rfl,g1,g2,?_⟩
 .simp[aw,h,D,F,r,xs]
 .have e:aw a.eval o=(do pure (.value (<-Instr.makeSlice t (.int J n) (.int U n)))):=by simp[aw,h,D,F]
  rw[e];refine eU ?_;intro e A;have hu:∀u,(underlying t).run P u=.ok (.slice E) u:=λu=>by simp[underlying,l]
  have L:∀u,(typeInfo E).run P u=.ok g u:=λu=>by simp[typeInfo,I]
  have Q:∀u,(zeroValue E).run P u=.ok z u:=λu=>by simp[zeroValue,typeInfo,I,Z]
  have S:∀u,(sizeOf E).run P u=.ok g.size u:=λu=>by simp[sizeOf,typeInfo,I]
  have wl:IntKind.i64.wrap (n:Int)=n:=by grind[IntKind.wrap_i64]
  have n1:¬(n:Int)<0:=by omega
  have n2:¬(281474976710656<(g.bytes:Int)*n):=by omega
  simp[Instr.makeSlice,hu,L,S,asInt,asIntOf,wl,n1,n2]at A;rw[Q]at A;simp only[aP,(di.newRow (P:=P)) _ _,ite_self]at A;unfold askRoom at A;split at A
  .have:e=⟨.mark .noRoom,ae,ab⟩:=by simpa using A
   rw[this];exact .inl rfl
  .simp at A
end
section
variable {σ σ':List aR}{s s':St}{k n d:Nat}{es:Nat->List C}{u:ah}
end
def vl{α:Type}{xs vs:List α}{a:Nat}(h:a+vs.length<=xs.length)(p:Nat):(xs.take a++vs++xs.drop (a+vs.length))[p]?=if a<=p/\p<a+vs.length then vs[p-a]? else xs[p]?:=by
 have b:(xs.take a).length=a:=by grind
 grind
def gy.fH{k n:Nat}{es es':Nat->List C}{xs vs:List ah}{new:List A}(h:gy k n es xs)(i j:Nat)(hi:i<n)(p:nq vs new)(r:j+new.length<=k)(D:∀a,a<n->a≠i->es' a=es a)(hl:(es' i).length=k)(B:∀(q:Nat) (c:C),(es' i)[q]?=aa c->(j<=q/\q<j+new.length/\new[q-j]?=aa (A.c c))∨(¬(j<=q/\q<j+new.length)/\(es i)[q]?=aa c)):gy k n es' (xs.take (i*k+j)++vs++xs.drop (i*k+j+vs.length)):=by
 have v:i*k+k<=n*k:=by rw[<-lD];exact eP _ hi
 have x:=p.1;have t:=h.len;have f:i*k+j+vs.length<=xs.length:=by omega
 refine⟨by grind,λa b=>?_,λa b q c y=>?_⟩
 .by_cases e:a=i
  .grind
  .rw[D a b e];exact h.wid a b
 .rw[vl f];by_cases e:a=i
  .subst e;rcases B q c y with⟨h1,h2,z⟩|⟨h1,h2⟩
   .rw[bl (by omega),show a*k+q-(a*k+j)=q-j by omega];exact p.2 _ c z
   .rw[aY (by omega)];exact h.at' a b q c h2
  .have l:(es a)[q]?=aa c:=by grind
   have w:q<k:=by rw[<-h.wid a b];grind
   rw[aY ?_]
   .exact h.at' a b q c l
   .rcases Nat.lt_or_gt_of_ne e with g|m
    .have:a*k+k<=i*k:=by rw[<-lD];exact eP _ g
     omega
    .have:i*k+k<=a*k:=by rw[<-lD];exact eP _ m
     omega
def gy.snoc{k n:Nat}{es es':Nat->List C}{xs vs:List ah}(h:gy k n es xs)(f:∀i,i<n->es' i=es i)(hl:(es' n).length=k)(j:vs.length=k)(m:∀(q:Nat)(c:C),(es' n)[q]?=aa c->∃v,vs[q]?=aa v/\∀M,Rd M v c):gy k (n+1) es' (xs++vs):=by
 have l:=h.len;refine⟨by grind,λi hi=>?_,λi hi q c p=>?_⟩
 .by_cases e:i=n
  .grind
  .rw[f i (by omega)];exact h.wid i (by omega)
 .by_cases e:i=n
  .grind
  .have a:i<n:=by omega
   have b:(es i)[q]?=aa c:=by grind
   have g:q<k:=by rw[<-h.wid i a];grind
   have:i*k+k<=n*k:=by rw[<-lD];exact eP _ a
   rw[jy (by omega)];exact h.at' i a q c b
def An(T:List (Nat×TI))(φ:Fr):List ResultVar->Option (List D)
 |[]=>aa []
 |.tmp t::r=>match An T φ r with
  |some q=>aa (look φ t::q)
  |none=>af
 |.cell ad t::r=>match An T φ r with
  |some q=>match look φ ad with
   |.e (.one (.c (.rp cs)))=>match bG T t with
    |some i=>match lb i (cs.map A.c)with
     |some e=>aa (.e e::q)
     |none=>af
    |none=>af
   |_=>af
  |none=>af
def Ao{P:ar}{T:List (Nat×TI)}(hT:cW P T){N:Nat}{σ:List aR}{s:St}{φ:Fr}{a:Act}(f:cu N σ s φ a):∀{rs:List ResultVar}{ds:List D},An T φ rs=aa ds ->
  ∃vs,cp σ s vs ds/\∀w,(∀b o u,s.M b o=aa u->w.cell? ⟨b,o,af⟩=aa u)->(rs.mapM (gv a)).run P w=Result.ok vs w/\∀es,∀e∈(rs.mapM (gv a)).events P w es,e∈es∨∃b o u,e=⟨.cell ⟨b,o,af⟩,ae,ae⟩/\s.M b o=aa u
 |[],ds,h=>by cases h;exact⟨[],ay,λw _=>⟨by simp,λes e l=>.inl (by simpa using l)⟩⟩
 |.tmp t::r,ds,h=>by
  simp only[An]at h;cases E:An T φ r with
  |none=>grind
  |some q =>
   simp[E]at h;subst h;obtain⟨vs,Y,W⟩:=Ao hT f E;refine⟨a.tmps.getD t ai::vs,⟨f.slot t,Y⟩,λw p=>?_⟩;obtain⟨k1,R⟩:=W w p;refine⟨by simp only[lT,bT,gv,dx,b5,k1],λes e l=>R es e ?_⟩;simpa[lT,gv,k1]using l
 |.cell ad t::r,ds,h=>by
  simp only[An]at h;cases E:An T φ r with
  |none=>grind
  |some q =>
   simp only[E]at h;have hs:=f.slot ad;generalize look φ ad=x at h hs;split at h
   case h_2=>cases h
   rename_i cs;cases hi:bG T t with
   |none=>grind
   |some i =>
    simp only[hi]at h;cases k:lb i (cs.map A.c)with
    |none=>grind
    |some e0 =>
     simp[k]at h;subst h;obtain⟨vs,Y,W⟩:=Ao hT f E;have z:=e9 hs;generalize hvx:a.tmps.getD ad ai=vx at z;cases z;rename_i b off g S NG;let y:=(bh cs.length).map g;have J:ei σ s y (cs.map A.c):=by
      have key:∀(n:Nat) (ds:List C),(∀j c,ds[j]?=aa c->Rd s.M (g (n+j)) c)->ei σ s ((bh ds.length).map λj=>g (n+j)) (ds.map A.c):=by
       intro n ds;induction ds generalizing n with
       |nil=>intro _;trivial
       |cons d ds ih =>
        intro hd;rw[fb,vE];refine⟨hd 0 d rfl,?_⟩;have:=ih (n+1) (λj c m=>by have:=hd (j+1) c (by grind);grind);grind[Function.comp_def]
      have:=key 0 cs (by grind);grind
     have H:∀(j:Nat) (v:ah),y[j]?=aa v->s.M b (off+j)=aa v:=λj v m=>by
      simp only[y,nk]at m;by_cases O:j<cs.length
      .simp[O]at m;subst m;exact S j cs[j] (br O)
      grind
     let w0:aA:={s.w with heap:=s.w.heap}
     have L:∃v,nC σ s v e0/\∀w,(∀b o u,s.M b o=aa u->w.cell? ⟨b,o,af⟩=aa u)->(loadVar t ⟨b,off,af⟩).run P w=.ok v w:=by
      have Z:=hT t i hi;cases V:i.agg<;>simp only[lb,V]at k
      .cases F:dC 0 (cs.map A.c)with
       |none=>grind
       |some a0 =>
        simp[F]at k;subst k;obtain⟨v,hv,XC⟩:=J.get (b9 F);refine⟨v,XC,λw p=>?_⟩;have:=p _ _ _ (H 0 v hv);simp only[loadVar,bT,Z.kG,b5,V];grind[run_load]
      .cases F:oV i.size (cs.map A.c)with
       |none=>grind
       |some r0 =>
        simp[F]at k;subst k;obtain⟨q1,q2⟩:=nO F;have G:=J.take i.size;rw[<-q1]at G;have hl:(y.take i.size).length=i.size:=by grind
        refine⟨.agg (y.take i.size).toArray,⟨y.take i.size,rfl,G⟩,λw p=>?_⟩
        have B:=run_loadCells_list (P:=P) w ⟨b,off,af⟩ (y.take i.size) (λj v m=>by grind[du])
        rw[hl]at B;simp only[loadVar,bT,Z.kG,b5,V];simp[Z.run_sizeOf,B]
     obtain⟨v,Q,U⟩:=L;refine⟨v::vs,⟨Q,Y⟩,λw p=>?_⟩;obtain⟨k1,R⟩:=W w p;have I:(gv a (.cell ad t))=loadVar t ⟨b,off,af⟩:=by simp[gv,hvx,asAddr]
     refine⟨by grind[Go.Sem.run_bind,Go.Sem.run_pure,Go.Result.andThen_ok],λes e l=>?_⟩;rw[lT,I]at l;simp only[aM,U w p,aP,k1,Sem.events_pure]at l;rcases R _ e l with l|l
     .rcases Ek l with l|l
      .grind
      .obtain⟨j,m,rfl⟩:=gu (hT t i hi) (w:=w) (n:=cs.length) (λj m=>⟨g j,p _ _ _ (S j cs[j] (br m))⟩) (by have:=ld k;grind) e l;exact .inr ⟨b,off+j,g j,rfl,S j cs[j] (br m)⟩
     grind
theorem Am.U5{P:ar}{T:List (Nat×TI)}(hT:cW P T){fn:Func}{φ:Fr}{ds:List D}{d:D}(h:An T φ fn.results.toList=aa ds)(hj:sG ds=aa d):Am P fn φ d:=by
 intro N σ s a f;obtain⟨vs,h1,h2⟩:=Ao hT f h;refine⟨_,Ck hj h1,λw j=>?_⟩;obtain⟨k1,g⟩:=h2 w j;have e1:(fn.results.mapM (gv a)).run P w=Result.ok vs.toArray w:=by grind[Array.mapM_eq_mapM_toList,Sem.run_map,Go.Result.andThen_ok]
 have e2:∀es,∀e∈(fn.results.mapM (gv a)).events P w es,e∈es∨∃b o u,e=⟨.cell ⟨b,o,af⟩,ae,ae⟩/\s.M b o=aa u:=by rw[rv];intro es e c;exact g es e (by simpa using c)
 constructor
 .unfold results;rw[bT];refine(dJ (λr=>Result.andThen r _) (Eq.trans ?_ e1)).trans ?_
  .congr 2
  .simp
 .intro e c;have i:e∈(fn.results.mapM (gv a)).events P w #[]:=by unfold results at c;rw[aM]at c;change e∈((fn.results.mapM (gv a)).run P w).evThen ((fn.results.mapM (gv a)).events P w #[]) _ at c;rw[e1]at c;simpa using c
  grind
section
variable {P:ar}{X:Cx P}{N:Nat}{K:List It}{φ:Fr}{σ:List aR}
def HT(T:List (Nat×TI))(rs:List ResultVar)(ks:List Nat)(φ:Fr)(res:D):Option (List Prop) :=
 match An T φ rs with
 |some ds=>match sG ds with
  |some d=>match wD ks.length res with
   |true=>Ee d (iu ks res)
   |false=>af
  |none=>af
 |none=>af
def AK.RU{T:List (Nat×TI)}(hT:cW P T){fn:Func}{a:Nat}{res:D}{σ':List aR}(ks:List Nat){ps:List Prop}(h:HT T fn.results.toList ks φ res=aa ps)(d:az ps)(c:j3 ks σ=aa σ')(b:kJ σ'=ab)(e:dH ks=ab)(hk:∀j,j<a->ks[j]?=aa j):
  AK X N (rE P fn a res σ') (.code .ret::K) .normal φ σ:=by refine AK.ret ⟨.inl rfl,ks,?_⟩;unfold HT at h;grind[Am.U5]
def Ev.sI{f:aJ}{fn:Func}{c:Code}{args:List D}{σ σ':List aR}{res:D}(d:P.funcs[f]?=aa fn)(a:(fn.name== "runtime.NumGoroutine")=ae)(e:fn.body=aa c)(b:bA args.length fn.ntmps=ab)(h:Fits args σ->AK X fn.ntmps (rE P fn σ.length res σ') [.code c] .normal (ji 0 args) σ):Ev X f args σ res σ':=by refine⟨⟨fn,d,a,by grind⟩,λs vs hr hh=>?_⟩;have:=ef.JS (X:=X) (ι:=Unit) (σ':=λ_=>σ') (res:=λ_=>res) d a e (db b) (AW.mono (AK.of_code (h ⟨s,vs,hr,hh⟩)) λ_ _ _ q=>⟨(),q⟩);exact this.Cg.2 s vs hr hh
def cw.mk{fn:Func}{a:Nat}{res:D}{σ':List aR}(ks:List Nat){ps:List Prop}(h:Ap fn.results.toList ks φ res=aa ps)(d:az ps)(c:j3 ks σ=aa σ')(b:kJ σ'=ab)(e:dH ks=ab)(hk:∀j,j<a->ks[j]?=aa j):cw fn a res σ' .ret φ σ:=by refine⟨.inl rfl,ks,?_⟩;unfold Ap at h;grind
end
def G0{α:Type}{l:Nat}{x:α}:∀{ks:List Nat}{a r:List α},j3 ks a=aa r->l∉ks->j3 ks (a.set l x)=aa r
 |[],a,r,h,_=>h
 |k::ks,a,r,h,b=>by
  simp only[eB,not_or]at b;simp only[j3,fC]at h⊢;rw[kC b.1];cases hk:a[k]? with
  |none=>simp[hk]at h
  |some y =>
   simp only[hk]at h⊢;cases c:j3 ks a with
   |none=>simp[c]at h
   |some q=>rw[G0 c b.2];simp only[c]at h;exact h
def CO{k:Nat}{l:List Nat}(h:iv k l=ae):k∉l:=λhk=>by rw[vO hk]at h;cases h
def oR:Option (Tmp×E1)->List ResultVar
 |none=>[]
 |some q=>[.tmp q.1]
def oD(cs:List A):Option (Tmp×E1)->D
 |none=>.e (.agg cs)
 |some q=>.fa [.agg cs,q.2]
def KT(T:List (Nat×TI))(fn:Func)(a:Nat)(res:D)(σ':List aR):Post:=λe φ σ1 =>
 (e=.ret∨e=.normal)/\∃ks l E cs t ty it ps,∃o:Option (Tmp×E1),(∀q,o=aa q->look φ q.1=.e q.2)/\fn.results.toList=.cell t ty::oR o/\bG T ty=aa it/\it.agg=ab/\cs.length=it.size/\look φ t=.e (.one (.ptr l 0))/\σ1[l]?=aa (.cells E cs)/\l∉ks /\
  Ee (oD cs o) (iu ks res)=aa ps/\az ps/\wD ks.length res=ab/\j3 ks σ1=aa σ'/\kJ σ'=ab/\dH ks=ab/\(∀j,j<a->ks[j]?=aa j)
def ef.SG{P:ar}{ι:Type}{X:Cx P}{T:List (Nat×TI)}(hT:cW P T){f:aJ}{fn:Func}{c:Code}{args:List D}{σ:List aR}{σ':ι->List aR}{res:ι->D}(hf:P.funcs[f]?=aa fn)(OM:(fn.name== "runtime.NumGoroutine")=ae)(p:fn.body=aa c)(hlen:args.length<=fn.ntmps)(h:∀s a,cu fn.ntmps σ s (ji 0 args) a->aF σ s->∀(b:aU) (k:List Item) (cs:List aU) (S:av->St->Prop),b.kind≠.early->b.roundOf=af ->
  (∀e φ' σ1 s' a',(∃j,KT T fn σ.length (res j) (σ' j) e φ' σ1)->cu fn.ntmps σ1 s' φ' a'->aF σ1 s'->cY σ s σ1 s'->ends X S b k cs e a' s')->fL X S (G (b.aT a (.code c::k)) cs) s):ef X f args σ res σ':=by
 refine⟨⟨fn,hf,OM,by rw[p];rfl⟩,λs vs hr hh S cs hS=>?_⟩;obtain⟨hl,hg⟩:=cp.get hr;let b:aU:={fn:=f,tmps:=#[],todo:=[],defers:=[],mode:=.run,kind:=.normal,roundOf:=af}
 have H:Frame.enter P f vs.toArray .normal=b.aT {tmps:=vs.toArray++Array.replicate (fn.ntmps-vs.toArray.size) ai,defers:=[]} [.code c]:=by simp[Frame.enter,Frame.aT,hf,p,b]
 rw[H];refine h s {tmps:=vs.toArray++Array.replicate (fn.ntmps-vs.toArray.size) ai,defers:=[]} ⟨by simp;omega,⟨[],ay⟩,λt=>?_⟩ hh b [] cs S (by simp[b]) rfl ?_
 .rw[oC];simp only[kD,cq,lU];have:=hg t;rcases cM t vs.length with tN|Ux
  .have e:(vs.toArray++Array.replicate (fn.ntmps-vs.toArray.size) ai).getD t ai=(vs[t]?).getD ai:=by simp only[dZ];grind
   rw[e];exact this
  .rw[sd (by omega)];trivial
 .rintro e φ' σ0 s0 a1 ⟨jj,he,ks,l,E,rcs,t,ty,it,ps,o,q0,q1,q2,q3,q4,q5,q6,q7,h3,h4,h5,h6',h7',h8,h9⟩ f0 W YQ;obtain⟨h7,h7n⟩:=y3 h7';have F:=f0.slot t;rw[q5]at F;obtain⟨_,L,bb,r,XW,Zi⟩:=F;obtain⟨b2,d,Yu,U,hrv,hM⟩:=W.box l _ L q6 r;subst Yu;cases XW;let M':Mem:=λm o=>if m=bb then d[o]? else s0.M m o;have abg:∀o v,d[o]?=aa v->s0.w.cell? ⟨bb,o,af⟩=aa v:=λo v ho=>by simpa[aV,U]using ho
  have UQ:∀m o v,s0.M m o=aa v->M' m o=aa v:=λm o v Y=>by grind
  have hcM:∀m o v,M' m o=aa v->s0.w.cell? ⟨m,o,af⟩=aa v:=λm o v Y=>by
   by_cases e:m=bb
   .grind
   .simp only[M',e,ck]at Y;exact W.mem m o v Y
  obtain⟨h',I⟩:=W.gJ (M':=M') (w':=s0.w) (B':=.dead) (L':=⟨.pointer (aa ⟨bb,0,af⟩),[]⟩) q6 r rfl (bc _) (λ_ _ _=>rfl) (λm _ O o=>by grind) UQ hcM (by simp) rfl rfl rfl ay
  have XS:eF s0 ⟨s0.β.set l ⟨.pointer (aa ⟨bb,0,af⟩),[]⟩,M',s0.w,s0.own⟩:=⟨rfl,UQ,λm O o=>by
   have:m≠bb:=by rintro rfl;exact O _ (bP r) (by simp)
   simp only[M',this,ck],hcM,λm O=>by grind⟩
  have f':cu fn.ntmps (σ0.set l .dead) ⟨s0.β.set l ⟨.pointer (aa ⟨bb,0,af⟩),[]⟩,M',s0.w,s0.own⟩ φ' a1:=⟨f0.size,f0.defers.imp λ_ h1=>h1.mono I.ext,λu=>(f0.slot u).mono I.ext W.len⟩
  have h6:=G0 (x:=aR.dead) h6' q7;have Zj:ei (σ0.set l .dead) ⟨s0.β.set l ⟨.pointer (aa ⟨bb,0,af⟩),[]⟩,M',s0.w,s0.own⟩ d rcs:=hrv.mono I.ext W.len;have st:=YQ.trans (I.nF W);let V:ah:=match o with|none=>.agg d.toArray|some q=>.tuple #[.agg d.toArray,a1.tmps.getD q.1 ai]
  have K:∀w,(∀b o u,M' b o=aa u->w.cell? ⟨b,o,af⟩=aa u)->(results fn a1.tmps).run P w=.ok V w/\∀e∈(results fn a1.tmps).events P w #[],∃b o u,e=⟨.cell ⟨b,o,af⟩,ae,ae⟩/\M' b o=aa u:=by
   intro w hw;have R:=hT ty it q2;have hrl:d.length=it.size:=by rw[hrv.length,q4]
   have Ur:∀j v,d[j]?=aa v->w.cell? ⟨bb,0+j,af⟩=aa v:=λj v hj=>hw _ _ _ (by grind);have XH:=run_loadCells_list (P:=P) w ⟨bb,0,af⟩ d (λj v hj=>by rw[du];exact Ur j v hj);rw[hrl]at XH;have HL:(loadVar ty ⟨bb,0,af⟩).run P w=.ok (.agg d.toArray) w:=by simp only[loadVar,bT,R.kG,b5,q3];simp[R.run_sizeOf,XH]
   have XC:fn.results=(ResultVar.cell t ty::oR o).toArray:=by apply Array.ext';simpa using q1
   have N:asAddr (a1.tmps[t]?.getD ai)=(pure ⟨bb,0,af⟩:Sem Addr):=by rw[<-dZ,Zi];rfl
   refine⟨by cases o<;>simp[results,XC,N,HL,V,oR],λe he=>?_⟩;have Vb:e∈(loadVar ty ⟨bb,0,af⟩).events P w #[]:=by cases o<;>simpa[results,XC,N,HL,oR]using he
   obtain⟨j,hj,rfl⟩:=gu R (w:=w) (n:=d.length) (λj hj=>⟨_,Ur j d[j] (br hj)⟩) (by rw[q3,hrl];simp) e Vb;exact⟨bb,0+j,d[j],rfl,by grind⟩
  have fin:∀(fr:aU) s2,cv (⟨s0.β.set l ⟨.pointer (aa ⟨bb,0,af⟩),[]⟩,M',s0.w,s0.own⟩:St) s2->fr.fn=f->fr.tmps=a1.tmps->fr.defers=a1.defers->fr.mode=.returning->fr.kind=.normal->fL X S (G fr cs) s2:=by
   intro fr s2 tI e1 e2 e3 e4 e5;have f2:=f'.rely tI h';have z:=h'.rely tI;have g:=st.trans tI.stepW;have r2:dt (σ0.set l .dead) s2 V (oD rcs o):=by
    have Z:=Zj.mono tI.stepW.ext h'.len;cases o with
    |none=>exact⟨d,rfl,Z⟩
    |some q =>
     have hx:=f2.slot q.1;rw[q0 q rfl]at hx;exact⟨[.agg d.toArray,a1.tmps.getD q.1 ai],rfl,⟨d,rfl,Z⟩,hx,ay⟩
   obtain⟨i,J⟩:=wA (l':=s2.β) h6 z.len;have r4:=(oE h3 h4 r2).sub h6 J h5;obtain⟨c1,c2⟩:=iT h6;obtain⟨d1,d2⟩:=iT J;have Q:∀L∈i,L∈s2.β:=Al J;have Uz:aF (σ' jj) {s2 with β:=i}:=by obtain⟨g1,_⟩:=z.sub h6 J h7 h8;refine⟨g1.mem,g1.len,λj B L hB r=>?_,g1.eO,g1.lt,λb p=>⟨(z.own b p).1,λL r=>(z.own b p).2 L (Q L r)⟩⟩;exact eE.plain (σ:=σ' jj) (s:={s2 with β:=i,own:=wF s2 i}) (s':={s2 with β:=i}) rfl rfl (k8 h7 B (bP hB)) (g1.box j B L hB r)
   have SF:cY σ s (σ' jj) {s2 with β:=i}:=by refine⟨g.size,g.fy,g.mem,g.je,λL r b p=>g.vK _ (Q L r) b p,λl B L hB r=>?_,g.os,g.tape,g.output,g.own⟩;have hl:l<σ.length:=(b6.1 hB).1;obtain⟨B',L',p1,p2,p3⟩:=g.box l B L hB r;grind
   obtain⟨ls,XX⟩:=f2.defers;refine rI ls fr s2 _ z.lW (by grind) e4 (by rw[e3];exact XX.taken z) λs3 A=>?_;have C:cv {s2 with β:=i} {s3 with β:=i}:=by
    refine⟨rfl,A.M,A.own,A.size,λb p=>A.fy b (p.imp id ?_),A.mem,A.os,A.tape,A.output⟩;rintro⟨L,r,p⟩;obtain⟨j,hj,rfl⟩:=dG r;have hj':j<ks.length:=by rw[<-d1];exact hj
    obtain⟨y,y1,y2⟩:=d2 j _ (br hj');obtain⟨x,x1,x2⟩:=c2 j _ (br hj');rw[br hj]at y1;cases y1;refine⟨_,_,y2,λhc=>?_,p⟩;rw[XX.CC _ hc]at x2;cases x2;exact nQ h7n _ (bP x1) rfl
   have hG:eF s3 {s3 with β:=i}:=⟨rfl,λ_ _ _ h=>h,λ_ _ _=>rfl,λb o v Y=>A.mem b o v (by rw[<-A.M];exact Y),λb p=>p.imp id λ⟨L,r,p⟩=>⟨L,by rw[A.β];exact Q L r,p⟩⟩
   have Zk:s2.M=M':=tI.M;refine .ghost hG (hS jj _ V _ ⟨e1,e4,rfl,e5,fn,by grind,λw hw=>?_⟩ (r4.mono C.stepW.ext Uz.len) (Uz.rely C) (SF.trans C.stepW));show(results fn fr.tmps).run P w=_/\∀e∈(results fn fr.tmps).events P w #[],_;rw[e2];have hw':∀b o u,M' b o=aa u->w.cell? ⟨b,o,af⟩=aa u:=λb o u h=>hw b o u (by show s3.M b o=aa u;rw[A.M,Zk];exact h);refine⟨(K w hw').1,λe he=>?_⟩;obtain⟨b,o,u,q1,q2⟩:=(K w hw').2 e he;exact⟨b,o,u,q1,by show s3.M b o=aa u;rw[A.M,Zk];exact q2⟩
  rcases he with rfl|rfl
  .intro pre;exact .ghost XS (.ctl h' rfl (λ_=>El rfl) λs2 tI=>fin _ s2 tI rfl rfl (iD _) rfl rfl)
  .exact .ghost XS (.ctl h' rfl (λ_=>Em rfl) λs2 tI=>fin _ s2 tI rfl rfl (iD _) rfl rfl)
def ef.sI{P:ar}{ι:Type}{X:Cx P}{T:List (Nat×TI)}(hT:cW P T){f:aJ}{fn:Func}{c:Code}{args:List D}{σ:List aR}{σ':ι->List aR}{res:ι->D}(i:P.funcs[f]?=aa fn)(d:(fn.name== "runtime.NumGoroutine")=ae)(l:fn.body=aa c)(g:bA args.length fn.ntmps=ab)(h:Fits args σ->AK X fn.ntmps (λe φ σ1=>∃j,KT T fn σ.length (res j) (σ' j) e φ σ1) [.code c] .normal (ji 0 args) σ):ef X f args σ res σ':=by refine⟨⟨fn,i,d,by rw[l];rfl⟩,λs0 vs hr JK=>?_⟩;have:=ef.SG (X:=X) (σ':=σ') (res:=res) hT i d l (db g) λs a f hh b k cs S hk _ m=>(show AW X fn.ntmps c _ (ji 0 args) σ from AK.of_code (h ⟨s0,vs,hr,JK⟩)) s a f hh b k cs S hk m;exact this.2 s0 vs hr JK
def ei.set{σ:List aR}{s:St}{a:A}{v:ah}:∀{vs:List ah}{cs:List A}{j:Nat},ei σ s vs cs->vs[j]?=aa v->gB σ s v a->ei σ s vs (cs.set j a)
 |[],[],_,_,h,_=>by grind
 |[],_::_,_,h,_,_=>h.elim
 |_::_,[],_,h,_,_=>h.elim
 |u::vs,c::cs,0,h,b,d=>by simp at b;subst b;exact⟨d,h.2⟩
 |u::vs,c::cs,j+1,h,b,d=>⟨h.1,ei.set h.2 (by grind) d⟩
section
variable {P:ar}{X:Cx P}{N:Nat}{Qf:Post}{K:List It}{φ:Fr}{σ:List aR}{c:Code}
def AK.hZ(l j:Nat)(E k:Nat)(es':Nat->List C){E0:aj}{cs:List A}{k':Nat}{x:Nat->List C}(hl:dC l σ=aa (.cells E0 cs))(hj:dC j cs=aa (.c (.sl ab k' 0 x)))(kk:AK X N Qf (.code c::K) .normal φ ((σ++[aR.vec E k 0 es']).set l (.cells E0 (cs.set j (.vec σ.length k 0 es'))))):AK X N Qf (.code c::K) .normal φ σ:=by
 refine AK.ghost (λs a r hh=>?_) kk;have hB:=b9 hl;have J:=b9 hj;have G:l<σ.length:=(b6.1 hB).1;have f:l<s.β.length:=by rw[hh.len];grind
 have D:=br f;generalize s.β[l]=L at D;obtain⟨b,vs,p,d,n,S⟩:=hh.box l _ L hB D;obtain⟨v,O,R⟩:=n.get J;have h1:Rd s.M v (.sl ab k 0 es'):=(Rd.vI (k:=k') (k':=k) (.inr rfl) R).Ei λi hi=>by omega
 have q:eE (σ++[aR.vec E k 0 es']) {s with β:=s.β++[⟨v,[]⟩]} (.vec E k 0 es') ⟨v,[]⟩:=⟨h1.loose,.inl ⟨⟨rfl,rfl⟩,h1⟩⟩;obtain⟨F,I⟩:=hh.ik (.refl _ _) rfl hh q (by simp)
 have t:(σ++[aR.vec E k 0 es'])[l]?=aa (.cells E0 cs):=by grind
 have y:(s.β++[(⟨v,[]⟩:Loc)])[l]?=aa L:=by grind
 have o:(s.β++[(⟨v,[]⟩:Loc)]).set l L=s.β++[⟨v,[]⟩]:=by apply iY;grind
 have z:gI (.cells E0 cs) L (.cells E0 (cs.set j (.vec σ.length k 0 es'))) L:=rfl;have Q:σ.length≠l:=by omega
 have g:eE ((σ++[aR.vec E k 0 es']).set l (.cells E0 (cs.set j (.vec σ.length k 0 es')))) ⟨(s.β++[(⟨v,[]⟩:Loc)]).set l L,s.M,s.w,s.own⟩ (.cells E0 (cs.set j (.vec σ.length k 0 es'))) L:=by
  rw[o];refine⟨b,vs,p,d,?_,S⟩;have ex:Ext (σ++[aR.vec E k 0 es']) {s with β:=s.β++[⟨v,[]⟩]} ((σ++[aR.vec E k 0 es']).set l (.cells E0 (cs.set j (.vec σ.length k 0 es')))) {s with β:=s.β++[⟨v,[]⟩]}:=by
   refine⟨λ_ _ _ h=>h,λi B L' kv fA=>?_⟩;by_cases e:l=i
   .grind
   .exact⟨B,L',by grind,fA,.refl _ _⟩
  have m:ei (σ++[aR.vec E k 0 es']) {s with β:=s.β++[⟨v,[]⟩]} vs cs:=n.mono I.ext hh.len;refine ei.set (m.mono ex F.len) O ?_;refine⟨h1.loose,by simp,λE2 k2 n2 Aa h=>?_⟩;rw[kC (by omega),gk (by omega),Nat.sub_self]at h;cases h;refine⟨bc _,λ_=>⟨⟨v,[]⟩,?_,rfl⟩⟩;simp[<-hh.len]
 obtain⟨T,q2⟩:=F.gJ (M':=s.M) (w':=s.w) (L':=L) t y z (bc _) (λ_ _ _=>rfl) (λ_ _ _ _=>rfl) (λ_ _ _ h=>h) hh.mem (λb H=>⟨.inl H,hh.lt L (bP D) b H⟩) rfl rfl rfl g;have st:=I.trans q2;exact⟨⟨(s.β++[(⟨v,[]⟩:Loc)]).set l L,s.M,s.w,s.own⟩,rfl,⟨r.size,r.defers.imp λ_ h1=>h1.mono st.ext,λu=>(r.slot u).mono st.ext hh.len⟩,T,st⟩
end
section
variable {P:ar}{X:Cx P}{N:Nat}{Qf:Post}{K:List It}{φ:Fr}{σ:List aR}{c:Code}
def AK.VP(t:Nat)(E k:Nat)(es':Nat->List C){k':Nat}{d:Nat->List C}(i:look φ t=.e (.one (.c (.sl ab k' 0 d))))(kk:AK X N Qf (.code c::K) .normal ((t,.e (.one (.bp σ.length (.sl 0 k 0 0))))::φ) (σ++[.buf E k 0 es'])):AK X N Qf (.code c::K) .normal φ σ:=by
 refine AK.ghost (λs a b hh=>?_) kk;have g:=b.slot t;rw[i]at g;obtain⟨h,f⟩:=hh.ik (B:=.buf E k 0 es') (L:=⟨.slice af 0 0,[]⟩) (.refl _ _) rfl hh (.inl ⟨rfl,rfl⟩) (by simp);refine⟨{s with β:=s.β++[⟨.slice af 0 0,[]⟩]},rfl,⟨b.size,b.defers.imp λ_ h1=>h1.mono f.ext,λu=>?_⟩,h,f⟩;simp only[look];cases j:aB t u with
 |false=>exact(b.slot u).mono f.ext hh.len
 |true =>
  have e:=bX j;subst e;exact vJ (E:=E) (es:=es') (e9 g) (by simp) (by simp[<-hh.len])
def AK.te(l j:Nat)(E k:Nat)(es':Nat->List C){E0:aj}{cs:List A}{k':Nat}{z:Nat->List C}(hl:dC l σ=aa (.cells E0 cs))(hj:dC j cs=aa (.c (.sl ab k' 0 z)))(kk:AK X N Qf (.code c::K) .normal φ ((σ++[aR.buf E k 0 es']).set l (.cells E0 (cs.set j (.bp σ.length (.sl 0 k 0 0)))))):AK X N Qf (.code c::K) .normal φ σ:=by
 refine AK.ghost (λs a x hh=>?_) kk;have hB:=b9 hl;have Q:=b9 hj;have I:l<σ.length:=(b6.1 hB).1;have g:l<s.β.length:=by rw[hh.len];grind
 have G:=br g;generalize s.β[l]=L at G;obtain⟨b,vs,r,f,p,U⟩:=hh.box l _ L hB G;obtain⟨v,R,T⟩:=p.get Q;let d:Loc:=⟨.slice af 0 0,[]⟩
 obtain⟨H,O⟩:=hh.ik (B:=.buf E k 0 es') (L:=d) (.refl _ _) rfl hh (.inl ⟨rfl,rfl⟩) (by grind);have y:(σ++[aR.buf E k 0 es'])[l]?=aa (.cells E0 cs):=by grind
 have D:(s.β++[d])[l]?=aa L:=by grind
 have q:(s.β++[d]).set l L=s.β++[d]:=by apply iY;grind
 have F:gI (.cells E0 cs) L (.cells E0 (cs.set j (.bp σ.length (.sl 0 k 0 0)))) L:=rfl;have m:eE ((σ++[aR.buf E k 0 es']).set l (.cells E0 (cs.set j (.bp σ.length (.sl 0 k 0 0))))) ⟨(s.β++[d]).set l L,s.M,s.w,s.own⟩ (.cells E0 (cs.set j (.bp σ.length (.sl 0 k 0 0)))) L:=by
  rw[q];refine⟨b,vs,r,f,?_,U⟩;have ex:Ext (σ++[aR.buf E k 0 es']) {s with β:=s.β++[d]} ((σ++[aR.buf E k 0 es']).set l (.cells E0 (cs.set j (.bp σ.length (.sl 0 k 0 0))))) {s with β:=s.β++[d]}:=by
   refine⟨λ_ _ _ h=>h,λi B L S t=>?_⟩;by_cases e:l=i
   .grind
   .exact⟨B,L,by grind,t,.refl _ _⟩
  have o:ei (σ++[aR.buf E k 0 es']) {s with β:=s.β++[d]} vs cs:=p.mono O.ext hh.len;exact ei.set (o.mono ex H.len) R (vJ (E:=E) (es:=es') T (by grind) (by simp[<-hh.len,d]))
 obtain⟨V,q2⟩:=H.gJ (M':=s.M) (w':=s.w) (L':=L) y D F (bc _) (λ_ _ _=>rfl) (λ_ _ _ _=>rfl) (λ_ _ _ h=>h) hh.mem (λb J=>⟨.inl J,hh.lt L (bP G) b J⟩) rfl rfl rfl m;have st:=O.trans q2;exact⟨⟨(s.β++[d]).set l L,s.M,s.w,s.own⟩,rfl,⟨x.size,x.defers.imp λ_ h1=>h1.mono st.ext,λu=>(x.slot u).mono st.ext hh.len⟩,V,st⟩
end
def rF:Nat->(Nat->List C)->Nat->List C
 |0,es=>es
 |o+1,es=>mf (o+1) es
def vQ(o:Nat)(es:Nat->List C)(i:Nat):rF o es i=es (o+i):=by cases o<;>simp[rF,mf]
def AV(l k n:Nat)(es:Nat->List C)(a:A):Option (A×List Prop):=match HR l a with
 |true=>aa (a,[])
 |false=>match a with
  |.bp l' (.sl g k' o m)=>match aB l' l,aB k' k with
   |true,ab=>aa (.c (.sl ae k m (rF o es)),[g=n,o+m<=n])
   |_,_=>af
  |_=>af
def AX(l k n:Nat)(es:Nat->List C):List A->Option (List A×List Prop)
 |[]=>aa ([],[])
 |a::r=>match AV l k n es a with
  |some (a',p)=>match AX l k n es r with
   |some (r',q)=>aa (a'::r',la p q)
   |none=>af
  |none=>af
def xy(l k n:Nat)(es:Nat->List C):E1->Option (E1×List Prop)
 |.one a=>match AV l k n es a with|some (a,p)=>aa (.one a,p)|none=>af
 |.agg cs=>match AX l k n es cs with|some (cs,p)=>aa (.agg cs,p)|none=>af
def vZ(l k n:Nat)(es:Nat->List C):List E1->Option (List E1×List Prop)
 |[]=>aa ([],[])
 |a::r=>match xy l k n es a with
  |some (a',p)=>match vZ l k n es r with
   |some (r',q)=>aa (a'::r',la p q)
   |none=>af
  |none=>af
def xz(l k n:Nat)(es:Nat->List C):D->Option (D×List Prop)
 |.e x=>match xy l k n es x with|some (x,p)=>aa (.e x,p)|none=>af
 |.fa xs=>match vZ l k n es xs with|some (xs,p)=>aa (.fa xs,p)|none=>af
 |.any=>aa (.any,[])
section
variable {σ1:List aR}{s s2:St}{E k n:Nat}{es:Nat->List C}
structure mq(σ1:List aR)(E k n:Nat)(es:Nat->List C)(s s2:St):Prop where
 fy:∀v a,gB (σ1++[.buf E k n es]) s v a->HR σ1.length a=ab->gB σ1 s2 v a
 JV:∀v k' o m,gB (σ1++[.buf E k n es]) s v (.bp σ1.length (.sl n k' o m))->k'=k->o+m<=n->Rd s2.M v (.sl ae k m (rF o es))
def mq.a(h:mq σ1 E k n es s s2){v:ah}{a a':A}{ps:List Prop}(b:AV σ1.length k n es a=aa (a',ps))(e:az ps)(r:gB (σ1++[.buf E k n es]) s v a):gB σ1 s2 v a':=by
 unfold AV at b;split at b
 .rename_i d;cases b;exact h.fy v a r d
 .split at b
  .rename_i l' g k' o m _;split at b
   .rename_i e1 e2;cases b;have e1:=bX e1;have e2:=bX e2;subst e1 e2;obtain⟨rfl,h2⟩:g=n/\o+m<=n:=e;exact h.JV v _ _ _ r rfl h2
   grind
  grind
def mq.l(h:mq σ1 E k n es s s2):∀{vs:List ah}{cs nG:List A}{ps:List Prop},AX σ1.length k n es cs=aa (nG,ps)->az ps->ei (σ1++[.buf E k n es]) s vs cs->ei σ1 s2 vs nG
 |[],[],_,_,b,_,_=>by cases b;trivial
 |[],_::_,_,_,_,_,r=>r.elim
 |_::_,[],_,_,_,_,r=>r.elim
 |v::vs,c::cs,nG,ps,b,d,r=>by
  simp only[AX]at b;split at b
  .rename_i a' p h1;split at b
   .rename_i r' q h2;cases b;rw[az.cat]at d;exact⟨h.a h1 d.1 r.1,h.l h2 d.2 r.2⟩
   grind
  grind
def mq.e(h:mq σ1 E k n es s s2){v:ah}{x f:E1}{ps:List Prop}(b:xy σ1.length k n es x=aa (f,ps))(d:az ps)(r:nC (σ1++[.buf E k n es]) s v x):nC σ1 s2 v f:=by
 cases x with
 |one a =>
  simp only[xy]at b;split at b
  .rename_i a' p h1;cases b;exact h.a h1 d r
  grind
 |agg cs =>
  simp only[xy]at b;split at b
  .rename_i a' p h1;cases b;obtain⟨vs,g,i⟩:=r;exact⟨vs,g,h.l h1 d i⟩
  grind
def mq.es'(h:mq σ1 E k n es s s2):∀{vs:List ah}{cs nG:List E1}{ps:List Prop},vZ σ1.length k n es cs=aa (nG,ps)->az ps->hY (σ1++[.buf E k n es]) s vs cs->hY σ1 s2 vs nG
 |[],[],_,_,a,_,_=>by cases a;trivial
 |[],_::_,_,_,_,_,r=>r.elim
 |_::_,[],_,_,_,_,r=>r.elim
 |v::vs,c::cs,nG,ps,a,b,r=>by
  simp only[vZ]at a;split at a
  .rename_i a' p h1;split at a
   .rename_i r' q h2;cases a;rw[az.cat]at b;exact⟨h.e h1 b.1 r.1,h.es' h2 b.2 r.2⟩
   grind
  grind
def mq.d(h:mq σ1 E k n es s s2){v:ah}{x f:D}{ps:List Prop}(a:xz σ1.length k n es x=aa (f,ps))(b:az ps)(r:dt (σ1++[.buf E k n es]) s v x):dt σ1 s2 v f:=by
 cases x with
 |e x =>
  simp only[xz]at a;split at a
  .rename_i a' p h1;cases a;exact h.e h1 b r
  grind
 |fa xs =>
  simp only[xz]at a;split at a
  .rename_i a' p h1;cases a;obtain⟨vs,g,i⟩:=r;exact⟨vs,g,h.es' h1 b i⟩
  grind
 |any=>cases a;trivial
def aF.JV(hh:aF (σ1++[.buf E k n es]) s)(D:sK σ1.length σ1=ab):
  ∃s2:St,aF σ1 s2/\eF s s2/\mq σ1 E k n es s s2/\∀{σ0:List aR} {s0:St},cY σ0 s0 (σ1++[.buf E k n es]) s->σ0.length<=σ1.length->cY σ0 s0 σ1 s2:=by
 have hB:(σ1++[aR.buf E k n es])[σ1.length]?=aa (.buf E k n es):=by simp
 have F:s.β.length=σ1.length+1:=by rw[hh.len];simp
 have B:s.β[σ1.length]?=aa s.β[σ1.length]:=br (by omega);generalize s.β[σ1.length]=L at B;have A:=hh.box _ _ L hB B;obtain⟨M',Q,O,J,U⟩:∃M':Mem,(∀b o v,s.M b o=aa v->M' b o=aa v)/\(∀b,b∉L.bs->∀o,M' b o=s.M b o)/\(∀b o v,M' b o=aa v->s.w.cell? ⟨b,o,af⟩=aa v) /\
   (∀v k' o m,gB (σ1++[.buf E k n es]) s v (.bp σ1.length (.sl n k' o m))->k'=k->o+m<=n->Rd M' v (.sl ae k m (rF o es))):=by
  rcases A with⟨rfl,rfl⟩|⟨b,W,vs,zs,rfl,hw,S,T,HM,G,hM⟩
  .refine⟨s.M,λ_ _ _ h=>h,λ_ _ _=>rfl,hh.mem,λv k' o m r e p=>?_⟩;obtain⟨lv,⟨a,a0,cap,W,l,h1,h2,Z,x,h4⟩,_,H⟩:=r;grind[Rd.jY]
  .let M':Mem:=λd o=>if d=b then vs[o]? else s.M d o;have I:∀d o v,s.M d o=aa v->M' d o=aa v:=λd o v l=>by grind
   refine⟨M',I,λd B8 o=>?_,λd o v l=>?_,λv k' o m r e p=>?_⟩
   .grind
   .by_cases e:d=b
    .subst e;simp only[M',cq]at l;simp only[aV,hw];grind
    .simp only[M',e,ck]at l;exact hh.mem d o v l
   .subst e;obtain⟨lv,⟨a,a0,cap,c1,l,h1,h2,Z,x,h4⟩,_,H⟩:=r;obtain⟨L',f,z⟩:=(H _ _ _ _ hB).2 rfl;rw[B]at f;cases f;rw[x]at z;cases z;rw[l];have t:∀i,i<m->∀j c,(rF o es i)[j]?=aa c->∃u,vs[(o+i)*k'+j]?=aa u/\Rd s.M u c:=λi hi j c hj=>by rw[vQ]at hj;exact G.rd (o+i) (by omega) j c hj
    refine .sl b (o*k') (λi j=>(vs[(o+i)*k'+j]?).getD ai) h1 (by omega) (by simp) (λi hi=>by rw[vQ];exact G.width _ (by omega)) (λhm=>?_) (λi hi j c hj=>?_) (λi hi j c hj=>?_)
    .grind
    .grind
    .obtain⟨u,Y,V⟩:=t i hi j c hj;rw[Y];exact V.mono I
 have q:(σ1++[aR.buf E k n es]).set σ1.length .dead=σ1++[.dead]:=by simp
 obtain⟨R,q2⟩:=hh.gJ (M':=M') (w':=s.w) (B':=.dead) (L':=⟨L.v,[]⟩) hB B ay (bc _) (λ_ _ _=>rfl) (λb _ g o=>O b g o) Q J (by simp) rfl rfl rfl ay;rw[q]at R q2;have q3:=R.drop (rest:=[.dead]) D;refine⟨_,q3,⟨rfl,Q,λb g o=>O b (g L (bP B)) o,J,λb g=>?_⟩,⟨λv a r y=>?_,λv k' o m r e p=>U v k' o m r e p⟩,λ{σ0 s0} st hle=>(st.trans (q2.nF hh)).drop (rest:=[.dead]) hle⟩
 .rcases g with g|⟨L',f,g⟩
  .exact .inl g
  .have:=fM f;grind
 .exact(r.mono q2.ext hh.len).drop (rest:=[.dead]) y
end
def ef.K3{P:ar}{ι:Type}{X:Cx P}{f:aJ}{args:List D}{σ:List aR}{res ud:ι->D}{σ1:ι->List aR}{E k:Nat}{n:ι->Nat}{es:ι->Nat->List C}(h:ef X f args σ res (λi=>σ1 i++[.buf E k (n i) (es i)])){ps:ι->List Prop}(g:∀i,xz (σ1 i).length k (n i) (es i) (res i)=aa (ud i,ps i))(e:∀i,az (ps i))(b:∀i,sK (σ1 i).length (σ1 i)=ab)(a:∀i,σ.length<=(σ1 i).length):ef X f args σ ud σ1:=by refine⟨h.1,λs vs hr hh S cs hS=>h.2 s vs hr hh S cs λi fr v s' hl mJ jh st=>?_⟩;obtain⟨s2,c1,c2,c3,c4⟩:=jh.JV (b i);exact .ghost c2 (hS i fr v s2 (hl.mono c2.mem) (c3.d (g i) (e i) mJ) c1 (c4 st (a i)))
def Ev.K3{P:ar}{X:Cx P}{f:aJ}{args:List D}{σ:List aR}{res ud:D}{σ1:List aR}{E k n:Nat}{es:Nat->List C}(h:Ev X f args σ res (σ1++[.buf E k n es])){ps:List Prop}(e:xz σ1.length k n es res=aa (ud,ps))(d:az ps)(b:sK σ1.length σ1=ab)(a:σ.length<=σ1.length):Ev X f args σ ud σ1 :=
 (ef.K3 (ι:=Unit) h.tQ (λ_=>e) (λ_=>d) (λ_=>b) (λ_=>a)).Cg
section
variable {P:ar}{T:List (Nat×TI)}{o:au}{d:aq->D}{σ:List aR}
def Aq{x:aq}{t:aj}(h:o.op=.call {callee:=.builtin .clear,args:=#[x],argTypes:=#[t]})(a:aq->ah):
  aw a o=(do pure (.value (<-Builtin.clear_ #[t] o.type #[a x]))):=by simp[aw,h,resolve,invoke,builtin]
def JU{M:Mem}{z:ah}{f:List C}{m k:Nat}(n:z.cells.toList.map sJ=f.map aa)(hk:f.length=k):Flat M k m (λ_=>f) (Builtin.zeroCells z.cells m).toList:=by
 have b:z.cells.size=k:=by have:=dJ List.length n;grind
 have g:ei [] ⟨[],M,default,λ_=>False⟩ z.cells.toList (f.map A.c):=k7 n;refine⟨by simp[Builtin.zeroCells,b],λ_ _=>hk,λi hi j c s=>?_⟩;have p:j<k:=by grind
 obtain⟨v,v1,q⟩:=g.get (j:=j) (a:=A.c c) (by grind);refine⟨v,?_,q⟩;have h:i*k+j<m*k:=by
  have:i*k+k<=m*k:=by rw[<-lD];exact eP k hi
  omega
 have e:(i*k+j) % k=j:=by grind[Nat.add_mul_mod_self_right,Nat.mod_eq_of_lt]
 have r:j<z.cells.size:=by omega
 have t:z.cells[j]=v:=by grind
 have l:z.cells[j]! = v:=by grind
 simp[Builtin.zeroCells,b,h,e,l]
def bM.RV(hT:cW P T){x:aq}{t:aj}(h:o.op=.call {callee:=.builtin .clear,args:=#[x],argTypes:=#[t]}){i c:TI}{E:aj}(hi:bG T t=aa i)(hd:i.desc=.slice E)(hE:bG T E=aa c){l n q m:Nat}{K:aj}{es:Nat->List C}(hx:d x=.e (.one (.bp l (.sl n c.size q m))))(hl:σ[l]?=aa (.buf K c.size n es))(G:q+m<=n):
  bM P o d σ .any (σ.set l (.buf K c.size n (tU q (q+m) c.zero es))):=by
 intro s ρ hh hr;have h1:=hr x;rw[hx]at h1;change gB σ s (ρ x) (.bp l _)at h1;obtain⟨lv,⟨a,a0,cap,c0,hv,XD,Up,X5,O,V⟩,_,W⟩:=h1;obtain⟨L,X,A⟩:=(W _ _ _ _ hl).2 rfl;rw[O]at A;have f:=(hT t i hi).Ut;rw[hd]at f;rw[Aq h,hv];by_cases hm:m=0
 .subst hm;have hz:tU q (q+0) c.zero es=es:=by funext j;simp only[tU];grind
  have hs:σ.set l (.buf K c.size n es)=σ:=by apply iY;grind
  rw[hz,hs];refine⟨.value (.tuple #[]),s,?_,ay,hh,.refl _ _,?_⟩
  .cases a<;>simp[Builtin.clear_,run_underlying f]
  .intro U p;cases a<;>simp[Builtin.clear_,run_underlying f,aM]at p
 .obtain⟨b,rfl,rfl⟩:=V (by omega);rcases hh.box l _ L hl X with⟨_,rfl⟩|⟨b',c1,vs,H,rfl,g,N,Q,R,Z,hM⟩
  .cases A
  .cases A;obtain⟨inf,z,z1,z2,z3,z4,z5,z6,z7⟩:=(hT E c hE).info;have r:=JU (M:=s.M) (m:=m) z5 z7;have Y:(Builtin.zeroCells z.cells m).toList.length=m*c.size:=r.len;have Qx:=Z.len;have hb:q*c.size+m*c.size<=n*c.size:=by rw[<-iF];exact eP _ G
   have q2:=Z.UK r G;have he:(λi=>if q<=i/\i<q+m then(λ_=>c.zero) (i-q)else es i)=tU q (q+m) c.zero es:=rfl;rw[he]at q2;obtain⟨t1,t2⟩:=hh.dW hl X N Q R g q2 (by grind) hM;have k:∀v∈(Builtin.zeroCells z.cells m).toList,v.oneCell'=ab:=r.cell;have y:=run_storeCells_at P b (q*c.size) K (Builtin.zeroCells z.cells m).toList 0 (vs++H).toArray s.w g (by grind) k;have I:((vs++H).toArray.toList.take (q*c.size+0)++(Builtin.zeroCells z.cells m).toList++(vs++H).toArray.toList.drop (q*c.size+0+(Builtin.zeroCells z.cells m).toList.length))=vs.take (q*c.size)++(Builtin.zeroCells z.cells m).toList++vs.drop (q*c.size+(Builtin.zeroCells z.cells m).toList.length)++H:=by grind
   rw[I]at y;have B:∀u,(zeroValue E).run P u=.ok z u:=λu=>by simp[zeroValue,typeInfo,z1,z4]
   have S:∀u es,(zeroValue E).events P u es=es:=λu es=>by simp[zeroValue,typeInfo,z1,z4,aM]
   obtain⟨J,rfl⟩:∃J,m=J+1:=⟨m-1,by omega⟩
   refine⟨.value (.tuple #[]),_,?_,ay,t1,t2,?_⟩
   .simp[Builtin.clear_,run_underlying f,B,y]
   .intro U p;have F:U∈(storeCells ⟨b,q*c.size,af⟩ (Builtin.zeroCells z.cells (J+1)).toList).events P s.w #[]:=by simp only[Builtin.clear_,aM,iB,kB]at p;simpa[run_underlying f,B,S,y]using p
    rcases dN (Builtin.zeroCells z.cells (J+1)).toList 0 (vs++H).toArray s.w #[] g (by grind) k U F with JK|⟨j,_,_,rfl⟩
    .grind
    .exact jX (bP X) (by simp) (hM _)
end
section
variable {P:ar}{X:Cx P}{N:Nat}{Qf:Post}{K:List It}{φ:Fr}{σ:List aR}{all rest:List au}{o:au}
theorem AK.KD{φ':Fr}{σ':List aR}(h:∀s a,cu N σ s φ a->aF σ s->∃s':St,s'.w=s.w/\cu N σ' s' φ' a/\aF σ' s'/\Step σ s σ' s')(k:AK X N Qf (.ops all rest::K) .normal φ' σ'):AK X N Qf (.ops all rest::K) .normal φ σ:=by intro s a i hh b kk cs S idx hb jE hQ;obtain⟨s',j,f,d,st⟩:=h s a i hh;have c:=st.nF hh;refine .ghost (.of hh d j c) ?_;exact k s' a f d b kk cs S idx hb jE λe σ2 s2 a2 q g h2 mR=>hQ e σ2 s2 a2 q g h2 (c.trans mR)
def AK.GP(t:Nat)(E k:Nat)(es':Nat->List C){k':Nat}{d:Nat->List C}(i:look φ t=.e (.one (.c (.sl ab k' 0 d))))(kk:AK X N Qf (.ops all rest::K) .normal ((t,.e (.one (.bp σ.length (.sl 0 k 0 0))))::φ) (σ++[.buf E k 0 es'])):AK X N Qf (.ops all rest::K) .normal φ σ:=by
 refine AK.KD (λs a b hh=>?_) kk;have g:=b.slot t;rw[i]at g;obtain⟨h,f⟩:=hh.ik (B:=.buf E k 0 es') (L:=⟨.slice af 0 0,[]⟩) (.refl _ _) rfl hh (.inl ⟨rfl,rfl⟩) (by simp);refine⟨{s with β:=s.β++[⟨.slice af 0 0,[]⟩]},rfl,⟨b.size,b.defers.imp λ_ h1=>h1.mono f.ext,λu=>?_⟩,h,f⟩;simp only[look];cases j:aB t u with
 |false=>exact(b.slot u).mono f.ext hh.len
 |true =>
  have e:=bX j;subst e;exact vJ (E:=E) (es:=es') (e9 g) (by simp) (by simp[<-hh.len])
def AK.GQ{T:List (Nat×TI)}(hT:cW P T){t ty:aj}{x:aq}{j g:Nat}(h:o.op=.binOp .eql t x (.const (.slice af j g)) ty){i:TI}{E:aj}(hi:bG T t=aa i)(F:i.desc=.slice E){tt:Bool}{k n:Nat}{es:Nat->List C}(A:bU φ x=.e (.one (.c (.sl tt k n es))))(H:o.guard=af)(B:gg N o.dst=ab)(kk:∀b:Bool,(b=ab->n=0)->AK X N Qf (.ops all rest::K) .normal (kH o.dst (.e (.one (.c (.bool b)))) φ) σ):AK X N Qf (.ops all (o::rest)::K) .normal φ σ:=by
 refine AK.hand (ι:={b:Bool // b=ab->n=0}) (λb=>.e (.one (.c (.bool b.1)))) (λ_=>σ) H B (λs a z hh=>?_) λb=>kk b.1 b.2;have m:=dg z x;rw[A]at m;obtain⟨ad,cap,vs,m,_,_,_,_,D⟩:=(e9 m).flat;have d:=(hT t i hi).Ut;rw[F]at d;have r:=e9 (by have:=dg z x;rw[A]at this;exact this);have p:ad.isNone=ab->n=0:=by
  intro M;rw[m]at r;cases r with
  |sl b off f v I L hk ha D u =>
   grind
 refine⟨⟨ad.isNone,p⟩,.value (.bool ad.isNone),s,.bool ad.isNone,?_,.inl rfl,Rd.bool,hh,.refl _ _,?_⟩
 .have u:(binOp .eql t (.slice ad n cap) (.slice af j g)).run P s.w=.ok (.bool ad.isNone) s.w:=Go.Lib.run_eql_slice_nil s.w t E ad n cap j g d;have l:∀y,eqGuard .eql t x y (.slice ad n cap) (.slice af j g)=pure ():=λy=>by simp[eqGuard]
  have e1:a.eval (.const (.slice af j g))=.slice af j g:=rfl;simp only[aw,h,m,e1,l];simp[u]
 .have G:∀es,(Op.equal t (.slice ad n cap) (.slice af j g)).events P s.w es=es:=λes=>by show(aZ (9999+1) t _ _).events P s.w es=es;unfold aZ;cases ad<;>simp[underlying,d]
  have u:(Op.equal t (.slice ad n cap) (.slice af j g)).run P s.w=.ok ad.isNone s.w:=by show(aZ (9999+1) t _ _).run P s.w=_;grind[Go.Lib.run_equalIn_slice_nil]
  have l:∀y,eqGuard .eql t x y (.slice ad n cap) (.slice af j g)=pure ():=λy=>by simp[eqGuard]
  have e1:a.eval (.const (.slice af j g))=.slice af j g:=rfl;intro J q;exfalso;simp only[aw,h,m,e1,l,binOp]at q;simp[u,G,aM]at q
end
def eG{P:ar}{t:aj}{i:TypeInfo}(h:P.types[t]?=aa i):P.info? t=aa i:=by unfold Tables.info?;rw[bl (iA.1 h).1];exact h
def cW.nil{P:ar}:cW P []:=λ_ _ h=>by cases h
def cW.cons{P:ar}{t:aj}{i:TI}{T:List (Nat×TI)}(h:bH P t i)(r:cW P T):cW P ((t,i)::T):=by
 intro b i2 h2;simp only[bG]at h2;cases a:aB t b with
 |true=>rw[a]at h2;cases h2;rw[<-bX a];exact h
 |false=>rw[a]at h2;exact r b i2 h2
def bH.ic{P:ar}{t:aj}{i:TI}{n:TypeInfo}(h:P.underlying t=aa i.desc)(k:P.types[t]?=aa n)(a:(ET i.desc==i.agg&&n.size==i.size&&n.bytes==i.bytes&&(!i.agg||n.zero.any λz=>match z with|.agg _=>ab|_=>ae)&&i.zero.length==i.size&&i.eq.isEmpty)=ab:=by rfl)(b:n.zero.map (λz=>z.cells.toList.map sJ)=aa (i.zero.map aa):=by rfl):bH P t i:=by
 simp only[bR,gp,List.isEmpty_iff]at a;obtain⟨⟨⟨⟨⟨a1,a2⟩,a3⟩,a4⟩,a5⟩,a6⟩:=a;cases c:n.zero with
 |none=>rw[c]at b;cases b
 |some z =>
  rw[c]at b a4;refine⟨h,a1,⟨n,z,eG k,a2,a3,c,sr b,?_,a5⟩,λh=>absurd a6 h⟩;cases d:i.agg with
  |false=>exact⟨#[],rfl⟩
  |true =>
   rw[d]at a4;cases z<;>first|exact⟨_,rfl⟩|cases a4
namespace R1
abbrev f0(a:String)(b c:Nat)(d:String)(e:Nat):Field:={name:=a,type:=b,offset:=c,embedded:=ae,tag:= "",pkgPath:=d,byteOffset:=e}
def i2:TI:=⟨1,8,ae,TypeDesc.int IntKind.i64,[.int .i64 0],[]⟩
def i3:TI:=⟨1,8,ae,TypeDesc.int IntKind.i64,[.int .i64 0],[]⟩
def i4:TI:=⟨1,1,ae,TypeDesc.bool,[.bool ae],[]⟩
def i5:TI:=⟨1,1,ae,TypeDesc.int IntKind.u8,[.int .u8 0],[]⟩
def i6:TI:=⟨1,1,ae,TypeDesc.int IntKind.u8,[.int .u8 0],[]⟩
def i8:TI:=⟨4,24,ab,bu #[(f0 "x" 2 0 "runtime" 0),(f0 "y" 3 1 "runtime" 8),(f0 "signed" 4 2 "runtime" 16),(f0 "code" 6 3 "runtime" 17)],[.int .i64 0,.int .i64 0,.bool ae,.int .u8 0],[]⟩
def i9:TI:=⟨1,16,ae,TypeDesc.string,[.str []],[]⟩
def i12:TI:=⟨1,8,ae,TypeDesc.int IntKind.u64,[.int .u64 0],[]⟩
def i16:TI:=⟨1,8,ae,TypeDesc.pointer 326,[.fz],[]⟩
def i17:TI:=⟨1,8,ae,TypeDesc.pointer 333,[.fz],[]⟩
def i20:TI:=⟨1,16,ae,TypeDesc.interface #[],[.iI],[]⟩
def i21:TI:=⟨1,4,ae,TypeDesc.int IntKind.i32,[.int .i32 0],[]⟩
def i22:TI:=⟨1,24,ae,TypeDesc.slice 5,[.sl ab 0 0 (λ_=>[])],[]⟩
def i23:TI:=⟨1,24,ae,TypeDesc.slice 67,[.sl ab 0 0 (λ_=>[])],[]⟩
def i24:TI:=⟨1,24,ae,TypeDesc.slice 71,[.sl ab 0 0 (λ_=>[])],[]⟩
def i25:TI:=⟨1,24,ae,TypeDesc.slice 48,[.sl ab 0 0 (λ_=>[])],[]⟩
def i27:TI:=⟨3,72,ab,bu #[(f0 "Packs" 23 0 "" 0),(f0 "Snaps" 24 1 "" 24),(f0 "Log" 25 2 "" 48)],[.sl ab 0 0 (λ_=>[]),.sl ab 0 0 (λ_=>[]),.sl ab 0 0 (λ_=>[])],[]⟩
def i28:TI:=⟨1,24,ae,TypeDesc.slice 82,[.sl ab 0 0 (λ_=>[])],[]⟩
def i36:TI:=⟨1,24,ae,TypeDesc.slice 9,[.sl ab 0 0 (λ_=>[])],[]⟩
def i38:TI:=⟨1,24,ae,TypeDesc.slice 91,[.sl ab 0 0 (λ_=>[])],[]⟩
def i48:TI:=⟨2,16,ab,bu #[(f0 "By" 3 0 "" 0),(f0 "Snap" 3 1 "" 8)],[.int .i64 0,.int .i64 0],[TypeDesc.int IntKind.i64,TypeDesc.int IntKind.i64]⟩
def g48:bH ag 48 i48:=⟨Tryz.underlying48,rfl,⟨_,_,eG Tryz.type48,rfl,rfl,rfl,rfl,⟨_,rfl⟩,rfl⟩,λ_=>ll (fs:=[(f0 "By" 3 0 "" 0),(f0 "Snap" 3 1 "" 8)]) Tryz.underlying48 (by decide +kernel) Tryz.eqGuardType48 ⟨by decide,rfl,Tryz.underlying3,ay,by decide,rfl,Tryz.underlying3,ay,ay⟩⟩
def i50:TI:=⟨1,8,ae,TypeDesc.pointer 104,[.fz],[]⟩
def i57:TI:=⟨1,16,ae,TypeDesc.interface #[("Error",264)],[.iI],[]⟩
def i60:TI:=⟨1,8,ae,TypeDesc.pointer 118,[.fz],[]⟩
def i62:TI:=⟨1,8,ae,TypeDesc.pointer 60,[.fz],[]⟩
def i65:TI:=⟨1,24,ae,TypeDesc.slice 76,[.sl ab 0 0 (λ_=>[])],[]⟩
def i67:TI:=⟨2,32,ab,bu #[(f0 "No" 3 0 "" 0),(f0 "Item" 65 1 "" 8)],[.int .i64 0,.sl ab 0 0 (λ_=>[])],[]⟩
def i69:TI:=⟨1,24,ae,TypeDesc.slice 140,[.sl ab 0 0 (λ_=>[])],[]⟩
def i71:TI:=⟨2,32,ab,bu #[(f0 "No" 3 0 "" 0),(f0 "All" 69 1 "" 8)],[.int .i64 0,.sl ab 0 0 (λ_=>[])],[]⟩
def i72:TI:=⟨1,24,ae,TypeDesc.slice 3,[.sl ab 0 0 (λ_=>[])],[]⟩
def i76:TI:=⟨2,24,ab,bu #[(f0 "Name" 3 0 "" 0),(f0 "Body" 9 1 "" 8)],[.int .i64 0,.str []],[TypeDesc.int IntKind.i64,TypeDesc.string]⟩
def g76:bH ag 76 i76:=⟨Tryz.underlying76,rfl,⟨_,_,eG Tryz.type76,rfl,rfl,rfl,rfl,⟨_,rfl⟩,rfl⟩,λ_=>ll (fs:=[(f0 "Name" 3 0 "" 0),(f0 "Body" 9 1 "" 8)]) Tryz.underlying76 (by decide +kernel) Tryz.eqGuardType76 ⟨by decide,rfl,Tryz.underlying3,ay,by decide,rfl,Tryz.underlying9,ay,ay⟩⟩
def i82:TI:=⟨2,32,ab,bu #[(f0 "Path" 9 0 "" 0),(f0 "Text" 9 1 "" 16)],[.str [],.str []],[TypeDesc.string,TypeDesc.string]⟩
def g82:bH ag 82 i82:=⟨Tryz.underlying82,rfl,⟨_,_,eG Tryz.type82,rfl,rfl,rfl,rfl,⟨_,rfl⟩,rfl⟩,λ_=>ll (fs:=[(f0 "Path" 9 0 "" 0),(f0 "Text" 9 1 "" 16)]) Tryz.underlying82 (by decide +kernel) Tryz.eqGuardType82 ⟨by decide,rfl,Tryz.underlying9,ay,by decide,rfl,Tryz.underlying9,ay,ay⟩⟩
def i85:TI:=⟨1,8,ae,TypeDesc.pointer 151,[.fz],[]⟩
def i91:TI:=⟨2,16,ab,bu #[(f0 "Name" 3 0 "" 0),(f0 "Pack" 3 1 "" 8)],[.int .i64 0,.int .i64 0],[TypeDesc.int IntKind.i64,TypeDesc.int IntKind.i64]⟩
def g91:bH ag 91 i91:=⟨Tryz.underlying91,rfl,⟨_,_,eG Tryz.type91,rfl,rfl,rfl,rfl,⟨_,rfl⟩,rfl⟩,λ_=>ll (fs:=[(f0 "Name" 3 0 "" 0),(f0 "Pack" 3 1 "" 8)]) Tryz.underlying91 (by decide +kernel) Tryz.eqGuardType91 ⟨by decide,rfl,Tryz.underlying3,ay,by decide,rfl,Tryz.underlying3,ay,ay⟩⟩
def i94:TI:=⟨1,24,ae,TypeDesc.slice 67,[.sl ab 0 0 (λ_=>[])],[]⟩
def i96:TI:=⟨3,72,ab,bu #[{name:= "packed",type:=94,offset:=0,embedded:=ab,tag:= "",pkgPath:= "loop.example/depositary/impl",byteOffset:=0},(f0 "snaps" 24 1 "loop.example/depositary/impl" 24),(f0 "log" 25 2 "loop.example/depositary/impl" 48)],[.sl ab 0 0 (λ_=>[]),.sl ab 0 0 (λ_=>[]),.sl ab 0 0 (λ_=>[])],[]⟩
def i104:TI:=⟨2,32,ab,bu #[(f0 "b" 22 0 "loop.example/depositary/spec" 0),(f0 "p" 3 1 "loop.example/depositary/spec" 24)],[.sl ab 0 0 (λ_=>[]),.int .i64 0],[]⟩
def i118:TI:=⟨1,16,ab,bu #[(f0 "what" 9 0 "loop.example/depositary/impl" 0)],[.str []],[TypeDesc.string]⟩
def ZW:bH ag 118 i118:=⟨Tryz.underlying118,rfl,⟨_,_,eG Tryz.type118,rfl,rfl,rfl,rfl,⟨_,rfl⟩,rfl⟩,λ_=>ll (fs:=[(f0 "what" 9 0 "loop.example/depositary/impl" 0)]) Tryz.underlying118 (by decide +kernel) Tryz.eqGuardType118 ⟨by decide,rfl,Tryz.underlying9,ay,ay⟩⟩
def i123:TI:=⟨1,8,ae,TypeDesc.unsafePointer,[.fz],[]⟩
def i124:TI:=⟨1,8,ae,TypeDesc.int IntKind.u64,[.int .u64 0],[]⟩
def i126:TI:=⟨3,24,ab,bu #[(f0 "typ_" 17 0 "internal/reflectlite" 0),(f0 "ptr" 123 1 "internal/reflectlite" 8),{name:= "flag",type:=124,offset:=2,embedded:=ab,tag:= "",pkgPath:= "internal/reflectlite",byteOffset:=16}],[.fz,.fz,.int .u64 0],[]⟩
def i129:TI:=⟨1,16,ae,TypeDesc.interface #[("AssignableTo",134),("Comparable",133),("Elem",130),("Implements",134),("Kind",132),("Name",264),("PkgPath",264),("Size",334),("String",264),("internal/reflectlite.common",327),("internal/reflectlite.uncommon",335)],[.iI],[]⟩
def i131:TI:=⟨1,1,ae,TypeDesc.int IntKind.u8,[.int .u8 0],[]⟩
def i140:TI:=⟨2,40,ab,bu #[(f0 "Path" 9 0 "" 0),(f0 "Names" 72 1 "" 16)],[.str [],.sl ab 0 0 (λ_=>[])],[]⟩
def i145:TI:=⟨1,24,ae,TypeDesc.slice 38,[.sl ab 0 0 (λ_=>[])],[]⟩
def i151:TI:=⟨4,32,ab,bu #[(f0 "spot" 91 0 "loop.example/depositary/impl" 0),(f0 "left" 85 2 "loop.example/depositary/impl" 16),(f0 "right" 85 3 "loop.example/depositary/impl" 24)],[.int .i64 0,.int .i64 0,.fz,.fz],[]⟩
def i152:TI:=⟨1,8,ae,TypeDesc.int IntKind.i64,[.int .i64 0],[]⟩
def i162:TI:=⟨1,8,ae,TypeDesc.pointer 165,[.fz],[]⟩
def i165:TI:=⟨3,24,ab,bu #[(f0 "head" 48 0 "loop.example/depositary/impl" 0),(f0 "next" 162 2 "loop.example/depositary/impl" 16)],[.int .i64 0,.int .i64 0,.fz],[]⟩
def i181:TI:=⟨1,8,ae,TypeDesc.pointer 182,[.fz],[]⟩
def i182:TI:=⟨1,24,ae,TypeDesc.slice 76,[.sl ab 0 0 (λ_=>[])],[]⟩
def i191:TI:=⟨1,16,ae,TypeDesc.interface #[("As",193)],[.iI],[]⟩
def i194:TI:=⟨1,16,ae,TypeDesc.interface #[("Unwrap",195)],[.iI],[]⟩
def i196:TI:=⟨1,16,ae,TypeDesc.interface #[("Unwrap",198)],[.iI],[]⟩
def i197:TI:=⟨1,24,ae,TypeDesc.slice 57,[.sl ab 0 0 (λ_=>[])],[]⟩
def i205:TI:=⟨1,24,ae,TypeDesc.slice 218,[.sl ab 0 0 (λ_=>[])],[]⟩
def i207:TI:=⟨0,0,ab,bu #[],[],[]⟩
def i208:TI:=⟨0,0,ab,bu #[],[],[]⟩
def i209:TI:=⟨0,0,ab,bu #[],[],[]⟩
def i210:TI:=⟨1,8,ae,TypeDesc.int IntKind.u64,[.int .u64 0],[]⟩
def i212:TI:=⟨1,8,ab,bu #[(f0 "_" 208 0 "sync/atomic" 0),(f0 "_" 209 0 "sync/atomic" 0),(f0 "v" 210 0 "sync/atomic" 0)],[.int .u64 0],[]⟩
def i213:TI:=⟨1,4,ae,TypeDesc.int IntKind.u32,[.int .u32 0],[]⟩
def i215:TI:=⟨2,16,ab,bu #[(f0 "noCopy" 207 0 "sync" 0),(f0 "state" 212 0 "sync" 0),(f0 "sema" 213 1 "sync" 8)],[.int .u64 0,.int .u32 0],[]⟩
def i218:TI:=⟨2,24,ab,bu #[(f0 "piece" 9 0 "loop.example/depositary/impl" 0),(f0 "ok" 4 1 "loop.example/depositary/impl" 16)],[.str [],.bool ae],[TypeDesc.string,TypeDesc.bool]⟩
def ZX:bH ag 218 i218:=⟨Tryz.underlying218,rfl,⟨_,_,eG Tryz.type218,rfl,rfl,rfl,rfl,⟨_,rfl⟩,rfl⟩,λ_=>ll (fs:=[(f0 "piece" 9 0 "loop.example/depositary/impl" 0),(f0 "ok" 4 1 "loop.example/depositary/impl" 16)]) Tryz.underlying218 (by decide +kernel) Tryz.eqGuardType218 ⟨by decide,rfl,Tryz.underlying9,ay,by decide,rfl,Tryz.underlying4,ay,ay⟩⟩
def i230:TI:=⟨1,8,ae,TypeDesc.int IntKind.u64,[.int .u64 0],[]⟩
def i234:TI:=⟨1,16,ae,TypeDesc.interface #[("Len",98),("Less",202),("Pop",239),("Push",235),("Swap",237)],[.iI],[]⟩
def i242:TI:=⟨1,16,ae,TypeDesc.interface #[("Is",244)],[.iI],[]⟩
def i259:TI:=⟨1,8,ae,TypeDesc.pointer 261,[.fz],[]⟩
def i261:TI:=⟨2,32,ab,bu #[(f0 "addr" 259 0 "strings" 0),(f0 "buf" 22 1 "strings" 8)],[.fz,.sl ab 0 0 (λ_=>[])],[]⟩
def i268:TI:=⟨1,8,ae,TypeDesc.int IntKind.i64,[.int .i64 0],[]⟩
def i288:TI:=⟨1,8,ae,TypeDesc.pointer 5,[.fz],[]⟩
def i290:TI:=⟨1,8,ae,TypeDesc.int IntKind.u64,[.int .u64 0],[]⟩
def i293:TI:=⟨1,8,ae,TypeDesc.pointer 3,[.fz],[]⟩
def i308:TI:=⟨1,8,ae,TypeDesc.pointer 304,[.fz],[]⟩
def i319:TI:=⟨2,2,ab,bu #[(f0 "lo" 5 0 "unicode/utf8" 0),(f0 "hi" 5 1 "unicode/utf8" 1)],[.int .u8 0,.int .u8 0],[TypeDesc.int IntKind.u8,TypeDesc.int IntKind.u8]⟩
def ZY:bH ag 319 i319:=⟨Tryz.underlying319,rfl,⟨_,_,eG Tryz.type319,rfl,rfl,rfl,rfl,⟨_,rfl⟩,rfl⟩,λ_=>ll (fs:=[(f0 "lo" 5 0 "unicode/utf8" 0),(f0 "hi" 5 1 "unicode/utf8" 1)]) Tryz.underlying319 (by decide +kernel) Tryz.eqGuardType319 ⟨by decide,rfl,Tryz.underlying5,ay,by decide,rfl,Tryz.underlying5,ay,ay⟩⟩
def i320:TI:=⟨32,32,ab,TypeDesc.array 16 319,[.int .u8 0,.int .u8 0,.int .u8 0,.int .u8 0,.int .u8 0,.int .u8 0,.int .u8 0,.int .u8 0,.int .u8 0,.int .u8 0,.int .u8 0,.int .u8 0,.int .u8 0,.int .u8 0,.int .u8 0,.int .u8 0,.int .u8 0,.int .u8 0,.int .u8 0,.int .u8 0,.int .u8 0,.int .u8 0,.int .u8 0,.int .u8 0,.int .u8 0,.int .u8 0,.int .u8 0,.int .u8 0,.int .u8 0,.int .u8 0,.int .u8 0,.int .u8 0],[]⟩
def i321:TI:=⟨1,8,ae,TypeDesc.pointer 339,[.fz],[]⟩
def i324:TI:=⟨0,0,ab,TypeDesc.array 0 16,[],[]⟩
def i326:TI:=⟨0,0,ab,bu #[(f0 "_" 324 0 "runtime" 0)],[],[]⟩
def i328:TI:=⟨1,1,ae,TypeDesc.int IntKind.u8,[.int .u8 0],[]⟩
def i330:TI:=⟨1,4,ae,TypeDesc.int IntKind.i32,[.int .i32 0],[]⟩
def i331:TI:=⟨1,4,ae,TypeDesc.int IntKind.i32,[.int .i32 0],[]⟩
def i333:TI:=⟨11,48,ab,bu #[(f0 "Size_" 12 0 "" 0),(f0 "PtrBytes" 12 1 "" 8),(f0 "Hash" 213 2 "" 16),(f0 "TFlag" 328 3 "" 20),(f0 "Align_" 5 4 "" 21),(f0 "FieldAlign_" 5 5 "" 22),(f0 "Kind_" 131 6 "" 23),(f0 "Equal" 329 7 "" 24),(f0 "GCData" 288 8 "" 32),(f0 "Str" 330 9 "" 40),(f0 "PtrToThis" 331 10 "" 44)],[.int .u64 0,.int .u64 0,.int .u32 0,.int .u8 0,.int .u8 0,.int .u8 0,.int .u8 0,.yw,.fz,.int .i32 0,.int .i32 0],[]⟩
def i339:TI:=⟨1,16,ab,bu #[(f0 "s" 9 0 "errors" 0)],[.str []],[TypeDesc.string]⟩
def ZZ:bH ag 339 i339:=⟨Tryz.underlying339,rfl,⟨_,_,eG Tryz.type339,rfl,rfl,rfl,rfl,⟨_,rfl⟩,rfl⟩,λ_=>ll (fs:=[(f0 "s" 9 0 "errors" 0)]) Tryz.underlying339 (by decide +kernel) Tryz.eqGuardType339 ⟨by decide,rfl,Tryz.underlying9,ay,ay⟩⟩
def tt:List (Nat×TI):=[(2,i2),(3,i3),(4,i4),(5,i5),(6,i6),(8,i8),(9,i9),(12,i12),(16,i16),(17,i17),(20,i20),(21,i21),(22,i22),(23,i23),(24,i24),(25,i25),(27,i27),(28,i28),(36,i36),(38,i38),(48,i48),(50,i50),(57,i57),(60,i60),(62,i62),(65,i65),(67,i67),(69,i69),(71,i71),(72,i72),(76,i76),(82,i82),(85,i85),(91,i91),(94,i94),(96,i96),(104,i104),(118,i118),(123,i123),(124,i124),(126,i126),(129,i129),(131,i131),(140,i140),(145,i145),(151,i151),(152,i152),(162,i162),(165,i165),(181,i181),(182,i182),(191,i191),(194,i194),(196,i196),(197,i197),(205,i205),(207,i207),(208,i208),(209,i209),(210,i210),(212,i212),(213,i213),(215,i215),(218,i218),(230,i230),(234,i234),(242,i242),(259,i259),(261,i261),(268,i268),(288,i288),(290,i290),(293,i293),(308,i308),(319,i319),(320,i320),(321,i321),(324,i324),(326,i326),(328,i328),(330,i330),(331,i331),(333,i333),(339,i339)]
def tok:cW ag tt:=(cW.cons (bH.ic Tryz.underlying2 Tryz.type2) (cW.cons (bH.ic Tryz.underlying3 Tryz.type3) (cW.cons (bH.ic Tryz.underlying4 Tryz.type4) (cW.cons (bH.ic Tryz.underlying5 Tryz.type5) (cW.cons (bH.ic Tryz.underlying6 Tryz.type6) (cW.cons (bH.ic Tryz.underlying8 Tryz.type8) (cW.cons (bH.ic Tryz.underlying9 Tryz.type9) (cW.cons (bH.ic Tryz.underlying12 Tryz.type12) (cW.cons (bH.ic Tryz.underlying16 Tryz.type16) (cW.cons (bH.ic Tryz.underlying17 Tryz.type17) (cW.cons (bH.ic Tryz.underlying20 Tryz.type20) (cW.cons (bH.ic Tryz.underlying21 Tryz.type21) (cW.cons (bH.ic Tryz.underlying22 Tryz.type22) (cW.cons (bH.ic Tryz.underlying23 Tryz.type23) (cW.cons (bH.ic Tryz.underlying24 Tryz.type24) (cW.cons (bH.ic Tryz.underlying25 Tryz.type25) (cW.cons (bH.ic Tryz.underlying27 Tryz.type27) (cW.cons (bH.ic Tryz.underlying28 Tryz.type28) (cW.cons (bH.ic Tryz.underlying36 Tryz.type36) (cW.cons (bH.ic Tryz.underlying38 Tryz.type38) (cW.cons g48 (cW.cons (bH.ic Tryz.underlying50 Tryz.type50) (cW.cons (bH.ic Tryz.underlying57 Tryz.type57) (cW.cons (bH.ic Tryz.underlying60 Tryz.type60) (cW.cons (bH.ic Tryz.underlying62 Tryz.type62) (cW.cons (bH.ic Tryz.underlying65 Tryz.type65) (cW.cons (bH.ic Tryz.underlying67 Tryz.type67) (cW.cons (bH.ic Tryz.underlying69 Tryz.type69) (cW.cons (bH.ic Tryz.underlying71 Tryz.type71) (cW.cons (bH.ic Tryz.underlying72 Tryz.type72) (cW.cons g76 (cW.cons g82 (cW.cons (bH.ic Tryz.underlying85 Tryz.type85) (cW.cons g91 (cW.cons (bH.ic Tryz.underlying94 Tryz.type94) (cW.cons (bH.ic Tryz.underlying96 Tryz.type96) (cW.cons (bH.ic Tryz.underlying104 Tryz.type104) (cW.cons ZW (cW.cons (bH.ic Tryz.underlying123 Tryz.type123) (cW.cons (bH.ic Tryz.underlying124 Tryz.type124) (cW.cons (bH.ic Tryz.underlying126 Tryz.type126) (cW.cons (bH.ic Tryz.underlying129 Tryz.type129) (cW.cons (bH.ic Tryz.underlying131 Tryz.type131) (cW.cons (bH.ic Tryz.underlying140 Tryz.type140) (cW.cons (bH.ic Tryz.underlying145 Tryz.type145) (cW.cons (bH.ic Tryz.underlying151 Tryz.type151) (cW.cons (bH.ic Tryz.underlying152 Tryz.type152) (cW.cons (bH.ic Tryz.underlying162 Tryz.type162) (cW.cons (bH.ic Tryz.underlying165 Tryz.type165) (cW.cons (bH.ic Tryz.underlying181 Tryz.type181) (cW.cons (bH.ic Tryz.underlying182 Tryz.type182) (cW.cons (bH.ic Tryz.underlying191 Tryz.type191) (cW.cons (bH.ic Tryz.underlying194 Tryz.type194) (cW.cons (bH.ic Tryz.underlying196 Tryz.type196) (cW.cons (bH.ic Tryz.underlying197 Tryz.type197) (cW.cons (bH.ic Tryz.underlying205 Tryz.type205) (cW.cons (bH.ic Tryz.underlying207 Tryz.type207) (cW.cons (bH.ic Tryz.underlying208 Tryz.type208) (cW.cons (bH.ic Tryz.underlying209 Tryz.type209) (cW.cons (bH.ic Tryz.underlying210 Tryz.type210) (cW.cons (bH.ic Tryz.underlying212 Tryz.type212) (cW.cons (bH.ic Tryz.underlying213 Tryz.type213) (cW.cons (bH.ic Tryz.underlying215 Tryz.type215) (cW.cons ZX (cW.cons (bH.ic Tryz.underlying230 Tryz.type230) (cW.cons (bH.ic Tryz.underlying234 Tryz.type234) (cW.cons (bH.ic Tryz.underlying242 Tryz.type242) (cW.cons (bH.ic Tryz.underlying259 Tryz.type259) (cW.cons (bH.ic Tryz.underlying261 Tryz.type261) (cW.cons (bH.ic Tryz.underlying268 Tryz.type268) (cW.cons (bH.ic Tryz.underlying288 Tryz.type288) (cW.cons (bH.ic Tryz.underlying290 Tryz.type290) (cW.cons (bH.ic Tryz.underlying293 Tryz.type293) (cW.cons (bH.ic Tryz.underlying308 Tryz.type308) (cW.cons ZY (cW.cons (bH.ic Tryz.underlying320 Tryz.type320) (cW.cons (bH.ic Tryz.underlying321 Tryz.type321) (cW.cons (bH.ic Tryz.underlying324 Tryz.type324) (cW.cons (bH.ic Tryz.underlying326 Tryz.type326) (cW.cons (bH.ic Tryz.underlying328 Tryz.type328) (cW.cons (bH.ic Tryz.underlying330 Tryz.type330) (cW.cons (bH.ic Tryz.underlying331 Tryz.type331) (cW.cons (bH.ic Tryz.underlying333 Tryz.type333) (cW.cons ZZ cW.nil))))))))))))))))))))))))))))))))))))))))))))))))))))))))))))))))))))))))))))))))))))
end R1
abbrev Bs:=List UInt8
abbrev dS(s:Bs):D:=.e (.one (.c (.str s)))
abbrev dI(n:Int):D:=.e (.one (.c (.int .i64 n)))
abbrev dU(n:Int):D:=.e (.one (.c (.int .u8 n)))
abbrev dB(b:Bool):D:=.e (.one (.c (.bool b)))
def kQ{s:Bs}{i:Nat}:jb s i=s.getD i 0:=rfl
namespace R1
variable {X:Cx ag}
def jk:Tryz.prog.follows Departure.mixedOrders=ab:=rfl
def Z0{X:Cx ag}{CT:List (Nat×dv)}(c:bL X CT)(ds:List (Nat×Bool)){N:Nat}{Qf:Post}(n:Nat){K b:List It}{φ φ':Fr}{σ σ':List aR}{a:List Prop}(h:AM.ln tt CT ds N n K φ σ []=aa (b,φ',σ',a))(d:az a)(k:AK X N Qf b .normal φ' σ'):AK X N Qf K .normal φ σ:=AK.ln jk tok c ds n h d k
def oK{X:Cx ag}(ds:List (Nat×Bool)){N:Nat}{Qf:Post}(n:Nat){K b:List It}{φ φ':Fr}{σ σ':List aR}{a:List Prop}(h:AM.ln tt [] ds N n K φ σ []=aa (b,φ',σ',a))(c:az a)(k:AK X N Qf b .normal φ' σ'):AK X N Qf K .normal φ σ:=AK.ln jk tok bL.nil ds n h c k
def bt{X:Cx ag}{N:Nat}{Qf:Post}{K b:List It}{φ φ':Fr}{σ σ':List aR}{a:List Prop}(h:AM.ln tt [] [] N 100 K φ σ []=aa (b,φ',σ',a))(c:az a)(k:AK X N Qf b .normal φ' σ'):AK X N Qf K .normal φ σ:=AK.ln jk tok bL.nil [] 100 h c k
def dm{X:Cx ag}{N:Nat}{Qf:Post}{K b:List It}{φ φ':Fr}{σ σ':List aR}{a:List Prop}(h:AM.ln tt [] [] N 200 K φ σ []=aa (b,φ',σ',a))(c:az a)(k:AK X N Qf b .normal φ' σ'):AK X N Qf K .normal φ σ:=AK.ln jk tok bL.nil [] 200 h c k
def aW{X:Cx ag}{CT:List (Nat×dv)}(c:bL X CT)(ds:List (Nat×Bool)){N:Nat}{Qf:Post}{K b:List It}{φ φ':Fr}{σ σ':List aR}{a:List Prop}(h:AM.ln tt CT ds N 100 K φ σ []=aa (b,φ',σ',a))(d:az a)(k:AK X N Qf b .normal φ' σ'):AK X N Qf K .normal φ σ:=AK.ln jk tok c ds 100 h d k
def bn{X:Cx ag}{CT:List (Nat×dv)}(c:bL X CT)(ds:List (Nat×Bool)){N:Nat}{Qf:Post}{K b:List It}{φ φ':Fr}{σ σ':List aR}{a:List Prop}(h:AM.ln tt CT ds N 200 K φ σ []=aa (b,φ',σ',a))(d:az a)(k:AK X N Qf b .normal φ' σ'):AK X N Qf K .normal φ σ:=AK.ln jk tok c ds 200 h d k
def aX{X:Cx ag}(ds:List (Nat×Bool)){N:Nat}{Qf:Post}{K b:List It}{φ φ':Fr}{σ σ':List aR}{a:List Prop}(h:AM.ln tt [] ds N 100 K φ σ []=aa (b,φ',σ',a))(c:az a)(k:AK X N Qf b .normal φ' σ'):AK X N Qf K .normal φ σ:=AK.ln jk tok bL.nil ds 100 h c k
def bO{X:Cx ag}(ds:List (Nat×Bool)){N:Nat}{Qf:Post}{K b:List It}{φ φ':Fr}{σ σ':List aR}{a:List Prop}(h:AM.ln tt [] ds N 200 K φ σ []=aa (b,φ',σ',a))(c:az a)(k:AK X N Qf b .normal φ' σ'):AK X N Qf K .normal φ σ:=AK.ln jk tok bL.nil ds 200 h c k
def b8{X:Cx ag}{CT:List (Nat×dv)}(c:bL X CT){N:Nat}{Qf:Post}{K b:List It}{φ φ':Fr}{σ σ':List aR}{a:List Prop}(h:AM.ln tt CT [] N 100 K φ σ []=aa (b,φ',σ',a))(d:az a)(k:AK X N Qf b .normal φ' σ'):AK X N Qf K .normal φ σ:=AK.ln jk tok c [] 100 h d k
def cG{X:Cx ag}{CT:List (Nat×dv)}(c:bL X CT){N:Nat}{Qf:Post}{K b:List It}{φ φ':Fr}{σ σ':List aR}{a:List Prop}(h:AM.ln tt CT [] N 200 K φ σ []=aa (b,φ',σ',a))(d:az a)(k:AK X N Qf b .normal φ' σ'):AK X N Qf K .normal φ σ:=AK.ln jk tok c [] 200 h d k
def my(b:Int):Bool:=decide (97<=b)&&decide (b<=101)
theorem PK(b:Int):Ev X 88 [dU b] [] (dB (my b)) []:=by
 refine Ev.bQ Tryz.func88 rfl λ_=>?_;by_cases h:97<=b
 .refine aX [(4,ab)] rfl ?_ (AK.bz rfl ?_)<;>simp[h,my]
 .refine aX [(4,ae)] rfl ?_ (AK.bz rfl ?_)<;>simp[h,my]
def eZ(b:UInt8):Bool:=decide (97<=b.toNat)&&decide (b.toNat<=122)
def cj(s:Bs):Bool:=s.all eZ
def tz{s:Bs}(h:∀j,j<s.length->eZ (s.getD j 0)=ab):cj s=ab:=by simp only[cj,bC];grind[List.getElem_of_mem]
def kY{s:Bs}{j:Nat}(h:j<s.length)(b:eZ (s.getD j 0)=ae):cj s=ae:=by
 cases a:cj s with
 |false=>rfl
 |true =>
  simp only[cj,bC]at a;grind
theorem FQ(s:Bs):Ev X 89 [dS s] [] (dB (cj s)) []:=by
 refine Ev.bQ Tryz.func89 rfl λe=>?_;have f:=e.str 0 rfl;refine bt rfl ay ?_;refine AK.xe (λi=>i<=s.length/\∀j,j<i->eZ (s.getD j 0)=ab) (λi:Nat=>[(0,dS s),(3,dI i)]) (λ_=>[]) (λi=>s.length-i) 0 rfl (by simp) ⟨by omega,by omega⟩ rfl ?_;rintro i ⟨hi,c⟩;by_cases h:i<s.length
 .generalize a:s.getD i 0=b;by_cases g:b.toNat<97
  .refine aX [(7,ab),(13,ab)] rfl ?_ (AK.ir (cw.zero rfl ?_))
   .simp only[az,kQ,a9,a];omega
   .rw[az,kY h (by rw[a];simp only[eZ,qc,bS];omega)]
  .by_cases k:b.toNat>122
   .refine aX [(7,ab),(13,ae),(18,ab)] rfl ?_ (AK.ir (cw.zero rfl ?_))
    .simp only[az,kQ,a9,bS,a];omega
    .rw[az,kY h (by rw[a];simp only[eZ,qc,bS];omega)]
   .refine aX [(7,ab),(13,ae),(18,ae)] rfl ?_ (AK.again (i+1) rfl ?_ ?_ ?_ rfl)
    .simp only[az,kQ,a9,bS,a,bD];omega
    .simp
    .refine⟨by omega,λj d=>?_⟩;rcases vC.1 d with d|rfl
     .grind
     .rw[a];simp only[eZ,bR,a9];omega
    .omega
 .refine aX [(7,ae)] rfl (by simp;omega) (AK.leave rfl rfl ?_);refine bt rfl ay (AK.bz rfl ?_);rw[az,tz (λj d=>c j (by omega))]
end R1
def Ev.args{P:ar}{X:Cx P}{f:aJ}{args Dz:List D}{σ σ':List aR}{res:D}(h:Ev X f Dz σ res σ')(hl:∀s vs,cp σ s vs args->cp σ s vs Dz):Ev X f args σ res σ' :=
 ⟨h.1,λs vs hr hh=>h.2 s vs (hl s vs hr) hh⟩
def ky(a:Nat):D->Option (Nat×(Nat->List C))
 |.e (.one (.c (.sl _ k n es)))=>match aB k a with
  |true=>aa (n,es)
  |false=>match aB n 0 with
   |true=>aa (0,λ_=>[])
   |false=>af
 |_=>af
def Mr{g:Nat}{d:D}{n:Nat}{es:Nat->List C}(h:ky g d=aa (n,es)){σ:List aR}{s:St}{v:ah}(r:dt σ s v d):Rd s.M v (.sl ae g n es):=by
 unfold ky at h;split at h
 .rename_i t k m es';split at h
  .rename_i hk;have e:=bX hk;subst e;cases h;exact(e9 r).loose
  .split at h
   .rename_i i;have e:=bX i;subst e;cases h;have r':=e9 r;cases r' with
    |sl b off f a j l hk ha hm hr=>exact Rd.sl b off f a j (by simp) (by omega) (by omega) (by omega) (by omega)
   grind
 grind
def Bd{α:Type}(enc:α->List C)(cd:α)(l:List α):Nat->List C:=λi=>enc (l.getD i cd)
structure mI(α:Type) where
 k:Nat
 enc:α->List C
 dec:List C->α
 cd:α
 inv:∀a,dec (enc a)=a
 len:∀a,(enc a).length=k
namespace mI
variable {α:Type}(c:mI α)
def list(n:Nat)(es:Nat->List C):List α:=(bh n).map λi=>c.dec (es i)
def fn(l:List α):Nat->List C:=Bd c.enc c.cd l
def fits(n:Nat)(es:Nat->List C):Prop:=∀i,i<n->es i=c.enc (c.dec (es i))
def sl(l:List α):D:=.e (.one (.c (.sl ae c.k l.length (c.fn l))))
def DC{n:Nat}{es:Nat->List C}:(c.list n es).length=n:=by simp[list]
def list_fn(l:List α):c.list l.length (c.fn l)=l:=by
 apply sk
 .simp[list]
 .intro i b a;simp[list,fn,Bd,ak,br a,c.inv]
def aO(l:List α){n:Nat}:c.fits n (c.fn l):=λi _=>by simp[fn,Bd,c.inv]
def PL{n:Nat}{es:Nat->List C}(h:c.fits n es):cA n es (c.fn (c.list n es)):=by intro i hi;rw[h i hi];simp[fn,Bd,list,ak,hi]
def jH{d:D}{n:Nat}{es:Nat->List C}(h:ky c.k d=aa (n,es))(a:c.fits n es){σ:List aR}{s:St}{v:ah}(r:dt σ s v d):dt σ s v (c.sl (c.list n es)):=by have e:=Mr h r;have b:=e.Ei (c.PL a);show Rd s.M v (.sl ae c.k (c.list n es).length _);rw[c.DC];exact b
end mI
def cT(s:Bs)(i:Nat):Int:=(s.getD i 0).toNat
theorem cU(s:Bs)(j:Int):((jb s j).toNat:Int)=cT s j.toNat:=rfl
abbrev bw:=Bs×Bs
def C2(cs:List C)(j:Nat):Bs:=match dC j cs with|some (.str s)=>s|_=>[]
def xI(cs:List C)(j:Nat):Int:=match dC j cs with|some (.int _ s)=>s|_=>0
def cF:mI bw:={k:=2,enc:=λf=>[.str f.1,.str f.2],dec:=λcs=>(C2 cs 0,C2 cs 1),cd:=([],[]),inv:=λ_=>rfl,len:=λ_=>rfl}
namespace R1
variable {X:Cx ag}
def Z1:dv:=λargs σ=>match args,σ with
 |[.e (.one (.c (.int .u8 b)))],[]=>aa (dB (my b),[],[])
 |_,_=>af
def t88:er X 88 Z1:=by intro args σ res σ' obs h _;unfold Z1 at h;grind[PK]
def X0:dv:=λargs σ=>match args,σ with
 |[.e (.one (.c (.str b)))],[]=>aa (dB (cj b),[],[])
 |_,_=>af
def t89:er X 89 X0:=by intro args σ res σ' obs h _;unfold X0 at h;grind[FQ]
def ct1:List (Nat×dv):=[(88,Z1),(89,X0)]
def DD:bL X ct1:=bL.cons t88 (bL.cons t89 bL.nil)
def dM(s:Bs):Bool:=if s.length=1 then my (cT s 0)else if s.length=3 then my (cT s 0)&&(cT s 1==47)&&my (cT s 2)else ae
theorem I3(s:Bs):Ev X 37 [dS s] [] (dB (dM s)) []:=by
 refine Ev.bQ Tryz.func37 rfl λf=>?_;by_cases e:s.length=1
 .refine aW DD [(6,ab)] rfl ?_ (AK.bz rfl ?_)
  .simp[e]
  .simp[dM,e,cU]
 .by_cases a:s.length=3
  .by_cases b:my (cT s 0)=ab
   .by_cases d:cT s 1=47
    .refine aW DD [(6,ae),(11,ab),(14,ab),(18,ab)] rfl ?_ (AK.bz rfl ?_)
     .simp[a,cU,b,d]
     .simp[dM,a,b,d,cU]
    .refine aW DD [(6,ae),(11,ab),(14,ab),(18,ae)] rfl ?_ (AK.bz rfl ?_)
     .simp[a,cU,b,d]
     .simp[dM,a,b,d]
   .refine aW DD [(6,ae),(11,ab),(14,ae)] rfl ?_ (AK.bz rfl ?_)
    .simp[a,cU,b]
    .simp[dM,a,b]
  .refine aW DD [(6,ae),(11,ae)] rfl ?_ (AK.bz rfl ?_)
   .simp;omega
   .simp[dM,e,a]
def et(s:Bs):Bool:=decide (s.length<=40)&&cj s
theorem I4(s:Bs):Ev X 38 [dS s] [] (dB (et s)) []:=by
 refine Ev.bQ Tryz.func38 rfl λb=>?_;by_cases a:s.length<=40
 .refine aW DD [(5,ab)] rfl ?_ (AK.bz rfl ?_)
  .simp;omega
  .simp[et,a]
 .refine aW DD [(5,ae)] rfl ?_ (AK.bz rfl ?_)
  .simp;omega
  .simp[et,a]
def clash(a b:Bs):Bool:=(a.length != b.length)&&(cT a 0==cT b 0)
def Ms(a b:Bs)(g:a≠[])(h:b≠[]):Ev X 39 [dS a,dS b] [] (dB (clash a b)) []:=by
 have d:=List.length_pos_iff.2 g;have f:=List.length_pos_iff.2 h;refine Ev.bQ Tryz.func39 rfl λi=>?_;by_cases e:a.length=b.length
 .refine aX [(9,ae)] rfl ?_ (AK.bz rfl ?_)
  .simp[e]
  .simp[clash,e]
 .refine aX [(9,ab)] rfl ?_ (AK.bz rfl ?_)
  .simp[d,f];omega
  .simp[clash,e,cU]
end R1
section
variable {P:ar}{X:Cx P}
def Yields{ι:Type}(X:Cx P)(d:Nat)(ds:List D)(σ:List aR)(res:Bool)(σ':ι->List aR):Prop :=
 ∀s (vs:List ah) (l:Nat),cp σ s vs ds->aF σ s->(∃L,s.β[d]?=aa L/\L.v=.func (.yield l) #[] #[]) ->
  ∃fn tmps assign body,(Instr.yield l vs.toArray).run P s.w=.ok (.round l fn tmps assign body) s.w/\(Instr.yield l vs.toArray).events P s.w #[]=#[⟨.obj l,ae,ae⟩] /\
  ∀(S:av->St->Prop) (c:aU) (cs:List aU),(∀i s',aF (σ' i) s'->cY σ s (σ' i) s'->fL X S (G (c.finish (.bool res)) cs) s') ->
   fL X S (G (Frame.round l fn tmps assign body .normal) (c::cs)) s
def mX{w:aA}{l:Nat}{r:Loop}(h:w.heap[l]?=aa (.loop r)):(Instr.getLoop l).run P w=.ok r w/\∀es,(Instr.getLoop l).events P w es=es.push ⟨.obj l,ae,ae⟩:=by
 have c:(getObj l).run P w=.ok (.loop r) w:=by simp only[getObj,Sem.run,h]
 have d:∀es,(getObj l).events P w es=es.push ⟨.obj l,ae,ae⟩:=λes=>by simp only[getObj,Sem.events,Sem.runT,h];rfl
 constructor
 .simp[Instr.getLoop,c]
 .intro es;simp[Instr.getLoop,c,d]
def pL{w:aA}{l:Nat}{r r':Loop}(h:w.heap[l]?=aa (.loop r)):(setObj l (.loop r')).run P w=.ok () {w with heap:=w.heap.setIfInBounds l (.loop r')}/\∀es,(setObj l (.loop r')).events P w es=es.push ⟨.obj l,ab,ae⟩:=by
 constructor
 .simp only[setObj,Sem.run,h]
 .intro es;simp only[setObj,Sem.events,Sem.runT,h];rfl
def H8{w:aA}{l:Nat}{r:Loop}{args:Array ah}(h:w.heap[l]?=aa (.loop r))(c:args.size=r.params.size):
  (Instr.yield l args).run P w=.ok (.round l r.fn ((r.params.zip args).foldl (λtmps (t,a)=>tmps.setIfInBounds t a) r.tmps) r.assign r.body) w/\(Instr.yield l args).events P w #[]=#[⟨.obj l,ae,ae⟩]:=by
 obtain⟨d,e⟩:=mX (P:=P) h;constructor
 .simp[Instr.yield,d,c]
 .simp[Instr.yield,d,e,c]
def H9{w:aA}{l:Nat}{r:Loop}(h:w.heap[l]?=aa (.loop r))(c:r.state=.ready):
  (Instr.beginRound l).run P w=.ok () {w with heap:=w.heap.setIfInBounds l (.loop {r with state:=.busy})}/\(Instr.beginRound l).events P w #[]=#[⟨.obj l,ae,ae⟩,⟨.obj l,ab,ae⟩]:=by
 obtain⟨d,g⟩:=mX (P:=P) h;obtain⟨e,f⟩:=pL (P:=P) (r':={r with state:=.busy}) h;constructor
 .simp[Instr.beginRound,d,e,c]
 .simp[Instr.beginRound,d,g,e,f,c]
def AD{w:aA}{l:Nat}{r:Loop}(h:w.heap[l]?=aa (.loop r))(j:Option Code):
  (Instr.endRound l j).run P w=.ok (.bool j.isNone) {w with heap:=w.heap.setIfInBounds l (.loop {r with state:=if j.isNone then .ready else .done,pending:=j})}/\(Instr.endRound l j).events P w #[]=#[⟨.obj l,ae,ae⟩,⟨.obj l,ab,ae⟩]:=by
 obtain⟨d,f⟩:=mX (P:=P) h;obtain⟨c,e⟩:=pL (P:=P) (r':={r with state:=if j.isNone then .ready else .done,pending:=j}) h;constructor
 .simp only[Instr.endRound,bT,d,c,b5,dx]
 .simp only[Instr.endRound,aM,d,f,c,e,aP,Sem.events_pure];rfl
def Cw{w:aA}{l:Nat}{r:Loop}(h:w.heap[l]?=aa (.loop r))(c:r.state≠.busy):
  (Instr.endLoop l).run P w=.ok r.pending {w with heap:=w.heap.setIfInBounds l (.loop {r with state:=.exhausted})}/\(Instr.endLoop l).events P w #[]=#[⟨.obj l,ae,ae⟩,⟨.obj l,ab,ae⟩]:=by
 obtain⟨d,g⟩:=mX (P:=P) h;obtain⟨f,e⟩:=pL (P:=P) (r':={r with state:=.exhausted}) h;have j:(r.state==.busy)=ae:=by cases i:r.state<;>simp_all
 constructor
 .simp[Instr.endLoop,d,f,c]
 .simp[Instr.endLoop,d,g,e,c]
section steps
variable {b:aU}{a:Act}{k:List Item}{cs:List aU}{w:aA}{main:Bool}
def Cy{o:au}{g:aq}{xs:Array aq}{c:Array aj}{l:Nat}(f:o.op=.call {callee:=.value g,args:=xs,argTypes:=c})(d:a.eval g=.func (.yield l) #[] #[]):
  (aw a.eval o).run P w=(Instr.yield l (xs.toList.map a.eval).toArray).run P w/\(aw a.eval o).events P w #[]=(Instr.yield l (xs.toList.map a.eval).toArray).events P w #[]:=by
 have e:xs.map a.eval=(xs.toList.map a.eval).toArray:=by grind
 constructor
 .simp[aw,f,resolve,d,Deferred.ofValue,invoke,e]
 .simp[aw,f,resolve,d,Deferred.ofValue,invoke,e]
def Ky{ops:Array au}{i:Nat}{rest:List Nat}{o:au}{l:Nat}{fn:aJ}{tmps:Array ah}{assign body:Code}{w':aA}(f:ops[i]?=aa o)(g:bg o (yielded ops a.tmps)=ab)(hk:b.kind≠.early)(e:(aw a.eval o).run P w=.ok (.round l fn tmps assign body) w'):
  aH P main (G (b.aT a (.inRegion ops (i::rest)::k)) cs) w=.go (G (Frame.round l fn tmps assign body .normal) (b.aT a (.inRegion ops (i::rest)::k)::cs)) w' (Go.Conc.listed P b.fn a o w):=by
 have d:(b.kind==CallKind.early)=ae:=by grind
 rw[vM f g (λc h=>by grind[sE])];simp[stepG.apply,e,G,Frame.aT,d,GStep.after,Go.Conc.listed]
def Kz{l:Nat}{r:Loop}(f:b.roundOf=aa l)(hk:b.kind≠.early)(h:w.heap[l]?=aa (.loop r))(d:r.state=.ready):
  aH P main (G (b.aT a (.beginRound::k)) cs) w=.go (G (b.aT a k) cs) {w with heap:=w.heap.setIfInBounds l (.loop {r with state:=.busy})} (seen P b.fn #[⟨.obj l,ae,ae⟩,⟨.obj l,ab,ae⟩]):=by
 obtain⟨e,g⟩:=H9 (P:=P) h d;have c:(b.kind==CallKind.early)=ae:=by grind
 simp[G,aH,stepG.exec,stepG.apply,Frame.aT,f,c,e,g,GStep.after,Frame.finish]
def Cz{l:Nat}{r:Loop}{j:Option Code}{e:List Item}{c:aU}(f:b.roundOf=aa l)(hk:b.kind=.normal)(h:w.heap[l]?=aa (.loop r))(i:(j=af/\e=[])∨(j=aa .ret/\∃k1,e=.code .ret::k1)∨(∃id k1,j=aa (.exit id)/\e=.code (.exit id)::k1/\exitTo id k1=af)):
  aH P main (G (b.aT a e) (c::cs)) w=.go (G (c.finish (.bool j.isNone)) cs) {w with heap:=w.heap.setIfInBounds l (.loop {r with state:=if j.isNone then .ready else .done,pending:=j})} (seen P b.fn #[⟨.obj l,ae,ae⟩,⟨.obj l,ab,ae⟩]):=by
 obtain⟨d,g⟩:=AD (P:=P) h j;rcases i with⟨rfl,rfl⟩|⟨rfl,k1,rfl⟩|⟨id,k1,rfl,rfl,m⟩
 .simp only[Option.isNone_none,cq]at d;simp[G,aH,stepG.exec,Frame.aT,f,d,g,GStep.after,doReturn,hk]
 .simp only[Option.isNone_some,ck,jP]at d;simp[G,aH,stepG.exec,Frame.aT,f,d,g,GStep.after,doReturn,hk]
 .simp only[Option.isNone_some,ck,jP]at d;simp[G,aH,stepG.exec,Frame.aT,f,d,g,GStep.after,doReturn,hk,m]
def EJ{l:Nat}{r:Loop}(h:w.heap[l]?=aa (.loop r))(d:r.state≠.busy):
  aH P main (G (b.aT a (.endRangeFunc l::k)) cs) w=.go (G (b.aT a ((r.pending.map Item.code).toList++k)) cs) {w with heap:=w.heap.setIfInBounds l (.loop {r with state:=.exhausted})} (seen P b.fn #[⟨.obj l,ae,ae⟩,⟨.obj l,ab,ae⟩]):=by obtain⟨e,c⟩:=Cw (P:=P) h d;simp[G,aH,stepG.exec,Frame.aT,e,c,GStep.after]
def yF{fn:aJ}{tmps:Array ah}{params:Array Tmp}{assign body:Code}:
  (Instr.enterLoop fn tmps params assign body af).run P w=.ok (w.heap.size+1,[{target:=.collected w.heap.size,args:=#[]}]) {w with heap:=(w.heap.push (.deferred (aa []))).push (.loop {state:=.ready,pending:=af,fn,tmps,params,assign,body,defers:=w.heap.size})} /\
  (Instr.enterLoop fn tmps params assign body af).events P w #[]=#[]:=by
 have c:∀(o:Obj) (w:aA),(newObj o).run P w=.ok w.heap.size {w with heap:=w.heap.push o}:=λo w=>by simp only[newObj,Sem.run]
 have d:∀(o:Obj) (w:aA) es,(newObj o).events P w es=es:=λo w es=>by simp only[newObj,Sem.events,Sem.runT]
 constructor
 .simp[Instr.enterLoop,c];rfl
 .simp[Instr.enterLoop,c,d]
def AE{f:aq}{ps:Array Tmp}{assign body:Code}{F:aJ}{fn:Func}{c:List ah}(r:b.roundOf=af)(hk:b.kind≠.early)(j:P.funcs[F]?=aa fn)(l:(fn.name== "runtime.NumGoroutine")=ae)(h:fn.body.isNone=ae)(o:a.eval f=.func (.func F) #[] c.toArray):
  aH P main (G (b.aT a (.code (.rangeFunc f ps assign body)::k)) cs) w =
   .go (G (Frame.enter P F (Value.func (.yield (w.heap.size+1)) #[] #[]::c).toArray .normal) (b.aT {a with defers:={target:=.collected w.heap.size,args:=#[]}::a.defers} (.inRangeFunc (w.heap.size+1)::k)::cs))
    {w with heap:=(w.heap.push (.deferred (aa []))).push (.loop {state:=.ready,pending:=af,fn:=b.fn,tmps:=a.tmps,params:=ps,assign,body,defers:=w.heap.size})} #[]:=by
 obtain⟨p,q⟩:=yF (P:=P) (w:=w) (fn:=b.fn) (tmps:=a.tmps) (params:=ps) (assign:=assign) (body:=body);have i:(b.kind==CallKind.early)=ae:=by grind
 have g:fn.name≠ "runtime.NumGoroutine":=by grind
 have e:fn.body≠af:=by grind
 have n:∀(d:List Deferred) (t:List Item) (m:FrameMode),({fn:=b.fn,tmps:=a.tmps,todo:=t,defers:=d,mode:=m,kind:=b.kind,roundOf:=b.roundOf}:aU).eval f=.func (.func F) #[] c.toArray:=by intro d t m;rw[<-o];cases f<;>rfl
 simp only[G,aH,stepG.exec,Frame.aT,r]at n⊢;simp[p,q,GStep.after,stepG.apply,resolve,n,Deferred.ofValue,invoke,callFunc,j,g,e,i,seen];rfl
end steps
end
section
variable {P:ar}{X:Cx P}
def aF.AF{σ:List aR}{s:St}(hh:aF σ s){a N:Nat}{φ0:Fr}{r:Loop}(hB:σ[a]?=aa (.loop N φ0 r)){l:Nat}(hl:∃L,s.β[a]?=aa L/\L.v=.func (.yield l) #[] #[]):
  ∃tmps fn df,s.β[a]?=aa ⟨.func (.yield l) #[] #[],[l]⟩/\s.w.heap[l]?=aa (.loop {r with tmps:=tmps,fn:=fn,defers:=df})/\tmps.size=N/\(∀t,dt σ s (tmps.getD t ai) (look φ0 t))/\(∀o,s.M l o=af):=by obtain⟨L,h1,h2⟩:=hl;obtain⟨l',tmps,fn,df,e,d,c,b,f⟩:=hh.box a _ L hB h1;grind
def aF.AG{σ:List aR}{s:St}(hh:aF σ s){a N:Nat}{φ0:Fr}{r r':Loop}{B':aR}(hB:σ[a]?=aa (.loop N φ0 r)){l:Nat}{tmps:Array ah}{fn df:Nat}(k:s.β[a]?=aa ⟨.func (.yield l) #[] #[],[l]⟩)(A:s.w.heap[l]?=aa (.loop {r with tmps:=tmps,fn:=fn,defers:=df}))(y:tmps.size=N)(d:∀t,dt σ s (tmps.getD t ai) (look φ0 t))(u:∀o,s.M l o=af)(c:B'=.dead∨B'=.loop N φ0 r'):
  aF (σ.set a B') {s with w:={s.w with heap:=s.w.heap.setIfInBounds l (.loop {r' with tmps:=tmps,fn:=fn,defers:=df})}}/\Step σ s (σ.set a B') {s with w:={s.w with heap:=s.w.heap.setIfInBounds l (.loop {r' with tmps:=tmps,fn:=fn,defers:=df})}}:=by
 have x:l<s.w.heap.size:=hh.lt _ (bP k) l (by simp);have hk:∀b,b≠l->(s.w.heap.setIfInBounds l (.loop {r' with tmps:=tmps,fn:=fn,defers:=df}))[b]?=s.w.heap[b]?:=λb m=>by grind
 have n:s.β.set a ⟨.func (.yield l) #[] #[],[l]⟩=s.β:=by apply iY;grind
 have j:a<σ.length:=(b6.1 hB).1;have f:gI (.loop N φ0 r) ⟨.func (.yield l) #[] #[],[l]⟩ B' ⟨.func (.yield l) #[] #[],[l]⟩:=by rcases c with rfl|rfl<;>rfl
 have ex:Ext σ s (σ.set a B') {s with w:={s.w with heap:=s.w.heap.setIfInBounds l (.loop {r' with tmps:=tmps,fn:=fn,defers:=df})}}:=by
  refine⟨λ_ _ _ h=>h,λi B L p g=>?_⟩;by_cases e:a=i
  .grind
  .exact⟨B,L,by grind,g,.refl _ _⟩
 have:=hh.gJ (M':=s.M) (w':={s.w with heap:=s.w.heap.setIfInBounds l (.loop {r' with tmps:=tmps,fn:=fn,defers:=df})}) (B':=B') (L':=⟨.func (.yield l) #[] #[],[l]⟩) hB k f (by simp) (λb _ m=>hk b (by grind)) (λ_ _ _ _=>rfl) (λ_ _ _ h=>h)
  (λb o v q=>by
   have z:b≠l:=by grind
   rw[<-hh.mem b o v q];simp only[aV]
   grind) (λb m=>by grind) rfl rfl rfl (by
   rcases c with rfl|rfl
   .trivial
   .refine⟨l,tmps,fn,df,rfl,?_,y,λt=>?_,u⟩
    .grind
    .have:=(d t).mono ex hh.len
     grind)
 grind
def AK.yield{ι:Type}{N:Nat}{Qf:Post}{K:List It}{φ:Fr}{σ:List aR}{σ':ι->List aR}{all rest:List au}{o:au}{x:aq}{xs:Array aq}{p:Array aj}{h:Nat}{ds:List D}{res:Bool}(hy:Yields X h ds σ res σ')(Z:o.guard=af)(Q:gg N o.dst=ab)(Y:o.op=.call {callee:=.value x,args:=xs,argTypes:=p}){N0:Nat}{φ0:Fr}{r:Loop}(C:σ[h]?=aa (.loop N0 φ0 r))(J:bU φ x=.e (.one (.ref h)))(v:xs.toList.map (bU φ)=ds)(k:∀j,AK X N Qf (.ops all rest::K) .normal (kH o.dst (.e (.one (.c (.bool res)))) φ) (σ' j)):AK X N Qf (.ops all (o::rest)::K) .normal φ σ:=by
 intro s a f hh b kk cs S idx hb jE hQ;cases idx with
 |nil=>exact jE.elim
 |cons j idx =>
 refine .next rfl λi y=>?_;have z:=X.iH y;have d:=hh.rely z;have B:=f.rely z hh;have F:=dg B x;rw[J]at F;obtain⟨_,L,E,u,_⟩:=(show gB _ i _ (.ref h)from F)
 obtain⟨l,tmps,fn,df,V,h4,h5,h6,h7⟩:=d.box h _ L C E;subst V;have n:cp σ i (xs.toList.map a.eval) ds:=by grind[lX,dg]
 obtain⟨O,A,assign,body,H,R,T⟩:=hy i (xs.toList.map a.eval) l n d ⟨_,E,rfl⟩;obtain⟨M,W⟩:=Cy (P:=P) (w:=i.w) (a:=a) Y u;refine⟨_,i,_,Ky jE.1 (dK Z) hb (M.trans H),⟨⟨σ,σ,d,d,.refl _ _⟩,fg.seen ?_⟩,T S _ _ λG s' jh st=>?_⟩
 .rw[W,R];exact .one (pC (L:=⟨.func (.yield l) #[] #[],[l]⟩) (bP E) (by simp))
 have g:=kF (b:=b) (a:=a) (k:=kk) all.toArray j idx (.bool res);rw[jE.1]at g;simp only[oq]at g;rw[g];refine k G s' _ ?_ jh b kk cs S idx hb jE.2 λm σ2 s2 a2 q I h2 mR=>hQ m σ2 s2 a2 q I h2 ((z.stepW.trans st).trans mR);cases U:o.dst with
 |none=>exact B.mono st d.len
 |some t=>exact(B.mono st d.len).put (gK Q t U) (show dt (σ' G) s' (.bool res) (.e (.one (.c (.bool res))))from Rd.bool)
def rM:List Tmp->List D->Fr->Fr
 |t::ts,d::ds,φ=>rM ts ds ((t,d)::φ)
 |_,_,φ=>φ
def OK(N:Nat):List Tmp->Bool
 |[]=>ab
 |t::ts=>match bA (t+1) N with|true=>OK N ts|false=>ae
def GN{N:Nat}{σ:List aR}{s:St}:∀{ps:List Tmp}{ds:List D}{vs:List ah}{φ:Fr}{a:Act},cu N σ s φ a->cp σ s vs ds->OK N ps=ab->cu N σ s (rM ps ds φ) {a with tmps:=(ps.zip vs).foldl (λtmps (t,v)=>tmps.setIfInBounds t v) a.tmps}
 |[],ds,vs,φ,a,h,_,_=>by simpa[rM]using h
 |_::_,[],[],φ,a,h,_,_=>by simpa[rM]using h
 |_::_,[],_::_,φ,a,h,b,_=>b.elim
 |_::_,_::_,[],φ,a,h,b,_=>b.elim
 |t::ts,d::ds,v::vs,φ,a,h,b,c=>by
  simp only[OK]at c;split at c
  .rename_i e;have:=GN (h.put (d:=t) (db e) b.1) b.2 c;simpa[rM,Act.put]using this
  grind
def Sp:Exit->Option (Option Code)
 |.normal=>aa af
 |.ret=>aa (aa .ret)
 |.exit id=>aa (aa (.exit id))
 |_=>af
def Yields.intro{ι:Type}{k N:Nat}{φ0:Fr}{r:Loop}{ds:List D}{σ:List aR}{σ':ι->List aR}{j:Option Code}(o:σ[k]?=aa (.loop N φ0 r))(U:r.state=.ready)(hlen:ds.length=r.params.size)(W:OK N r.params.toList=ab)(h:AW X N r.assign (λe I σ1=>e=.normal/\σ1[k]?=aa (.loop N φ0 r)/\AW X N r.body (λe φ2 σ2=>Sp e=aa j/\σ2[k]?=aa (.loop N φ0 {r with state:=.busy}) /\
   ∃i,EK (σ2.set k (.loop N φ0 {r with state:=if j.isNone then .ready else .done,pending:=j})) (σ' i)) I (σ1.set k (.loop N φ0 {r with state:=.busy}))) (rM r.params.toList ds φ0) σ):Yields X k ds σ j.isNone σ':=by
 intro s vs l Z hh hl;obtain⟨tmps,fn,df,h1,h2,h3,h4,h5⟩:=hh.AF o hl;have Qx:vs.length=r.params.size:=by grind[cp.get]
 obtain⟨y1,y2⟩:=H8 (P:=P) (args:=vs.toArray) h2 (by grind);refine⟨_,_,_,_,y1,y2,λS c cs hS=>?_⟩;let b:aU:={fn:=fn,tmps:=#[],todo:=[],defers:=[],mode:=.run,kind:=.normal,roundOf:=aa l}
 have K:b.kind≠.early:=by simp[b]
 have hf:cu N σ s (rM r.params.toList ds φ0) {tmps:=(r.params.zip vs.toArray).foldl (λtmps (t,a)=>tmps.setIfInBounds t a) tmps,defers:=[]}:=by
  have:=GN (a:={tmps:=tmps,defers:=[]}) (φ:=φ0) ⟨h3,⟨[],ay⟩,h4⟩ Z W;have e:(r.params.zip vs.toArray).foldl (λtmps (x:Tmp×ah)=>tmps.setIfInBounds x.1 x.2) tmps=(r.params.toList.zip vs).foldl (λtmps (x:Tmp×ah)=>tmps.setIfInBounds x.1 x.2) tmps:=by rw[<-Array.foldl_toList];simp
  grind
 show fL X S (G (b.aT {tmps:=(r.params.zip vs.toArray).foldl (λtmps (t,a)=>tmps.setIfInBounds t a) tmps,defers:=[]} [.code r.assign,.beginRound,.code r.body]) (c::cs)) s;refine h s _ hf hh b [.beginRound,.code r.body] (c::cs) S K ?_;rintro e I σ1 s1 a1 ⟨rfl,n,q⟩ f1 F A;refine .next rfl λs2 tI=>?_;have M:=X.iH tI;have f:=F.rely M;have f2:=f1.rely M F;have T:∃L,s2.β[k]?=aa L/\L.v=.func (.yield l) #[] #[]:=by obtain⟨B',L',k1,O,k3⟩:=(A.trans M.stepW).box k _ _ o h1;rw[n]at k1;cases k1;exact⟨L',O,k3⟩
 obtain⟨aaY,fn2,XP,g1,g2,g3,g4,g5⟩:=f.AF n T;have J:=f.AG (r':={r with state:=.busy}) n g1 g2 g3 g4 g5 (.inr rfl);have u:∀{s:St} {σ:List aR} {L:Loc},s.β[k]?=aa L->L.bs=[l]->fg s #[⟨.obj l,ae,ae⟩,⟨.obj l,ab,ae⟩]:=λ{s σ L} hL K =>
  .two (pC (bP hL) (by grind)) (pC (bP hL) (by grind))
 refine⟨_,_,_,Kz (l:=l) rfl K g2 U,⟨⟨_,_,f,J.1,J.2⟩,fg.seen (u (σ:=σ1) g1 rfl)⟩,?_⟩;have y:=J.2.nF f;have R:=J.1;refine q _ a1 (f2.mono y f.len) R b [] (c::cs) S K ?_;rintro e φ3 Y s3 a3 ⟨hj,p,ii,C⟩ f3 E V;have stA:=((A.trans M.stepW).trans y).trans V;have fin:∀B g,cv s3 g->((j=af/\B=[])∨(j=aa .ret/\∃k1,B=.code .ret::k1)∨(∃id k1,j=aa (.exit id)/\B=.code (.exit id)::k1/\exitTo id k1=af)) ->
   ∃g' s' es,aH P X.main (G (b.aT a3 B) (c::cs)) g.w=.go g' s'.w es/\rC g s' es/\fL X S g' s':=by
  intro B g d Q;have m:=E.rely d;have H:∃L,g.β[k]?=aa L/\L.v=.func (.yield l) #[] #[]:=by obtain⟨B',L',k1,O,k3⟩:=(stA.trans d.stepW).box k _ _ o h1;rw[p]at k1;cases k1;exact⟨L',O,k3⟩
  obtain⟨aaZ,fn5,df5,p1,p2,p3,p4,p5⟩:=m.AF p H;have z:=m.AG (r':={r with state:=if j.isNone then .ready else .done,pending:=j}) p p1 p2 p3 p4 p5 (.inr rfl);obtain⟨p7,p8,_⟩:=C _ z.1;exact⟨_,_,_,Cz (l:=l) rfl rfl p2 Q,⟨⟨_,_,m,z.1,z.2⟩,fg.seen (u (σ:=Y) p1 rfl)⟩,hS ii _ p7 (((stA.trans d.stepW).trans (z.2.nF m)).trans (p8.nF z.1))⟩
 cases e with
 |normal =>
  cases hj;exact .next rfl λg d=>fin [] g (X.iH d) (.inl ⟨rfl,rfl⟩)
 |ret =>
  cases hj;intro pre;exact .next rfl λg d=>fin _ g (X.iH d) (.inr (.inl ⟨rfl,pre,rfl⟩))
 |exit id =>
  cases hj;intro pre hp;refine .next rfl λg d=>fin _ g (X.iH d) (.inr (.inr ⟨id,_,rfl,rfl,?_⟩));have:=hp [];simpa[exitTo]using this
 |_=>cases hj
end
def jO{P:ar}(X:Cx P)(N:Nat)(c:Code)(Q:Post)(φ:Fr)(σ:List aR):Prop :=
 ∀s a,cu N σ s φ a->aF σ s->∀(b:aU) (k:List Item) (cs:List aU) (S:av->St->Prop),b.kind≠.early->b.roundOf=af ->
  (∀e φ' σ' s' a',Q e φ' σ'->cu N σ' s' φ' a'->aF σ' s'->cY σ s σ' s'->ends X S b k cs e a' s')->fL X S (G (b.aT a (.code c::k)) cs) s
section
variable {P:ar}{X:Cx P}{N:Nat}{Q:Post}{φ:Fr}{σ:List aR}
def AW.top{c:Code}(h:AW X N c Q φ σ):jO X N c Q φ σ:=λs a f hh b k cs S e _ d=>h s a f hh b k cs S e d
theorem jO.seq{x y:Code}(h:jO X N x (CB (jO X N y Q) Q) φ σ):jO X N (.seq x y) Q φ σ:=by
 intro s a m hh b k cs S j c g;refine .ctl hh rfl (λ_=>oy) λn h1=>?_;refine h n a (m.rely h1 hh) (hh.rely h1) b (.code y::k) cs S j c ?_;intro e φ' σ' s' a' q i l st;have d:=h1.stepW.trans st;cases e with
 |normal=>exact q s' a' i l b k cs S j c λe f σ2 s2 a2 q2 f2 h2 mR=>g e f σ2 s2 a2 q2 f2 h2 (d.trans mR)
 |_=>exact ends.cons (λ_ _=>rfl) (by simp) (g _ _ _ _ _ q i l d)
theorem jO.block{id:Nat}{c:Code}(h:jO X N c (xc id Q) φ σ):jO X N (.block id c) Q φ σ:=by
 intro s a m hh b k cs S o j g;refine .ctl hh rfl (λ_=>sD) λn h1=>?_;refine h n a (m.rely h1 hh) (hh.rely h1) b (.inBlock id::k) cs S o j ?_;intro e φ' σ' s' a' q i f st;have d:=h1.stepW.trans st;cases e with
 |normal =>
  exact .ctl f rfl (λ_=>rD) λs2 h2=>g .normal φ' σ' s2 a' q (i.rely h2 f) (f.rely h2) (d.trans h2.stepW)
 |exit Jx =>
  simp only[xc]at q;split at q
  .rename_i e;subst e;intro pre hp;refine .ctl f rfl (λ_=>Ad (k':=k) (by rw[hp];simp[exitTo])) λs2 h2=>?_;exact g .normal φ' σ' s2 a' q (i.rely h2 f) (f.rely h2) (d.trans h2.stepW)
  .rename_i p
   intro pre hp;have:=g (.exit Jx) φ' σ' s' a' q i f d (pre++[.inBlock id]) (λk'=>by
    rw[l8,hp];have:(id==Jx)=ae:=by grind
    simp[exitTo,this])
   grind
 |ret=>exact g _ _ _ _ _ q i f d
 |panic ch=>exact g _ _ _ _ _ q i f d
 |goto l=>exact g _ _ _ _ _ q i f d
 |outgrown=>exact g _ _ _ _ _ q i f d
def aF.Sq{s:St}(h:aF σ s){o:Nat->Prop}(a:∀b,o b->b<s.w.heap.size/\∀L∈s.β,b∉L.bs):aF σ {s with own:=o} :=
 ⟨h.mem,h.len,λl B L hB hL=>eE.carry (σ:=σ) (s:=s) (σ':=σ) (s':={s with own:=o}) ⟨λ_ _ _ h=>h,λ_ B L h c=>⟨B,L,h,c,.refl _ _⟩⟩ h.len (λ_ _=>⟨rfl,λ_=>rfl⟩) (h.box l B L hB hL),h.eO,h.lt,a⟩
def aF.iM{s:St}(h:aF σ s){r:Nat}{o:Nat->Prop}(e:s.own r)(f:∀b,o b->s.own b)(m:¬o r)(j:∀i,s.M r i=af)(g:s.w.heap[r]?=aa (.deferred (aa []))):
  aF (σ++[.qY]) {s with β:=s.β++[⟨.int .i64 r,[r]⟩],own:=o}/\eF s {s with β:=s.β++[⟨.int .i64 r,[r]⟩],own:=o}:=by
 obtain⟨n,q⟩:=h.own r e;have ex:Ext σ s (σ++[.qY]) {s with β:=s.β++[⟨.int .i64 r,[r]⟩],own:=o}:=by
  refine⟨λ_ _ _ h=>h,λl B L hB hL=>⟨B,L,?_,?_,.refl _ _⟩⟩
  .grind
  grind
 refine⟨⟨h.mem,by simp[h.len],?_,?_,?_,?_⟩,⟨rfl,λ_ _ _ h=>h,λ_ _ _=>rfl,h.mem,?_⟩⟩
 .intro l B L hB hL;rcases gq hL with c|⟨hl,rfl⟩
  .have hl:l<σ.length:=by rw[<-h.len];grind
   rw[jy hl]at hB;exact(h.box l B L hB c).carry ex h.len λ_ _=>⟨rfl,λ_=>rfl⟩
  .rw[hl,h.len,gk (bc _)]at hB;simp at hB;subst hB;exact⟨r,rfl,g,j⟩
 .intro l l' L L' hL fA b a d;rcases gq hL with k1|⟨e1,rfl⟩<;>rcases gq fA with k|⟨e2,rfl⟩
  .exact h.eO l l' L L' k1 k b a d
  .grind
  .grind
  grind
 .intro L hL b a;simp only[fx,fN]at hL;rcases hL with hL|rfl
  .exact h.lt L hL b a
  grind
 .intro b a;obtain⟨p,p2⟩:=h.own b (f b a);grind
 grind
def GM:Option Code->Option Exit
 |none=>aa .normal
 |some .ret=>aa .ret
 |some (.exit id)=>aa (.exit id)
 |_=>af
def jO.rangeFunc{ι:Type}{f:aq}{ps:Array Tmp}{assign body:Code}{F:aJ}{capD:List D}{res:ι->D}{σ':ι->List aR}{r':ι->Loop}(NC:∀s a,cu N σ s φ a->aF σ s->∃n:List ah,a.eval f=.func (.func F) #[] n.toArray/\cp σ s n capD)(JE:ef X F (.e (.one (.ref σ.length))::capD) (σ++[.loop N φ {state:=.ready,pending:=af,fn:=0,tmps:=#[],params:=ps,assign:=assign,body:=body,defers:=0}]) res σ')(hl:∀i,(σ' i)[σ.length]?=aa (.loop N φ (r' i))/\(r' i).state≠.busy)(k:∀i,∃e,GM (r' i).pending=aa e/\Q e φ ((σ' i).set σ.length .dead++[.qY])):jO X N (.rangeFunc f ps assign body) Q φ σ:=by
 intro s a fr hh b kk cs S m OI hQ;obtain⟨⟨fn,Vv,U,K⟩,H⟩:=JE;refine .next rfl λd QS=>?_;have hr:=X.iH QS;have j:=hh.rely hr;have T:=fr.rely hr hh;obtain⟨n,hv,C⟩:=NC d a T j;generalize Xu:d.w.heap.size=r;have u:=λmain=>AE (P:=P) (main:=main) (k:=kk) (cs:=cs) (ps:=ps) (assign:=assign) (body:=body) (b:=b) (w:=d.w) OI m Vv U K hv;rw[Xu]at u;let w1:aA:={d.w with heap:=d.w.heap.push (.deferred (aa []))}
 let lo:Loop:={state:=.ready,pending:=af,fn:=b.fn,tmps:=a.tmps,params:=ps,assign:=assign,body:=body,defers:=r}
 let w2:aA:={d.w with heap:=(d.w.heap.push (.deferred (aa []))).push (.loop lo)}
 have B5:w2.heap.size=r+2:=by grind
 have adt:w1.heap.size=r+1:=by grind
 have hk1:∀b,b<d.w.heap.size->w1.heap[b]?=d.w.heap[b]?:=λb m=>by grind
 have R:∀b,b<w1.heap.size->w2.heap[b]?=w1.heap[b]?:=λb m=>by grind
 have hk2:∀b,b<d.w.heap.size->w2.heap[b]?=d.w.heap[b]?:=λb m=>by grind
 have Y4:w2.heap[r]?=aa (.deferred (aa [])):=by grind
 have Y:w2.heap[r+1]?=aa (.loop lo):=by grind
 have nM:∀b,d.w.heap.size<=b->∀o,d.M b o=af:=λb m o=>by
  cases y:d.M b o with
  |none=>rfl
  |some v=>have:=j.block y;omega
 let L1:Loc:=⟨.func (.yield (r+1)) #[] #[],[r+1]⟩
 let L2:Loc:=⟨.int .i64 r,[r]⟩
 let Z:Loop:={state:=.ready,pending:=af,fn:=0,tmps:=#[],params:=ps,assign:=assign,body:=body,defers:=0}
 obtain⟨g1,g2⟩:=j.grow (M':=d.M) (w':=w2) (by omega) hk2 (λ_ _ _=>rfl) (λb m o v y=>by grind) rfl rfl rfl;have J:Ext σ d (σ++[.loop N φ Z]) ⟨d.β++[L1],d.M,w2,d.own⟩:=by
  refine⟨λ_ _ _ h=>h,λl B L hB hL=>⟨B,L,?_,?_,.refl _ _⟩⟩
  .grind
  grind
 obtain⟨a1,a2⟩:=g1.ik (B:=.loop N φ Z) (L:=L1) g2 rfl j ⟨r+1,a.tmps,b.fn,r,rfl,Y,T.size,λt=>(T.slot t).mono J j.len,λo=>nM _ (by omega) o⟩ (λb m=>by grind)
 have hD:=a1.Sq (o:=λb=>d.own b∨b=r) (by
  rintro b (m|rfl)
  .exact a1.own b m
  .refine⟨by grind,λL hL=>?_⟩;simp only[fx,fN]at hL;rcases hL with hL|rfl
   .intro hc;have:=j.lt L hL b hc;omega
   grind)
 have d1:=j.lW;obtain⟨e1,e2⟩:=d1.grow (M':=d.M) (w':=w1) (by omega) hk1 (λ_ _ _=>rfl) (λb m o v y=>by grind) rfl rfl rfl;obtain⟨e3,e4⟩:=e1.ik (B:=.dead) (L:=L2) e2 rfl d1 ay (λb m=>by grind)
 obtain⟨e5,e6⟩:=e3.grow (M':=d.M) (w':=w2) (by grind) R (λ_ _ _=>rfl) (λb m o v y=>by grind) rfl rfl rfl
 obtain⟨e7,e8⟩:=e5.ik (B:=.dead) (L:=L1) e6 rfl e3 ay (λb m=>by grind);have XS:eF ⟨d.β++[L2]++[L1],d.M,w2,d.own⟩ ⟨d.β++[L1],d.M,w2,λb=>d.own b∨b=r⟩:=by
  refine⟨rfl,λ_ _ _ h=>h,λ_ _ _=>rfl,a1.mem,?_⟩;rintro b ((m|rfl)|⟨L,hL,m⟩)
  .grind
  .exact .inr ⟨L2,by simp,by grind⟩
  grind
 refine⟨_,⟨d.β++[L2]++[L1],d.M,w2,d.own⟩,_,u X.main,⟨⟨_,_,d1,e7,e4.trans e8⟩,.nil⟩,.ghost XS (H _ (Value.func (.yield (r+1)) #[] #[]::n) ?_ hD S _ λi Uu v s4 I mJ XT Y5=>?_)⟩
 .refine⟨⟨λB p=>?_,L1,?_,rfl,rfl⟩,?_⟩
  .rw[gk (bc _)]at p;simp at p;subst p;rfl
  .show (d.β++[L1])[σ.length]?=_;rw[<-j.len,gk (bc _)];simp
  .exact C.mono (σ:=σ) (s:=d) (σ':=σ++[.loop N φ Z]) (s':=⟨d.β++[L1],d.M,w2,λb=>d.own b∨b=r⟩) ⟨J.mem,J.box⟩ j.len
 have V:(b.aT {a with defers:={target:=.collected r,args:=#[]}::a.defers} (.inRangeFunc (r+1)::kk)).finish v=b.aT {a with defers:={target:=.collected r,args:=#[]}::a.defers} (.endRangeFunc (r+1)::kk):=by simp[Frame.finish,Frame.aT]
 refine qz (cs:=cs) (c:=b.aT {a with defers:={target:=.collected r,args:=#[]}::a.defers} (.inRangeFunc (r+1)::kk)) XT I λs5 hr5=>?_;rw[V];refine .next rfl λs6 Y6=>?_;have hr6:=X.iH Y6;have x:=(XT.rely hr5).rely hr6;have O:=(Y5.trans hr5.stepW).trans hr6.stepW;obtain⟨z,Vw⟩:=hl i;have hLl:∃L,s6.β[σ.length]?=aa L/\L.v=.func (.yield (r+1)) #[] #[]:=by
  obtain⟨B',L',k1,k2,k3⟩:=O.box σ.length (.loop N φ Z) L1 (show(σ++[aR.loop N φ Z])[σ.length]?=_ from List.getElem?_concat_length) (by show(d.β++[L1])[σ.length]?=_;rw[<-j.len,gk (bc _)];simp)
  rw[z]at k1;cases k1;exact⟨L',k2,k3⟩
 obtain⟨E,fn6,df6,p1,p2,p3,p4,p5⟩:=x.AF z hLl;obtain⟨q1,q2⟩:=x.AG (r':={r' i with state:=.exhausted}) (B':=.dead) z p1 p2 p3 p4 p5 (.inl rfl);refine⟨_,_,_,EJ p2 Vw,⟨⟨_,_,x,q1,q2⟩,fg.seen (.two (pC (bP p1) (by simp)) (pC (bP p1) (by simp)))⟩,?_⟩;have g:=O.trans (q2.nF x);generalize hs7:({s6 with w:={s6.w with heap:=s6.w.heap.setIfInBounds (r+1) (.loop {{r' i with state:=.exhausted}with tmps:=E,fn:=fn6,defers:=df6})}}:St)=s7 at q1 q2 g;have h7r:s7.own r:=by rw[g.own];grind
 have h7d:s7.w.heap[r]?=aa (.deferred (aa [])):=by rw[g.fy r (.inr rfl)];exact Y4
 have h7M:∀o,s7.M r o=af:=λo=>by rw[g.je r (by grind) (λL hL=>(hD.own r (.inr rfl)).2 L hL)];grind
 obtain⟨t1,t2⟩:=q1.iM (r:=r) (o:=d.own) h7r (λb m=>by rw[g.own];grind) (λhc=>by have:=(j.own r hc).1;omega) h7M h7d;refine .ghost t2 ?_;have A:cY σ d ((σ' i).set σ.length .dead++[.qY]) {s7 with β:=s7.β++[⟨.int .i64 r,[r]⟩],own:=d.own}:=by
  refine⟨?_,λb m=>?_,λb o v y=>g.mem b o v y,λb m hn o=>?_,λL hL b m=>?_,λl B L hB hL=>?_,g.os,g.tape,g.output,rfl⟩
  .grind
  .show s7.w.heap[b]?=_;rw[g.fy b (.inl m)];exact hk2 b (j.own b m).1
  .show s7.M b o=_;rw[g.je b (by grind) (λL hL=>?_)];grind
  .simp only[fx,fN]at hL;rcases hL with hL|rfl
   .rcases g.vK L hL b m with h1|⟨L0,h1,h2⟩
    .grind
    grind
   grind
  .have RG:=(b6.1 hB).1;have RH:=(b6.1 hL).1;obtain⟨B',L',k1,k2,k3⟩:=g.box l B L (by grind) (by grind);grind
 have fF:cu N ((σ' i).set σ.length .dead++[.qY]) {s7 with β:=s7.β++[⟨.int .i64 r,[r]⟩],own:=d.own} φ {a with defers:={target:=.collected r,args:=#[]}::a.defers}:=by
  have y:=T.mono A j.len;obtain⟨ls,W⟩:=T.defers;refine⟨y.size,⟨((σ' i).set σ.length .dead).length::ls,⟨⟨?_,⟨.int .i64 r,[r]⟩,r,?_,rfl,rfl⟩,λhc=>?_,W.mono A.ext⟩⟩,y.slot⟩
  .grind
  .show (s7.β++_)[_]?=_;rw[<-q1.len,gk (bc _)];simp
  .have h1:=W.CC _ hc;grind
 obtain⟨e,p,hq⟩:=k i;have q:=hQ e φ _ _ _ hq fF t1 (hr.stepW.trans A);revert p;show GM (r' i).pending=aa e->fL X S (G (b.aT _ (((r' i).pending.map Item.code).toList++kk)) cs) _;intro p;cases hp:(r' i).pending with
 |none=>rw[hp]at p;cases p;exact q
 |some c =>
  rw[hp]at p;cases c<;>simp only[GM,reduceCtorEq,dw]at p
  .subst p;exact q [] (λ_=>rfl)
  .subst p;exact q kk
def cu.callee{t:Nat}{F:aJ}{cap:List C}(hl:look φ t=.e (.one (.c (.fn (.func F) [] cap)))):∀s a,cu N σ s φ a->aF σ s->∃b:List ah,a.eval (.tmp t)=.func (.func F) #[] b.toArray/\cp σ s b (fP cap):=by
 intro s a d _;have h:=d.slot t;rw[hl]at h;have h:=e9 h;show ∃b:List ah,a.tmps.getD t ai=.func (.func F) #[] b.toArray/\_;generalize a.tmps.getD t ai=v at h;cases h with
 |fn fs cs hl Ed f1 f2 h1 h2 r1 r2 =>
  grind[nN]
def ef.AH{ι:Type}{f:aJ}{fn:Func}{c:Code}{args:List D}{σ':ι->List aR}{res:ι->D}(l:P.funcs[f]?=aa fn)(d:(fn.name== "runtime.NumGoroutine")=ae)(m:fn.body=aa c)(g:bA args.length fn.ntmps=ab)(h:Fits args σ->jO X fn.ntmps c (λe φ σ1=>∃j,cw fn σ.length (res j) (σ' j) e φ σ1) (ji 0 args) σ):ef X f args σ res σ':=by refine⟨⟨fn,l,d,by grind⟩,λs0 vs hr hh=>?_⟩;exact(ef.QT l d m (db g) λs a f i b k cs S hk OI hQ=>h ⟨s0,vs,hr,hh⟩ s a f i b k cs S hk OI hQ).2 s0 vs hr hh
def Y7(fn:Func)(res:D)(σ':List aR):Post:=λe φ σ1 =>
 (e=.ret∨e=.normal)/\σ1=σ'/\lM σ'=ab/\∃ds d ps,yy φ fn.results.toList=aa ds/\sG ds=aa d/\Ee d res=aa ps/\az ps
def ef.EL{ι:Type}{f:aJ}{fn:Func}{c:Code}{args:List D}{σ':ι->List aR}{res:ι->D}(q:P.funcs[f]?=aa fn)(k:(fn.name== "runtime.NumGoroutine")=ae)(y:fn.body=aa c)(g:bA args.length fn.ntmps=ab)(h:AW X fn.ntmps c (λe φ σ1=>∃j,Y7 fn (res j) (σ' j) e φ σ1) (ji 0 args) σ):ef X f args σ res σ':=by
 refine⟨⟨fn,q,k,by grind⟩,λs vs hr hh S cs hS=>?_⟩;obtain⟨hl,H⟩:=cp.get hr;let b:aU:={fn:=f,tmps:=#[],todo:=[],defers:=[],mode:=.run,kind:=.normal,roundOf:=af}
 have a:Frame.enter P f vs.toArray .normal=b.aT {tmps:=vs.toArray++Array.replicate (fn.ntmps-vs.toArray.size) ai,defers:=[]} [.code c]:=by simp[Frame.enter,Frame.aT,q,y,b]
 rw[a];have g:=db g;refine h s {tmps:=vs.toArray++Array.replicate (fn.ntmps-vs.toArray.size) ai,defers:=[]} ⟨by grind,⟨[],ay⟩,λt=>?_⟩ hh b [] cs S (by simp[b]) ?_
 .rw[oC];simp only[kD,cq,lU];have:=H t;rcases cM t vs.length with I|r
  .have e:(vs.toArray++Array.replicate (fn.ntmps-vs.toArray.size) ai).getD t ai=(vs[t]?).getD ai:=by simp only[dZ];grind
   grind
  .rw[sd (by omega)];trivial
 .rintro e φ' σ1 s1 a1 ⟨J,o,rfl,n,ds,d,ps,h1,h2,B,F⟩ E m st;have fin:∀(fr:aU) s2,cv s1 s2->fr.fn=f->fr.tmps=a1.tmps->fr.defers=a1.defers->fr.mode=.returning->fr.kind=.normal->fL X S (G fr cs) s2:=by
   intro fr s2 tI e1 e2 e3 e4 e5;have p:=E.rely tI m;obtain⟨v,u,C,x⟩:=uO (P:=P) p h1 h2;obtain⟨ls,i⟩:=p.defers;have z:a1.defers=[]:=by
    cases ls with
    |nil=>cases A:a1.defers with
     |nil=>rfl
     |cons d ds=>rw[A]at i;exact i.elim
    |cons l ls=>exact absurd rfl (nQ n _ (bP (i.CC l (by simp))))
   refine hS J fr v _ ⟨e1,e4,by grind,e5,fn,by grind,λw _=>?_⟩ (oE B F C) (m.rely tI) (st.trans tI.stepW);rw[e2];exact⟨u w,λe o=>by rw[x w #[]]at o;grind⟩
  rcases o with rfl|rfl
  .intro pre;exact .ctl m rfl (λ_=>El rfl) λs2 tI=>fin _ s2 tI rfl rfl (iD _) rfl rfl
  .exact .ctl m rfl (λ_=>Em rfl) λs2 tI=>fin _ s2 tI rfl rfl (iD _) rfl rfl
end
structure K1{P:ar}(X:Cx P)(N:Nat)(ops:Array au)(φ:Fr)(σ:List aR)(x:Nat->D)(c:Nat->Fr)(idx:Nat->Option Nat)(last:Nat):Prop where
 back:∀i o,ops[i]?=aa o->∀e∈o.after,dr e=ab->e.on<i
 JY:∀i o d,ops[i]?=aa o->o.dst=aa d->idx d=aa i/\d<N
 yz:∀d i,idx d=aa i->∃o,ops[i]?=aa o/\o.dst=aa d
 one:∀i o,ops[i]?=aa o->i≠last->OA X N ops.toList o (c i) σ (x i) σ
 Uu:∀i o,ops[i]?=aa o->i≠last->∀t σ s v,dt σ s v (match idx t with|some j=>(if ∃e∈o.after,dr e=ab/\e.on=j then x j else .any)|none=>look φ t)->dt σ s v (look (c i) t)
 lst:∀o,ops[last]?=aa o->∀j,j<ops.size->j≠last->∃e∈o.after,dr e=ab/\e.on=j
 has:last<ops.size
section
variable {P:ar}{X:Cx P}{N:Nat}{ops:Array au}{φ:Fr}{σ:List aR}{x:Nat->D}{c:Nat->Fr}{idx:Nat->Option Nat}{last:Nat}
theorem CN{a t:Nat}{L:Array Bool}(h:∀i,i<ops.size->L.getD i ab=ab):Region.linearise.go .any ops a t L []=[]:=by
 cases a with
 |zero=>exact wO t L
 |succ n =>
  have b:ba .any ops L=[]:=by
   cases b:ba .any ops L with
   |nil=>rfl
   |cons y e =>
    have d:y∈ba .any ops L:=by grind
    grind[mem_ready]
  grind[pD]
def K1.arr(h:K1 X N ops φ σ x c idx last){U:av->St->Prop}{b:aU}{kk:List Item}{cs:List aU}(M:b.kind≠.early){s0:St}(hQ:∀s a,a.tmps.size=N->(∀t,dt σ s (a.tmps.getD t ai) (match idx t with|some j=>if j=last then .any else x j|none=>look φ t))->a.defers=[]->aF σ s->cY σ s0 σ s->fL X U (G (b.aT a (.inRegion ops [last]::kk)) cs) s):
  ∀(f:Nat) (L:Array Bool),L.size=ops.size->(L.toList.filter (λb=>!b)).length<=f->¬L.getD last ae=ab ->
   (∀i o,ops[i]?=aa o->L.getD i ae=ab->∀e∈o.after,dr e=ab->L.getD e.on ae=ab) ->
   ∀(s:St) (a:Act),Jq N σ s (gz φ x idx L) a->a.defers=[]->aF σ s->cY σ s0 σ s ->
   ∀t,fL X U (G (b.aT a (.inRegion ops (Region.linearise.go .any ops f t L [])::kk)) cs) s:=by
 intro f;induction f with
 |zero =>
  intro L hs hf l S s a g H hh st t;exfalso;have hm:L[last]'(by have:=h.has;omega)∈L.toList:=by simp
  have Z:=h.has;cases M:L[last]'(by omega)with
  |true=>exact l (by simp[dZ,gm (by omega:last<L.size),M])
  |false =>
   have:L[last]'(by omega)∈L.toList.filter (λb=>!b):=jS.2 ⟨hm,by grind⟩;grind
 |succ f ih =>
  intro L hs hf l S s a g H hh st t;rw[pD];cases I:(ba .any ops L)[t % (ba .any ops L).length]? with
  |none =>
   exfalso;have hr:ba .any ops L=[]:=by
    cases hr:ba .any ops L with
    |nil=>rfl
    |cons y ys =>
     grind[Nat.mod_lt]
   have F:∀i,i<ops.size->L.getD i ae=ab:=by
    intro i;induction i using Nat.strongRecOn with
    |_ i ihi =>
     intro hi;cases M:L.getD i ae with
     |true=>rfl
     |false =>
      have hm:i∈ba .any ops L:=mem_ready.2 ⟨ops[i],gm hi,by
       grind,λe Y z=>by
       have:=h.back i _ (gm hi) e Y z
       grind⟩
      grind
   exact l (F last h.has)
  |some i =>
   have hi:=bP I;obtain⟨o,E,Yj,RX⟩:=mem_ready.1 hi;have Z:i<ops.size:=(iA.1 E).1;have J:¬L.getD i ae=ab:=by grind
   by_cases w:i=last
   .subst w;have u:Region.linearise.go .any ops f (t / (ba .any ops L).length) (L.setIfInBounds i ab) []=[]:=by
     refine CN λj hj=>?_;have hj2:(L.setIfInBounds i ab).getD j ae=ab:=by
      rw[eW (by omega)];by_cases e:j=i
      .grind
      .obtain⟨ed,Y,z,rfl⟩:=h.lst o E j hj e;grind
     grind
    simp only[u];refine hQ s a g.size (λt=>?_) H hh st;have:=g.slot t;unfold gz at this;cases k:idx t with
    |none=>grind
    |some j =>
     simp only[k]at this⊢;obtain⟨oj,A,_⟩:=h.yz _ _ k;by_cases e:j=i
     .rw[bl e];trivial
     .rw[aY e];obtain⟨ed,Y,z,rfl⟩:=h.lst o E j (iA.1 A).1 e;grind
   have q:(L.setIfInBounds i ab).size=ops.size:=by grind
   have p:((L.setIfInBounds i ab).toList.filter (λb=>!b)).length<=f:=by
    have h1:L.toList[i]?=aa ae:=by rw[zZ,gm (by omega:i<L.size)];simpa[dZ,gm (by omega:i<L.size)]using J
    grind[count_set]
   have K:∀j o',ops[j]?=aa o'->(L.setIfInBounds i ab).getD j ae=ab->∀e∈o'.after,dr e=ab->(L.setIfInBounds i ab).getD e.on ae=ab:=by grind[eW]
   have r:¬(L.setIfInBounds i ab).getD last ae=ab:=by grind[eW]
   have W:cu N σ s (c i) a:=g.JX λt σ s v C=>h.Uu i o E w t σ s v (by
    unfold gz at C;cases k:idx t with
    |none=>grind
    |some j =>
     simp only[k]at C⊢;split
     .grind
     .trivial)
   have B:∀(s':St) (v:ah),cY σ s σ s'->dt σ s' v (x i)->Jq N σ s' (gz φ x idx (L.setIfInBounds i ab)) (a.put o.dst v):=by
    intro s' v m C;cases H:o.dst with
    |none =>
     refine⟨g.size,g.defers.imp λ_ h1=>h1.mono m.ext,λt=>?_⟩;have n:=(g.slot t).mono m.ext hh.len;simp only[Act.put];unfold gz at n⊢;cases k:idx t with
     |none=>grind
     |some j =>
      simp only[k]at n⊢;obtain⟨oj,A,O⟩:=h.yz _ _ k;grind[eW]
    |some d =>
     obtain⟨T,Q⟩:=h.JY i o d E H;refine⟨by simp[Act.put,g.size],g.defers.imp λ_ h1=>h1.mono m.ext,λt=>?_⟩;simp only[Act.put];by_cases e:d=t
     .subst e;have V:d<a.tmps.size:=by rw[g.size];exact Q
      simp only[dZ,wo V,ij];unfold gz;simp only[T];rw[bl ((eW (by omega)).2 (.inl rfl))];exact C
     .have n:=(g.slot t).mono m.ext hh.len;simp only[dZ]at n⊢;rw[wq e];unfold gz at n⊢;cases k:idx t with
      |none=>grind
      |some j =>
       simp only[k]at n⊢;obtain⟨oj,A,O⟩:=h.yz _ _ k;grind[eW]
   have:=h.one i o E w s a W hh b kk cs U i (Region.linearise.go .any ops f (t / (ba .any ops L).length) (L.setIfInBounds i ab) []) M (by grind);simp only[pr]at this;exact this λv s' C R m=>ih _ q p r K s' _ (B _ _ m C) (by cases o.dst<;>exact H) R (st.trans m) _
theorem K1.region(h:K1 X N ops φ σ x c idx last)(v:P.follows Departure.mixedOrders=ab){r:av->St->Prop}{b:aU}{kk:List Item}{cs:List aU}(A:b.kind≠.early){s0:St}{a0:Act}{id:Nat}(y:cu N σ s0 φ a0)(p:a0.defers=[])(n:aF σ s0)(u:∀s a,a.tmps.size=N->(∀t,dt σ s (a.tmps.getD t ai) (match idx t with|some j=>if j=last then .any else x j|none=>look φ t))->a.defers=[]->aF σ s->cY σ s0 σ s->fL X r (G (b.aT a (.inRegion ops [last]::kk)) cs) s):
  fL X r (G (b.aT a0 (.code (.region id ops ab)::kk)) cs) s0:=by
 refine .next rfl λg e=>?_;have e:=X.iH e;have f:=n.rely e;have l:=y.rely e n;have k:Step σ g σ {g with w:={g.w with drawn:=g.w.drawn+1}}:=Step.same rfl rfl rfl rfl;have m:aF σ {g with w:={g.w with drawn:=g.w.drawn+1}}:=f.same rfl;have q:=e.stepW.trans (k.nF f);refine⟨_,{g with w:={g.w with drawn:=g.w.drawn+1}},#[],mb,⟨⟨σ,σ,f,m,k⟩,.nil⟩,?_⟩;simp only[Region.schedule,v,Bool.true_or,cq];refine h.arr A (s0:=s0) u ops.size _ (by simp) (by simp) ?_ ?_ _ a0 ?_ p m q _
 .simp[dZ,ni];split<;>simp
 .intro i o B hi;simp[dZ,ni]at hi;split at hi<;>simp at hi
 .have d:=l.mono (k.nF f) f.len;refine⟨d.size,d.defers,λt=>?_⟩;unfold gz;cases z:idx t with
  |none=>exact d.slot t
  |some j =>
   simp only;rw[aY]
   .exact d.slot t
   .simp[dZ,ni];split<;>simp
end
def mW{P:ar}(X:Cx P)(N:Nat)(all:List au)(o:au)(φ:Fr)(σ:List aR){ι:Type}(x:ι->D)(σ':ι->List aR):Prop :=
 ∀s a,cu N σ s φ a->aF σ s->∀(b:aU) (k:List Item) (cs:List aU) (S:av->St->Prop) (i:Nat) (rest:List Nat),b.kind≠.early->all.toArray[i]?=aa o ->
  (∀j v s',dt (σ' j) s' v (x j)->aF (σ' j) s'->cY σ s (σ' j) s'->fL X S (G (b.aT (a.put o.dst v) (.inRegion all.toArray rest::k)) cs) s')->fL X S (G (b.aT a (.inRegion all.toArray (i::rest)::k)) cs) s
def AO:List au->Nat->(Nat->D)->List (Option Nat×D)
 |[],_,_=>[]
 |o::r,i,x=>(o.dst,x i)::AO r (i+1) x
def xg{x:Nat->D}:∀{l:List au}{k j:Nat},(AO l k x)[j]?=(l[j]?).map λo=>(o.dst,x (k+j))
 |[],k,j=>by simp[AO]
 |o::r,k,0=>by simp[AO]
 |o::r,k,j+1=>by simp only[AO,oh];rw[xg,show k+1+j=k+(j+1) by omega]
def kr(all:List au)(φ:Fr)(x:Nat->D)(i:Nat):Fr:=jF (λj=>iv j (bZ (all.getD i jN).after.toList)) 0 (AO all 0 x) (vm all φ)
def NF(all:List au)(φ:Fr)(x:Nat->D):Fr:=jF (λ_=>ab) 0 (AO all 0 x) (vm all φ)
def oF(N:Nat):List au->Bool
 |[]=>ab
 |o::r=>match gg N o.dst with|true=>oF N r|false=>ae
def y5{N:Nat}:∀{l:List au},oF N l=ab->∀(i:Nat)(o:au),l[i]?=aa o->gg N o.dst=ab
 |[],_,i,o,h=>by grind
 |p::r,h,i,o,hi=>by
  simp only[oF]at h;split at h
  .rename_i a;cases i with
   |zero=>grind
   |succ i=>exact y5 h i o (by grind)
  grind
def sH:List au->Nat->Bool
 |[],_=>ab
 |o::r,i=>match Uw i (bZ o.after.toList)with|true=>sH r (i+1)|false=>ae
def CJ:∀{l:List au}{k:Nat},sH l k=ab->∀(i:Nat)(o:au),l[i]?=aa o->∀e∈bZ o.after.toList,e<k+i
 |[],_,_,i,o,h=>by grind
 |p::r,k,h,i,o,hi=>by
  simp only[sH]at h;split at h
  .rename_i a;cases i with
   |zero=>simp at hi;subst hi;exact Eu a
   |succ i=>intro e b;have:=CJ h i o (by grind) e b;omega
  grind
def AP(pre:Nat->Bool):List Nat->Bool
 |[]=>ae
 |e::r=>match pre e with|true=>AP pre r|false=>ab
theorem y6{pre:Nat->Bool}:∀{l:List Nat},AP pre l=ab->∃e∈l,pre e=ae
 |[],h=>by cases h
 |e::r,h=>by
  simp only[AP]at h;split at h
  .obtain⟨a,c,b⟩:=y6 h;grind
  grind
def AQ(pre:Nat->Bool)(m:Nat):List au->Nat->Bool
 |[],_=>ab
 |o::r,i=>match pre i with
  |true=>AQ pre m r (i+1)
  |false=>match aB i m with
   |true=>AQ pre m r (i+1)
   |false=>match AP pre (bZ o.after.toList)with|true=>AQ pre m r (i+1)|false=>ae
theorem GS{pre:Nat->Bool}{m:Nat}:∀{l:List au}{k:Nat},AQ pre m l k=ab->∀(i:Nat)(o:au),l[i]?=aa o->pre (k+i)=ae->k+i≠m->∃e∈bZ o.after.toList,pre e=ae
 |[],_,_,i,o,h=>by grind
 |p::r,k,h,i,o,hi=>by
  intro c b;simp only[AQ]at h;cases i with
  |zero =>
   simp at hi;subst hi;simp only[iE]at c b;grind[Nat.eq_of_beq_eq_true,y6]
  |succ i =>
   have a:AQ pre m r (k+1)=ab:=by grind
   exact GS a i o (by grind) (by grind) (by omega)
section
variable {P:ar}{X:Cx P}{N:Nat}{ops:Array au}{φ:Fr}{σ:List aR}{idx:Nat->Option Nat}
def ON{x:Nat->D}{s:St}{a:Act}{L:Array Bool}{i:Nat}{o:au}(b:∀t σ s v,dt σ s v (match idx t with|some j=>(if ∃e∈o.after,dr e=ab/\e.on=j then x j else .any)|none=>look φ t)->dt σ s v (look (kr ops.toList φ x i) t))(c:Jq N σ s (gz φ x idx L) a)(g:∀e∈o.after,dr e=ab->L.getD e.on ae=ab):cu N σ s (kr ops.toList φ x i) a:=c.JX λt σ s v f=>b t σ s v (by
 unfold gz at f;cases d:idx t with
 |none=>grind
 |some j =>
  simp only[d]at f⊢;split
  .grind
  .trivial)
def Ic{x y:Nat->D}{σ2:List aR}{s s':St}{a:Act}{v:ah}{L:Array Bool}{i:Nat}{o:au}(f:∀d,o.dst=aa d->idx d=aa i/\d<N)(p:∀d j,idx d=aa j->∃o,ops[j]?=aa o/\o.dst=aa d)(A:ops[i]?=aa o)(q:i<L.size)(w:∀j,L.getD j ae=ab->y j=x j)(c:s.β.length=σ.length)(st:cY σ s σ2 s')(b:Jq N σ s (gz φ x idx L) a)(r:dt σ2 s' v (y i)):Jq N σ2 s' (gz φ y idx (L.setIfInBounds i ab)) (a.put o.dst v):=by
 have old:∀t,idx t≠aa i->dt σ2 s' (a.tmps.getD t ai) (gz φ y idx (L.setIfInBounds i ab) t):=by intro t z;have l:=(b.slot t).mono st.ext c;unfold gz at l⊢;grind[eW]
 cases u:o.dst with
 |none =>
  refine⟨b.size,b.defers.imp λ_ k=>k.mono st.ext,λt=>?_⟩;refine old t λh=>?_;grind
 |some d =>
  obtain⟨n,g⟩:=f d u;refine⟨by simp[Act.put,b.size],b.defers.imp λ_ k=>k.mono st.ext,λt=>?_⟩;simp only[Act.put];by_cases e:d=t
  .subst e;have m:d<a.tmps.size:=by rw[b.size];exact g
   simp only[dZ,wo m,ij];unfold gz;simp only[n];rw[bl ((eW q).2 (.inl rfl))];exact r
  .have:=old t (λh=>by grind)
   simp only[dZ]at this⊢;grind
def KH{back:∀i o,ops[i]?=aa o->∀e∈o.after,dr e=ab->e.on<i}{L:Array Bool}(c:L.size=ops.size)(d:ba .any ops L=[]):∀i,i<ops.size->L.getD i ae=ab:=by
 intro i;induction i using Nat.strongRecOn with
 |_ i a =>
  intro hi;cases g:L.getD i ae with
  |true=>rfl
  |false =>
   have f:i∈ba .any ops L:=mem_ready.2 ⟨ops[i],gm hi,by
    grind,λe h b=>by grind⟩
   grind
def ER{L:Array Bool}{t:Nat}(a:(ba .any ops L)[t % (ba .any ops L).length]?=af):ba .any ops L=[]:=by
 cases c:ba .any ops L with
 |nil=>rfl
 |cons y b =>
  grind[Nat.mod_lt]
theorem AR{L:Array Bool}(d:L.size=ops.size)(e:(L.toList.filter (λb=>!b)).length<=0):∀i,i<ops.size->L.getD i ae=ab:=by
 intro i hi;have a:L[i]'(by omega)∈L.toList:=by simp
 cases c:L[i]'(by omega)with
 |true=>simp[dZ,gm (by omega:i<L.size),c]
 |false =>
  have:L[i]'(by omega)∈L.toList.filter (λb=>!b):=jS.2 ⟨a,by grind⟩;grind
end
def qZ(xs:List UInt8):List ah:=xs.map λx=>.int .u8 x.toNat
theorem vN{xs:List UInt8}:(qZ xs).length=xs.length:=by simp[qZ]
def NY{xs b:List UInt8}:qZ (xs++b)=qZ xs++qZ b:=by simp[qZ]
def py(bf:Option (Nat×Nat))(n:Nat):ah:=match bf with|none=>.slice af 0 0|some (g,cap)=>.slice (aa ⟨g,0,af⟩) n cap
def BB(T E:aj)(a:Bool)(v1:ah)(bf:Option (Nat×Nat))(xs:List UInt8)(f:Nat):ah->(Nat->Option Obj)->Prop:=λv d =>
 ∃b,v=.pointer (aa ⟨b,0,af⟩)/\cN v1=ab/\d b=aa (.cells #[if a then v else .pointer af,v1] T (0,0)) /\
 match bf with
 |none=>xs=[]/\∀c,(d c).isSome=ab↔c=b
 |some (g,cap)=>g≠b/\xs.length<=cap/\0<cap/\cap<=9223372036854775807/\f<=xs.length/\(∃e,(qZ xs++e).length=cap/\d g=aa (.cells (qZ xs++e).toArray E (0,f)))/\∀c,(d c).isSome=ab↔c=b∨c=g
section
variable {P:ar}{X:Cx P}{N:Nat}{m:List (Nat×TI)}{o:au}{k:aq->D}{σ:List aR}{l:Nat}{T E:aj}{a:Bool}{v1:ah}{bf:Option (Nat×Nat)}{xs:List UInt8}{f:Nat}{s:St}
structure wx(P:ar)(σ:List aR)(s:St)(l:Nat)(T E:aj)(a:Bool)(v1:ah)(bf:Option (Nat×Nat))(xs:List UInt8)(f:Nat)(L:Loc)(b:Nat)(ch:Nat->Option Obj):Prop where
 β:s.β[l]?=aa L
 v:L.v=.pointer (aa ⟨b,0,af⟩)
 bb:BB T E a v1 bf xs f L.v ch
 heap:∀(b:Nat) (o:Obj),ch b=aa o->s.w.heap[b]?=aa o
 bs:∀b,b∈L.bs↔(ch b).isSome=ab
 M:∀b∈L.bs,∀o,s.M b o=af
 ch:ch b=aa (.cells #[if a then L.v else .pointer af,v1] T (0,0))
 cell:cN v1=ab
def BB.row(hh:aF σ s)(hl:σ[l]?=aa (.cm (BB T E a v1 bf xs f))):∃L b ch,wx P σ s l T E a v1 bf xs f L b ch:=by
 have c:l<s.β.length:=by rw[hh.len];grind
 have e:=br c;generalize s.β[l]=L at e;obtain⟨ch,g,h1,h2,i⟩:=hh.box l _ L hl e;have d:=g;obtain⟨b,h,n,j,_⟩:=d;exact⟨L,b,ch,e,h,g,h1,h2,i,j,n⟩
def wx.mem{L:Loc}{b:Nat}{ch:Nat->Option Obj}(r:wx P σ s l T E a v1 bf xs f L b ch):b∈L.bs:=(r.bs b).2 (by rw[r.ch];rfl)
def wx.ptr{L:Loc}{b:Nat}{ch:Nat->Option Obj}(r:wx P σ s l T E a v1 bf xs f L b ch){v:ah}{off:Nat}(h:dt σ s v (.e (.one (.ptr l off)))):v=.pointer (aa ⟨b,off,af⟩):=by obtain⟨_,d,c,h1,h2,rfl⟩:=(h:gB σ s v (.ptr l off));rw[r.β]at h1;cases h1;rw[r.v]at h2;grind
def JH(hT:cW P m){t:aj}{x:aq}{i:TI}(h:o.op=.load t x)(hi:bG m t=aa i)(I:i.agg=ae)(H:σ[l]?=aa (.cm (BB T E a v1 bf xs f))){off:Nat}{d:D}(C:k x=.e (.one (.ptr l off)))(J:∀s L b ch,aF σ s->wx P σ s l T E a v1 bf xs f L b ch->∃v,(#[if a then L.v else .pointer af,v1]:Array ah)[off]?=aa v/\dt σ s v d):bM P o k σ d σ:=by
 refine .oz λs G A F=>?_;obtain⟨L,b,ch,r⟩:=BB.row (P:=P) A H;have y:=r.ptr (by have:=F x;rwa [C]at this);obtain⟨v,K,u⟩:=J s L b ch A r;have g:s.w.cell? ⟨b,off,af⟩=aa v:=by simp only[aV,r.heap _ _ r.ch];grind
 have c:(loadVar t ⟨b,off,af⟩).run P s.w=.ok v s.w:=by simp[loadVar,(hT t i hi).kG,I,run_load,g]
 refine⟨v,by simp[aw,h,y,Instr.loadAt,bq,c],u,λz p=>?_⟩;have q:z∈(loadVar t ⟨b,off,af⟩).events P s.w #[]:=by
  have e:aw G o=(do pure (.value (<-loadVar t ⟨b,off,af⟩))):=by simp[aw,h,y,Instr.loadAt,bq]
  rw[e]at p;simpa[c]using p
 obtain⟨j,B,rfl⟩:=gu (hT t i hi) (n:=1) (λj B=>by grind) (by grind) z q
 exact j0 (bP r.β) r.mem
def bM.fG(hT:cW P m){t:aj}{x:aq}{i:TI}(h:o.op=.load t x)(hi:bG m t=aa i)(c:i.agg=ae)(hl:σ[l]?=aa (.cm (BB T E a v1 bf xs f)))(d:k x=.e (.one (.ptr l 1))):bM P o k σ (.e (.one (.v v1))) σ :=
 JH hT h hi c hl d λs L b ch hh r=>⟨v1,by simp,Rd.val r.cell⟩
def NZ{H:ah->(Nat->Option Obj)->Prop}(b:σ[l]?=aa (.cm H)):∀B,σ[l]?=aa B->B.gr=ae:=by intro B h;rw[b]at h;cases h;rfl
def bM.JI(hT:cW P m){t:aj}{x:aq}{i:TI}(h:o.op=.load t x)(hi:bG m t=aa i)(c:i.agg=ae)(hl:σ[l]?=aa (.cm (BB T E ab v1 bf xs f)))(d:k x=.e (.one (.ptr l 0))):bM P o k σ (.e (.one (.ptr l 0))) σ :=
 JH hT h hi c hl d λs L b ch hh r=>⟨L.v,by simp,NZ hl,L,b,r.β,r.v,r.v⟩
def bM.RL(hT:cW P m){t:aj}{x:aq}{i:TI}(h:o.op=.load t x)(hi:bG m t=aa i)(d:i.agg=ae)(hl:σ[l]?=aa (.cm (BB T E ae v1 bf xs f)))(g:k x=.e (.one (.ptr l 0))):bM P o k σ (.e (.one (.c .fz))) σ :=
 JH hT h hi d hl g λs L b ch hh r=>⟨.pointer af,by simp,Rd.fz⟩
def setRow_size(w:aA)(b:Nat)(row:Array ah):(w.setRow b row).heap.size=w.heap.size:=by simp[World.setRow]
def JJ(hT:cW P m){t:aj}{x y:aq}{i:TI}(h:o.op=.store t x y)(hi:bG m t=aa i)(K:i.size=1)(V:σ[l]?=aa (.cm (BB T E a v1 bf xs f))){off:Nat}{c:Bool}{d:ah}(hx:k x=.e (.one (.ptr l off)))(ho:off<2)(hc:cN d=ab)(hd:∀s L b ch v,aF σ s->wx P σ s l T E a v1 bf xs f L b ch->dt σ s v (k y)->cN v=ab/\(#[if a then L.v else .pointer af,v1]:Array ah).setIfInBounds off v=#[if c then L.v else .pointer af,d]):bM P o k σ .any (σ.set l (.cm (BB T E c d bf xs f))):=by
 intro s q Q hr;obtain⟨L,b,ch,r⟩:=BB.row (P:=P) Q V;have F:=r.ptr (by have:=hr x;rwa [hx]at this);obtain⟨I,J⟩:=hd s L b ch (q y) Q r (hr y);have u:(q y).cells=#[q y]:=by cases U:q y<;>simp[U,cN,Value.cells]at I⊢
 have A:∀v∈[q y],v.oneCell'=ab:=by intro v F;simp at F;subst F;cases U:q y<;>simp[U,cN,Value.oneCell']at I⊢
 have p:=r.heap _ _ r.ch;have H:=run_storeCells_at P b off T [q y] 0 _ s.w p (by grind) A;have C:((#[if a then L.v else .pointer af,v1]:Array ah).toList.take (off+0)++[q y]++(#[if a then L.v else .pointer af,v1]:Array ah).toList.drop (off+0+[q y].length)).toArray=#[if c then L.v else .pointer af,d]:=by
  rw[<-J]
  match off,ho with
  |0,_=>grind
  |1,_=>grind
 rw[C]at H;have Y:(s.w.setRow b #[if c then L.v else .pointer af,d]).heap[b]?=aa (.cells #[if c then L.v else .pointer af,d] T (0,0)):=setRow_heap s.w b _ _ T _ p;have B:∀g,g≠b->(s.w.setRow b #[if c then L.v else .pointer af,d]).heap[g]?=s.w.heap[g]?:=λg n=>setRow_other s.w b g _ n;obtain⟨W,Z⟩:=Q.jM (l:=l) (H':=BB T E c d bf xs f) (L':=L) (w':=s.w.setRow b #[if c then L.v else .pointer af,d]) V r.β rfl (by rw[setRow_size];grind)
  (λg n hn=>B g (by rintro rfl;exact hn r.mem)) (λg n=>.inl n)
  ⟨λg=>if g=b then aa (.cells #[if c then L.v else .pointer af,d] T (0,0))else ch g,by
   obtain⟨R,q1,q2,q3,q4⟩:=r.bb;have:R=b:=by rw[r.v]at q1;grind
   subst this;have S:∀g,(if g=R then aa (Obj.cells #[if c then L.v else .pointer af,d] T (0,0))else ch g).isSome=ab↔(ch g).isSome=ab:=by grind
   refine⟨R,q1,hc,by simp,?_⟩;grind,λg o' n=>by
   by_cases e:g=b
   .grind
   .simp only[e,ck]at n;rw[B g e];exact r.heap _ _ n,λg=>by
   rw[r.bs g];by_cases e:g=b
   .subst e;simp[r.ch]
   grind⟩ rfl rfl rfl
 have O:s.β.set l L=s.β:=by
  apply iY;intro j;by_cases e:l=j
  .subst e;rw[gn (b6.1 r.β).1,r.β]
  grind
 rw[O]at W Z;refine⟨.skip,{s with w:=s.w.setRow b #[if c then L.v else .pointer af,d]},?_,rfl,W,Z,?_⟩
 .simp[aw,h,F,Instr.storeAt,bq,storeVar,(hT t i hi).run_sizeOf,K,u,H]
 .intro ev z;have e:aw q o=(do storeVar t ⟨b,off,af⟩ (q y);pure .skip):=by simp[aw,h,F,Instr.storeAt,bq]
  rw[e]at z;have G:ev∈(storeCells ⟨b,off,af⟩ [q y]).events P s.w #[]:=by
   simp only[storeVar,aM,(hT t i hi).run_sizeOf,u,K,aP,events_sizeOf,dy,ft,ck,bT,b5,Sem.events_pure,List.size_toArray,ig]at z;generalize(storeCells ⟨b,off,af⟩ [q y]).run P s.w=r at z;cases r with
   |ok v w'=>simpa using z
   |halt x w'=>simpa using z
  rcases dN [q y] 0 _ s.w #[] p (by grind) A ev G with JK|⟨j,_,_,rfl⟩
  .grind
  .exact jX (bP r.β) r.mem (r.M _ r.mem _)
def bM.Ae(hT:cW P m){t:aj}{x y:aq}{i:TI}(h:o.op=.store t x y)(hi:bG m t=aa i)(d:i.size=1)(hl:σ[l]?=aa (.cm (BB T E a v1 bf xs f))){c:ah}(j:k x=.e (.one (.ptr l 1)))(n:k y=.e (.one (.v c)))(p:cN c=ab):bM P o k σ .any (σ.set l (.cm (BB T E a c bf xs f))) :=
 JJ hT h hi d hl j (by omega) p λs L b ch v hh r g=>by rw[n]at g;have:=Rd.en g;grind
def bM.N1(hT:cW P m){t:aj}{x y:aq}{i:TI}(h:o.op=.store t x y)(hi:bG m t=aa i)(c:i.size=1)(hl:σ[l]?=aa (.cm (BB T E a v1 bf xs f)))(g:k x=.e (.one (.ptr l 0)))(j:k y=.e (.one (.ptr l 0)))(n:cN v1=ab):bM P o k σ .any (σ.set l (.cm (BB T E ab v1 bf xs f))) :=
 JJ hT h hi c hl g (by omega) n λs L b ch v hh r d=>by rw[j]at d;have:=r.ptr d;subst this;refine⟨rfl,?_⟩;rw[<-r.v];rfl
def bM.RM{T:aj}(h:o.op=.alloc T)(j:∀w,(zeroValue T).run P w=.ok (.agg #[.pointer af,.slice af 0 0]) w)(g:∀w es,(zeroValue T).events P w es=es):bM P o k σ (.e (.one (.ptr σ.length 0))) (σ++[.cm (BB T E ae (.slice af 0 0) af [] 0)]):=by
 intro s z hh hr;let w':=s.w.alloc (.cells #[.pointer af,.slice af 0 0] T);obtain⟨r,x⟩:=hh.grow (M':=s.M) (w':=w') (by simp[w']) (λb q=>cR s.w _ q) (λ_ _ _=>rfl) (λb q o v i=>by have:=hh.block i;omega) rfl rfl rfl;have u:w'.heap.size=s.w.heap.size+1:=by simp[w']
 have p:w'.heap[s.w.heap.size]?=aa (.cells #[.pointer af,.slice af 0 0] T (0,0)):=dT s.w _;obtain⟨t,y⟩:=r.ik x rfl hh (B:=.cm (BB T E ae (.slice af 0 0) af [] 0)) (L:=⟨.pointer (aa ⟨s.w.heap.size,0,af⟩),[s.w.heap.size]⟩)
  ⟨λd=>if d=s.w.heap.size then aa (.cells #[.pointer af,.slice af 0 0] T (0,0))else af,⟨s.w.heap.size,rfl,rfl,by simp,rfl,λd=>by by_cases e:d=s.w.heap.size<;>simp[e]⟩,λd n c=>by
   grind,λd=>by by_cases e:d=s.w.heap.size<;>simp[e],λd c n=>by
   simp at c;subst c;show s.M _ _=af;cases i:s.M s.w.heap.size n with
   |none=>rfl
   |some v=>have:=hh.block i;omega⟩ (λd c=>by grind)
 refine⟨.value (.pointer (aa ⟨s.w.heap.size,0,af⟩)),_,?_,⟨by simp,⟨.pointer (aa ⟨s.w.heap.size,0,af⟩),[s.w.heap.size]⟩,s.w.heap.size,?_,rfl,rfl⟩,t,y,?_⟩
 .simp[aw,h,Instr.alloc,j,Go.newVar,newRow,Value.cells,w']
 .simp[<-hh.len]
 .simp[aw,h,Instr.alloc,j,g,Go.newVar,newRow];exact .nil
end
section
variable {P:ar}{X:Cx P}{N:Nat}{z:List (Nat×TI)}{o:au}{q:aq->D}{σ:List aR}{l:Nat}{T E:aj}{d:Bool}{v1:ah}{bf:Option (Nat×Nat)}{xs:List UInt8}{k:Nat}{s:St}
def pz{P:ar}{b o:Nat}{t:aj}{k:Nat×Nat}:∀(vs:List ah)(i:Nat)(a:Array ah)(w:aA)(es:Array Event),w.heap[b]?=aa (.cells a t k)->k.2<=o+i->o+i+vs.length<=a.size->(∀v∈vs,v.oneCell'=ab) ->
  ∀e∈(storeCells ⟨b,o,af⟩ vs i).events P w es,e∈es∨∃j,i<=j/\j<i+vs.length/\e=HP b (o+j)
 |[],_,_,_,_,_,_,_,_=>λe h=>.inl (by simpa[storeCells]using h)
 |v::rest,i,a,w,es,m,x,y,p=>λe h=>by
  have hi:o+i<a.size:=by grind
  have c:w.cell? ⟨b,o+i,af⟩=aa a[o+i]:=by simp[aV,m,hi]
  have f:w.frozen? ⟨b,o+i,af⟩=ae:=by obtain⟨lo,r⟩:=k;simp only[World.frozen?,m,qc,bS];grind
  have n:(store (⟨b,o+i,af⟩:Addr) v).run P w=.ok () (w.setRow b (a.setIfInBounds (o+i) v)):=by grind[run_store,setCell_eq_setRow]
  have g:(store (⟨b,o+i,af⟩:Addr) v).events P w es=es.push (HP b (o+i)):=by rw[events_store P w es _ v _ (p v (by simp)),c];simp only[f,jP,ck];rfl
  simp only[storeCells,aM,du,n,g,aP]at h;rcases pz rest (i+1) (a.setIfInBounds (o+i) v) _ _ (setRow_heap _ _ _ _ _ _ m) (by omega) (by grind) (λu F=>p u (by grind)) e h with C|⟨j,B,A,rfl⟩
  .grind
  grind
def wx.at{L:Loc}{b g cap:Nat}{ch:Nat->Option Obj}(r:wx P σ s l T E d v1 (aa (g,cap)) xs k L b ch):
  g≠b/\xs.length<=cap/\0<cap/\cap<=9223372036854775807/\k<=xs.length/\(∃a,(qZ xs++a).length=cap/\ch g=aa (.cells (qZ xs++a).toArray E (0,k)))/\(∀c,(ch c).isSome=ab↔c=b∨c=g)/\g∈L.bs:=by
 obtain⟨f,i,_,_,a1,a2,a3,a4,a5,a6,e⟩:=r.bb;have:f=b:=by rw[r.v]at i;grind
 subst this;obtain⟨a,a6,h⟩:=a6;exact⟨a1,a2,a3,a4,a5,⟨a,a6,h⟩,e,(r.bs g).2 (by grind)⟩
def JL{L:Loc}(h:s.β[l]?=aa L):s.β.set l L=s.β:=by apply iY;grind
def wx.jM{L:Loc}{b g cap:Nat}{ch:Nat->Option Obj}(hh:aF σ s)(hl:σ[l]?=aa (.cm (BB T E d v1 (aa (g,cap)) xs k)))(r:wx P σ s l T E d v1 (aa (g,cap)) xs k L b ch){xs':List UInt8}{fz':Nat}{zs':List ah}{w':aA}(f:(qZ xs'++zs').length=cap)(h:xs'.length<=cap)(j:fz'<=xs'.length)(t:w'.heap.size=s.w.heap.size)(hk:∀a,a≠g->w'.heap[a]?=s.w.heap[a]?)(C:w'.heap[g]?=aa (.cells (qZ xs'++zs').toArray E (0,fz')))(n:w'.os=s.w.os)(m:w'.tape=s.w.tape)(i:w'.output=s.w.output):
  aF (σ.set l (.cm (BB T E d v1 (aa (g,cap)) xs' fz'))) {s with w:=w'}/\Step σ s (σ.set l (.cm (BB T E d v1 (aa (g,cap)) xs' fz'))) {s with w:=w'}:=by
 obtain⟨a1,a2,a3,a4,a5,⟨y,a6,F⟩,A,x⟩:=r.at;obtain⟨p,u⟩:=hh.jM (l:=l) (H':=BB T E d v1 (aa (g,cap)) xs' fz') (L':=L) (w':=w') hl r.β rfl (by omega)
  (λa c G=>hk a (by grind)) (λa c=>.inl c)
  ⟨λa=>if a=g then aa (.cells (qZ xs'++zs').toArray E (0,fz'))else ch a,⟨b,r.v,r.cell,(show(if b=g then _ else ch b)=_ from(aY λe=>a1 e.symm).trans r.ch),a1,h,a3,a4,j,⟨zs',f,by simp⟩,λa=>by
   grind⟩,λa B c=>by
   by_cases e:a=g
   .grind
   .simp only[e,ck]at c;rw[hk a e];exact r.heap _ _ c,λa=>by
   rw[r.bs a]
   grind⟩ n m i
 rw[JL r.β]at p u;grind
def bM.N2{t O:aj}{x y:aq}(ho:o.op=.call {callee:=.builtin .append,args:=#[x,y],argTypes:=#[t,O]}){R:TypeInfo}(ht:P.underlying t=aa (.slice E))(G:P.underlying O=aa .string)(I:P.info? E=aa R)(A:R.size=1){g cap n:Nat}(hl:σ[l]?=aa (.cm (BB T E d v1 (aa (g,cap)) xs k)))(hx:q x=.e (.one (.v (py (aa (g,cap)) n))))(hn:xs.length=n){str:List UInt8}(hy:q y=.e (.one (.c (.str str))))(Yb:n+str.length<=cap):
  bM P o q σ (.e (.one (.v (py (aa (g,cap)) (n+str.length))))) (σ.set l (.cm (BB T E d v1 (aa (g,cap)) (xs++str) k))):=by
 intro s ρ hh hr;subst hn;obtain⟨L,b,ch,r⟩:=BB.row (P:=P) hh hl;obtain⟨a1,a2,a3,a4,a5,⟨a,a6,a7⟩,a8,u⟩:=r.at;have m:=hr x;rw[hx]at m;have m:=Rd.en m;have K:=hr y;rw[hy]at K;have K:=e9 K;generalize p:ρ y=vy at K;cases K with
 |@str sb _ Z acm =>
 have J:sb.size=str.length:=by rw[<-Z,jA];rfl
 have Q:=r.heap _ _ a7;have Y:(qZ xs++a).toArray.size=cap:=by grind
 have C:=Lib.run_append_room_stringF (P:=P) s.w t O o.type E R ht G I A g xs.length cap _ _ Q a5 sb (by omega) (by grind);have H:((qZ xs++a).toArray.toList.take xs.length++Lib.strCells sb++(qZ xs++a).toArray.toList.drop (xs.length+sb.size))=qZ (xs++str)++a.drop str.length:=by
  have e1:(qZ xs++a).take xs.length=qZ xs:=by grind[vN]
  have e2:(qZ xs++a).drop (xs.length+sb.size)=a.drop str.length:=by rw[List.drop_append,vN,vF (by grind),J];simp
  have e3:Lib.strCells sb=qZ str:=by simp[Lib.strCells,qZ,Z]
  rw[List.toList_toArray,e1,e2,e3,NY]
 rw[H,J]at C;have hlz:a.length=cap-xs.length:=by grind[vN]
 have f:(qZ (xs++str)++a.drop str.length).length=cap:=by grind[vN]
 have B:(s.w.setRow g (qZ (xs++str)++a.drop str.length).toArray).heap[g]?=aa (.cells (qZ (xs++str)++a.drop str.length).toArray E (0,k)):=setRow_heap s.w g _ _ E _ Q;obtain⟨t1,S⟩:=r.jM (fz':=k) (w':=s.w.setRow g (qZ (xs++str)++a.drop str.length).toArray) hh hl f (by grind) (by grind) (setRow_size _ _ _) (λb' W=>setRow_other s.w g b' _ W) B rfl rfl rfl;refine⟨.value (.slice (aa ⟨g,0,af⟩) (xs.length+str.length) cap),_,?_,Rd.val rfl,t1,S,?_⟩
 .rw[dn ho,m,p];simp only[bT,dx];have F:(Builtin.append_ #[t,O] o.type #[py (aa (g,cap)) xs.length,.string sb]).run P s.w=_:=C;rw[F];rfl
 .rw[dn ho,m,p];refine eU λe he=>?_;have hf:=Lib.run_firstCells_string (P:=P) s.w 1 sb;have V:=run_storeCells_atF P g xs.length E (0,k) (Lib.strCells sb) 0 _ s.w Q (by grind) (by grind) (Lib.strCells_oneCell sb);have i:xs.length+sb.size<=cap:=by omega
  have U:(Builtin.firstCells 1 sb.size (.string sb)).events P s.w #[]=#[]:=rfl;simp[py,Builtin.append_,run_underlying ht,run_underlying G,sizeOf,typeInfo,I,A,Builtin.lenOf,i,hf,U,du,V]at he;rcases pz (Lib.strCells sb) 0 _ s.w _ Q (by grind) (by grind) (Lib.strCells_oneCell sb) e he with h|⟨j,h1,h2,rfl⟩
  .grind
  .exact jX (bP r.β) u (r.M _ u _)
def bM.JM{t A:aj}{x y:aq}(r:o.op=.call {callee:=.builtin .append,args:=#[x,y],argTypes:=#[t,A]}){m:TypeInfo}(p:P.underlying t=aa (.slice E))(g:P.underlying A=aa .string)(h:P.info? E=aa m)(B:q x=.e (.one (.v (py af 0))))(F:q y=.e (.one (.c (.str [])))):bM P o q σ (.e (.one (.v (py af 0)))) σ:=by
 refine .quiet λs C hh hr=>?_;have b:=hr x;rw[B]at b;have b:=Rd.en b;have i:=hr y;rw[F]at i;have i:=e9 i;generalize f:C y=vy at i;cases i with
 |@str sb _ G u =>
 have a:sb.size=0:=by
  have:sb.data.toList.length=0:=by grind
  rw[jA]at this;exact this
 have n:=Lib.run_firstCells_string (P:=P) s.w m.size sb;rw[a]at n;have j:(Builtin.firstCells m.size 0 (.string sb)).events P s.w #[]=#[]:=rfl;refine⟨.slice af 0 0,?_,Rd.val rfl,?_⟩
 .rw[dn r,b,f];simp[py,Builtin.append_,run_underlying p,run_underlying g,sizeOf,typeInfo,h,Builtin.lenOf,a,n]
 .rw[dn r,b,f];simp[py,Builtin.append_,run_underlying p,run_underlying g,sizeOf,typeInfo,h,Builtin.lenOf,a,n,j]
def US{f:aJ}{fn:Func}{ps:Array aj}{t:aj}(ht:P.underlying t=aa (.slice E))(hf:P.funcs[f]?=aa fn)(C:(fn.name== "runtime.NumGoroutine")=ae)(hb:fn.body.isNone=ab)(hn:Extern.findNext fn=af)(M:Extern.find fn=aa (Extern.BytealgMakeNoZero.makeNoZero ps #[t])){K x:aq}{R:Array aj}(ho:o.op=.call {callee:=.value K,args:=#[x],argTypes:=R})(Y:q K=.e (.one (.c (.fn (.func f) [] [])))){n:Nat}(hx:q x=.e (.one (.c (.int .i64 n))))(h0:0<n)(acn:n<=140737488355328)(hl:σ[l]?=aa (.cm (BB T E d v1 af xs k))):
  ∀s A,aF σ s->(∀y,dt σ s (A y) (q y))->∃(j:{p:Nat×Nat // n<=p.2}) (s':St) (v:ah),(aw A o).run P s.w=.ok (.value v) s'.w/\dt (σ.set l (.cm (BB T E d v1 (aa j.1) [] 0))) s' v (.e (.one (.v (py (aa j.1) n)))) /\
   aF (σ.set l (.cm (BB T E d v1 (aa j.1) [] 0))) s'/\Step σ s (σ.set l (.cm (BB T E d v1 (aa j.1) [] 0))) s'/\fg s ((aw A o).events P s.w #[]):=by
 intro s A S hr;obtain⟨L,b,ch,r⟩:=BB.row (P:=P) S hl;have I:A K=.func (.func f) #[] #[]:=by
  have g:=hr K;rw[Y]at g;have g:=e9 g;generalize A K=v at g;cases g with
  |fn fs cs a b f1 f2 c1 c2 d1 d2 =>
   grind
 have H:A x=.int .i64 n:=by have g:=hr x;rw[hx]at g;have g:=e9 g;generalize A x=v at g;cases g;rfl
 obtain⟨cs,g,h2,Z⟩:=Lib.run_makeNoZero (P:=P) s.w ps t E ht n (by omega);have Z:=Z (by simp only[maxLen];omega);have F:(callFunc f #[.int .i64 n]).run P s.w=.ok (.value (.slice (aa ⟨s.w.heap.size,0,af⟩) n cs.size)) (s.w.drew.drew.alloc (.cells cs E)):=by rw[run_callFunc_extern hf C hb hn M,g];rfl
 let w':aA:=s.w.drew.drew.alloc (.cells cs E);have N3:w'.heap[s.w.heap.size]?=aa (.cells cs E (0,0)):=dT s.w.drew.drew _;have B5:w'.heap.size=s.w.heap.size+1:=by show(s.w.drew.drew.heap.push _).size=_;simp
 obtain⟨B,q1,q2,q3,q4⟩:=r.bb;have W:B=b:=by rw[r.v]at q1;grind
 subst W;have J:B<s.w.heap.size:=S.lt L (bP r.β) B r.mem;have O:s.w.heap.size≠B:=by omega
 obtain⟨t1,t2⟩:=S.jM (l:=l) (H':=BB T E d v1 (aa (s.w.heap.size,cs.size)) [] 0) (L':=⟨L.v,[B,s.w.heap.size]⟩) (w':=w') hl r.β rfl (by omega)
  (λu i hn=>cR s.w.drew.drew _ i) (λu i=>by
   simp at i;rcases i with rfl|rfl
   .exact .inl r.mem
   grind)
  ⟨λu=>if u=B then aa (.cells #[if d then L.v else .pointer af,v1] T (0,0))else if u=s.w.heap.size then aa (.cells cs E (0,0))else af,⟨B,r.v,r.cell,by simp,O,by simp,by omega,by simp only[maxLen]at Z;omega,by simp,⟨cs.toList,by simp[qZ],by simp[O,qZ]⟩,λu=>by
   grind⟩,λu o' i=>by
   by_cases e:u=B
   .subst e;simp only[cq]at i;have:w'.heap[u]?=s.w.heap[u]?:=cR s.w.drew.drew _ J;rw[this,<-i];exact r.heap _ _ r.ch
   grind,λu=>by grind⟩ rfl rfl rfl
 refine⟨⟨(s.w.heap.size,cs.size),h2⟩,_,_,?_,Rd.val rfl,t1,t2,?_⟩
 .simp[aw,ho,resolve,Deferred.ofValue,invoke,I,H,F,w',py]
 .intro ev U;simp only[aw,ho,resolve,Deferred.ofValue,invoke,I,H]at U;have G:ev∈(callFunc f #[.int .i64 n]).events P s.w #[]:=by grind
  have Q:fn.name≠ "runtime.NumGoroutine":=by grind
  have V:fn.body=af:=by simpa using hb
  have key:∀es:Array Event,∀e∈(Extern.BytealgMakeNoZero.makeNoZero ps #[t] #[.int .i64 n]).events P s.w es,e∈es∨∃m,e=⟨.mark m,ae,ab⟩/\Go.Conc.Neutral m:=by
   intro es e M;change e∈Sem.events P (underlying _ >>= _) _ _ at M;have g:¬(n:Int)<0:=by omega
   have h2:¬(281474976710656:Int)<(n:Int):=by omega
   have Xv:e∈(askRoom (grownCap s.w n 0 E)).events P s.w.drew es:=by simpa[run_underlying ht,g,h2,Question.forced,newRow,grownCap]using M
   grind[Go.Conc.events_askRoom]
  have:ev∈(Extern.BytealgMakeNoZero.makeNoZero ps #[t] #[.int .i64 n]).events P s.w ((#[]:Array Event).push ⟨.mark (.extern f),ae,ab⟩):=by have e:callFunc f #[.int .i64 n]=callFunc f #[.int .i64 n]:=rfl;simpa[callFunc,hf,Q,V,hn,M,g]using G
  rcases key _ _ this with h|⟨m,rfl,hm⟩
  .simp at h;subst h;exact .inr ⟨f,rfl⟩
  .exact .inl hm
def UT{C O:aj}{x y:aq}(ho:o.op=.call {callee:=.builtin .unsafeString,args:=#[x,y],argTypes:=#[C,O]})(hp:P.underlying C=aa (.pointer E))(J:P.cellsOf E=1){g cap:Nat}(Y:σ[l]?=aa (.cm (BB T E d v1 (aa (g,cap)) xs k)))(hx:q x=.e (.one (.v (.pointer (aa ⟨g,0,af⟩)))))(hy:q y=.e (.one (.c (.int .i64 xs.length)))):
  bM P o q σ (.e (.one (.c (.str xs)))) (σ.set l (.cm (BB T E d v1 (aa (g,cap)) xs xs.length))):=by
 intro s H Z hr;obtain⟨L,b,ch,r⟩:=BB.row (P:=P) Z Y;obtain⟨a1,a2,a3,a4,a5,⟨Q,a6,a7⟩,a8,V⟩:=r.at;have u:=hr x;rw[hx]at u;have u:=Rd.en u;have p:H y=.int .i64 xs.length:=by have K:=hr y;rw[hy]at K;have K:=e9 K;generalize H y=v at K;cases K;rfl
 have hg:=r.heap _ _ a7;have t:aw H o=(do pure (.value (<-Builtin.unsafeString_ #[C,O] o.type #[H x,H y]))):=by simp[aw,ho,resolve,invoke,builtin]
 have hlen:(qZ xs++Q).toArray.size=cap:=by grind
 by_cases h0:xs=[]
 .subst h0;have m:=Lib.run_unsafeString_none (P:=P) s.w C O o.type (aa ⟨g,0,af⟩);obtain⟨t1,t2⟩:=r.jM (xs':=[]) (fz':=0) (zs':=Q) (w':=s.w) Z Y a6 a2 (by simp) rfl (λ_ _=>rfl) (by grind) rfl rfl rfl;refine⟨.value (.string .empty),_,?_,Rd.str rfl (by simp),t1,t2,?_⟩
  .rw[t,u,p];simp only[bT,dx];have:(Builtin.unsafeString_ #[C,O] o.type #[.pointer (aa ⟨g,0,af⟩),.int .i64 ([]:List UInt8).length]).run P s.w=_:=m;rw[this];rfl
  .rw[t,u,p];refine eU ?_;change fg s (Sem.events P (asInt (.int .i64 0) >>= _) _ _);simp[asInt,asIntOf,IntKind.max];exact .nil
 .have i:∀j x,xs[j]?=aa x->s.w.cell? ((⟨g,0,af⟩:Addr).add j)=aa (.int .u8 x.toNat):=by
   intro j x R;rw[du];simp only[aV,hg,bF];have tN:j<xs.length:=(b6.1 R).1;have:(qZ xs)[j]?=aa (.int .u8 x.toNat):=by simp[qZ,R]
   grind
  have A:s.w.shape? g=aa (E,cap):=by simp only[World.shape?,hg];grind
  have m:=Lib.run_unsafeString_row (P:=P) s.w C O o.type E hp J g cap A xs h0 a2 (by omega) i;have f:xs.length≠0:=by grind
  have hfz:(s.w.freeze ⟨g,0,af⟩ xs.length).heap[g]?=aa (.cells (qZ xs++Q).toArray E (0,xs.length)):=by simp only[World.freeze,f,ck,Array.getElem?_modify,cq,hg,lS];grind
  obtain⟨t1,t2⟩:=r.jM (xs':=xs) (fz':=xs.length) (zs':=Q) (w':=s.w.freeze ⟨g,0,af⟩ xs.length) Z Y a6 a2 (bc _) (by simp[World.freeze,f]) (λb' B8=>by
   simp only[World.freeze,f,ck,Array.getElem?_modify]
   grind) hfz (by simp[World.freeze,f]) (by simp[World.freeze,f]) (by simp[World.freeze,f])
  refine⟨.value (.string ⟨xs.toArray⟩),_,?_,Rd.str (by simp) (by omega),t1,t2,?_⟩
  .rw[t,u,p];simp only[bT,dx,m];rfl
  .rw[t,u,p];refine eU λe B=>?_;have M:¬(xs.length:Int)<0:=by omega
   have S:¬(9223372036854775807:Int)<(xs.length:Int):=by omega
   have n:=Lib.liesAt_bytes (P:=P) J (cap / P.cellsOf E) xs.length (by grind);have F:IntKind.i64.max=9223372036854775807:=rfl;have hlb:=Lib.run_loadBytes (P:=P) s.w xs ⟨g,0,af⟩ .empty i;have JE:∀(I:List UInt8) (a:Nat) (acc:ByteArray) (es:Array Event),(∀j x,I[j]?=aa x->s.w.cell? ⟨g,a+j,af⟩=aa (.int .u8 x.toNat))->∀e∈(loadBytes ⟨g,a,af⟩ acc I.length).events P s.w es,e∈es∨∃j,e=Ac g j:=by
    intro I;induction I with
    |nil=>intro a acc es _ e B;exact .inl (by simpa[loadBytes]using B)
    |cons y I ih =>
     intro a acc es J e B;have G:=J 0 y rfl;simp only[iE]at G;have hl0:(load ⟨g,a,af⟩).run P s.w=.ok (.int .u8 y.toNat) s.w:=by grind[run_load]
     simp only[fb,loadBytes,aM,hl0,aP,Af G,du]at B;rcases ih (a+1) _ _ (λj x R=>by have:=J (j+1) x (by grind);grind) e B with h|h
     .grind
     grind
   have hva:(variablesAt ⟨g,0,af⟩ E xs.length).run P s.w=.ok ab s.w:=by simp[variablesAt,A,n]
   have W:∀es,(variablesAt ⟨g,0,af⟩ E xs.length).events P s.w es=es:=λes=>by simp[variablesAt,A,n]
   have U:e∈(loadBytes ⟨g,0,af⟩ .empty xs.length).events P s.w #[]:=by change e∈Sem.events P (asInt (.int .i64 (xs.length:Int)) >>= _) _ _ at B;simpa[asInt,asIntOf,F,M,S,f,elemOf,run_underlying hp,hva,W,hlb]using B
   rcases JE xs 0 .empty #[] (λj x R=>by grind[du]) e U with h|⟨j,rfl⟩
   .grind
   .exact j0 (bP r.β) V
end
section
variable {P:ar}{X:Cx P}{N:Nat}{q:List (Nat×TI)}{o:au}{g:aq->D}{σ:List aR}{l:Nat}{T E:aj}{i:Bool}{v1:ah}{bf:Option (Nat×Nat)}{xs:List UInt8}{p:Nat}{s:St}
def bM.exact{x:aq}{v r:ah}{d:D}(c:g x=.e (.one (.v v)))(h:∀(a:aq->ah) w,a x=v->(aw a o).run P w=.ok (.value r) w/\(aw a o).events P w #[]=#[])(f:∀σ s,dt σ s r d):bM P o g σ d σ:=by refine .quiet λs a hh hr=>?_;have b:=hr x;rw[c]at b;have b:=Rd.en b;obtain⟨h1,h2⟩:=h a s.w b;grind
def bM.vj{x:aq}{b:Array aj}{t E:aj}(h:o.op=.call {callee:=.builtin .len,args:=#[x],argTypes:=b})(j:b[0]?=aa t)(k:P.underlying t=aa (.slice E)){a:Option Addr}{n c:Nat}(f:g x=.e (.one (.v (.slice a n c))))(r:n<=9223372036854775807):bM P o g σ (.e (.one (.c (.int .i64 n)))) σ :=
 .exact f (λm w d=>by constructor<;>simp[aw,h,resolve,invoke,builtin,Builtin.len_,d,run_underlying k,goInt,j]) (λ_ _=>Rd.int (by simp only[bD];omega))
def bM.N4{x:aq}{b:Array aj}{t E:aj}(h:o.op=.call {callee:=.builtin .cap,args:=#[x],argTypes:=b})(j:b[0]?=aa t)(k:P.underlying t=aa (.slice E)){a:Option Addr}{n c:Nat}(f:g x=.e (.one (.v (.slice a n c))))(r:c<=9223372036854775807):bM P o g σ (.e (.one (.c (.int .i64 c)))) σ :=
 .exact f (λm w d=>by constructor<;>simp[aw,h,resolve,invoke,builtin,Builtin.cap_,d,run_underlying k,goInt,j]) (λ_ _=>Rd.int (by simp only[bD];omega))
def bM.UU{x:aq}{a:Array aj}(h:o.op=.call {callee:=.builtin .unsafeSliceData,args:=#[x],argTypes:=a}){n c:Nat}(d:g x=.e (.one (.v (.slice af n c)))):bM P o g σ (.e (.one (.v (.pointer af)))) σ :=
 .exact d (λf w b=>by
  have e:Builtin.unsafeSliceData_ a o.type #[.slice af n c]=pure (.pointer af):=rfl
  constructor<;>simp[aw,h,resolve,invoke,builtin,b,e]) (λ_ _=>Rd.val rfl)
def bM.UW{x:aq}{b:Array aj}(h:o.op=.call {callee:=.builtin .unsafeSliceData,args:=#[x],argTypes:=b}){a:Addr}{n c:Nat}(f:g x=.e (.one (.v (.slice (aa a) n c))))(j:c≠0):bM P o g σ (.e (.one (.v (.pointer (aa a))))) σ :=
 .exact f (λk w d=>by
  obtain⟨m,rfl⟩:=Nat.exists_eq_succ_of_ne_zero j;have e:Builtin.unsafeSliceData_ b o.type #[.slice (aa a) n (m+1)]=pure (.pointer (aa a)):=rfl
  constructor<;>simp[aw,h,resolve,invoke,builtin,d,e]) (λ_ _=>Rd.val rfl)
def bM.UX{t E:aj}{x y:aq}(h:o.op=.slice t x af (aa y) af)(A:P.underlying t=aa (.slice E)){F:TypeInfo}(hi:P.info? E=aa F){a:Addr}{n c k:Nat}(C:g x=.e (.one (.v (.slice (aa a) n c))))(H:g y=.e (.one (.c (.int .i64 k))))(hk:k<=n)(B:n<=c)(z:c≠0)(G:a.add 0=a):bM P o g σ (.e (.one (.v (.slice (aa a) k c)))) σ:=by
 refine .quiet λs u hh hr=>?_;have b:=hr x;rw[C]at b;have b:=Rd.en b;have d:u y=.int .i64 k:=by have h1:=hr y;rw[H]at h1;have h1:=e9 h1;generalize u y=v at h1;cases h1;rfl
 have hl:((af:Option ah)=af/\(af:Option Int)=af)∨∃k j,(af:Option ah)=aa (.int k j)/\(af:Option Int)=aa j:=.inl ⟨rfl,rfl⟩;have hh:(aa (Value.int .i64 k)=af/\(aa (k:Int))=af)∨∃k' j,aa (Value.int .i64 k)=aa (.int k' j)/\(aa (k:Int))=aa j:=.inr ⟨_,_,rfl,rfl⟩;have r:az (fY n af (aa (k:Int))):=by simp[fY,hk]
 obtain⟨m,_,_⟩:=md (P:=P) (isS:=ab) B hl hh r s.w;have f:=nI (P:=P) (isS:=ab) B hl hh r s.w;simp only[dj,cf]at m;refine⟨.slice (aa a) k c,?_,Rd.val rfl,?_⟩
 .simp[aw,h,b,d,Instr.sliceAt,run_underlying A,Instr.slice,m,sizeOf,typeInfo,hi,z,G]
 .simp[aw,h,b,d,Instr.sliceAt,run_underlying A,Instr.slice,m,f,sizeOf,typeInfo,hi,z]
def bM.copyV{t E m:aj}{x y:aq}(h:o.op=.call {callee:=.builtin .copy,args:=#[x,y],argTypes:=#[t,m]})(k:P.underlying t=aa (.slice E)){j:TypeInfo}(hi:P.info? E=aa j){a:Addr}{c:Nat}(f:g x=.e (.one (.v (.slice (aa a) 0 c))))(n:g y=.e (.one (.v (.slice af 0 0)))):bM P o g σ (.e (.one (.c (.int .i64 0)))) σ:=by
 refine .quiet λs r hh hr=>?_;have b:=hr x;rw[f]at b;have b:=Rd.en b;have d:=hr y;rw[n]at d;have d:=Rd.en d;refine⟨.int .i64 0,?_,Rd.int (by simp[bD]),?_⟩<;>
 simp[aw,h,resolve,invoke,builtin,Builtin.copy_,b,d,run_underlying k,sizeOf,typeInfo,hi,Builtin.lenOf,Builtin.firstCells,storeCells,goInt]
def bM.UY{j k:aj}{x y:aq}(n:o.op=.call {callee:=.builtin .unsafeString,args:=#[x,y],argTypes:=#[j,k]})(m:g x=.e (.one (.v (.pointer af))))(r:g y=.e (.one (.c (.int .i64 ((0:Nat):Int))))):bM P o g σ (.e (.one (.c (.str [])))) σ:=by
 refine .oz λs b hh hr=>?_;have a:=hr x;rw[m]at a;have a:=Rd.en a;have d:b y=.int .i64 0:=by have h1:=hr y;rw[r]at h1;have h1:=e9 h1;generalize b y=v at h1;cases h1;rfl
 have h:aw b o=(do pure (.value (<-Builtin.unsafeString_ #[j,k] o.type #[b x,b y]))):=by simp[aw,n,resolve,invoke,builtin]
 have f:=Lib.run_unsafeString_none (P:=P) s.w j k o.type af;refine⟨.string .empty,?_,Rd.str rfl (by simp),?_⟩
 .rw[h,a,d];simp only[bT,dx,f];rfl
 .rw[h,a,d];refine eU ?_;change fg s (Sem.events P (asInt (.int .i64 0) >>= _) _ _);simp[asInt,asIntOf,IntKind.max];exact .nil
def bM.bTo(m:σ[l]?=aa (.cm (BB T E i v1 bf xs p))){d dst:aj}{x:aq}(h:o.op=.convert d dst x)(n:P.underlying d=aa (.pointer T))(u:P.underlying dst=aa .unsafePointer){j:TypeInfo}(hj:P.info? T=aa j)(k:j.size≠0)(v:g x=.e (.one (.ptr l 0))):bM P o g σ (.e (.one (.ptr l 0))) σ:=by
 refine .quiet λs y hh hr=>?_;obtain⟨L,b,ch,r⟩:=BB.row (P:=P) hh m;have c:=hr x;rw[v]at c;have t:=r.ptr c;have f:s.w.shape? b=aa (T,2):=by simp[World.shape?,r.heap _ _ r.ch]
 have a:=Lib.run_to_unsafe (P:=P) s.w ⟨b,0,af⟩ n u hj k f (by simp);refine⟨y x,by simp[aw,h,t,a],c,?_⟩;have:(convert d dst (.pointer (aa ⟨b,0,af⟩))).events P s.w #[]=#[]:=by simp[convert,run_underlying n,run_underlying u,Conv.unsafePointer,Conv.seenAt,viewAt,cellsIn,f,sizeOf,typeInfo,hj,k]
 simp[aw,h,t,a,this]
def bM.UZ(m:σ[l]?=aa (.cm (BB T E i v1 bf xs p))){f dst:aj}{x:aq}(h:o.op=.convert f dst x)(t:P.underlying f=aa .unsafePointer)(v:P.underlying dst=aa (.pointer T)){j:TypeInfo}(hj:P.info? T=aa j)(n:j.size≠0)(a:liesAt P P.depth T (2 / P.cellsOf T) 0 T 1=ab)(y:g x=.e (.one (.ptr l 0))):bM P o g σ (.e (.one (.ptr l 0))) σ:=by
 refine .quiet λs z hh hr=>?_;obtain⟨L,b,ch,r⟩:=BB.row (P:=P) hh m;have d:=hr x;rw[y]at d;have u:=r.ptr d;have k:s.w.shape? b=aa (T,2):=by simp[World.shape?,r.heap _ _ r.ch]
 have c:=Lib.run_from_unsafe (P:=P) s.w ⟨b,0,af⟩ t v hj k a;refine⟨z x,by simp[aw,h,u,c],d,?_⟩;have:(convert f dst (.pointer (aa ⟨b,0,af⟩))).events P s.w #[]=#[]:=by simp[convert,run_underlying t,run_underlying v,Conv.unsafePointer,Conv.seenAt,viewAt,variablesAt,k,sizeOf,typeInfo,hj,n,a]
 simp[aw,h,u,c,this]
def bM.U0{f:aJ}{fn:Func}(z:P.funcs[f]?=aa fn)(j:(fn.name== "runtime.NumGoroutine")=ae)(C:fn.body.isNone=ab)(B:Extern.findNext fn=af)(F:Extern.find fn=aa Extern.AbiNoEscape.same){n x:aq}{t:Array aj}(A:o.op=.call {callee:=.value n,args:=#[x],argTypes:=t})(y:g n=.e (.one (.c (.fn (.func f) [] [])))){d:D}(H:g x=d):bM P o g σ d σ:=by
 refine .oz λs m hh hr=>?_;have r:m n=.func (.func f) #[] #[]:=by
  have h1:=hr n;rw[y]at h1;have h1:=e9 h1;generalize m n=v at h1;cases h1 with
  |fn fs cs a b J G c1 c2 d1 d2 =>
   grind
 have k:(callFunc f #[m x]).run P s.w=.ok (.value (m x)) s.w:=by rw[run_callFunc_extern z j C B F];rfl
 have u:=me (P:=P) z j C B F #[m x] (λ_ _=>rfl) s.w #[];refine⟨m x,?_,by grind,λI h=>?_⟩
 .simp[aw,A,resolve,Deferred.ofValue,invoke,r,k]
 .simp[aw,A,resolve,Deferred.ofValue,invoke,r,u]at h;subst h;exact .inr ⟨_,rfl⟩
end
end Go.AM
