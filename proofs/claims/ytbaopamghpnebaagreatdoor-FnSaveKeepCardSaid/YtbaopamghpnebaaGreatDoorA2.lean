/- Part 2. No condition. -/
import Derived.Test.YtbaopamghpnebaaGreatDoorA1
import Derived.MapKept
import Derived.Maps.RangeRun
import Derived.Laws.MakeOwn
import Derived.Lib.SliceRun
import Derived.Test.YtbaopamghpnebaaGreatDoorProg
import Derived.Lib.FrozenHead
import Derived.Lib.UnsafeStr
import Derived.Lib.MakeNoZero
import Derived.Laws.Externs
import Derived.Lib.Builder
set_option linter.all false
set_option maxHeartbeats 8000000
open Go.Proofs
open Go.Conc (G)
open Go renaming Value → ah, Program → aq, TypeId → aj, Oper → au, Operand → ak, undef → ai, execOp → aw, World → aA, Goroutine → av, stepG → aH, Frame → aR, FuncId → aJ
open Option renaming some → aa, none → ae
open Bool renaming true → ab, false → af
open Go.World renaming cell? → aV
open List renaming getD_eq_getElem?_getD → ar, range → bg
open Go.Sem renaming events_bind → aM
open Go.Result renaming evThen_ok → aO
open Go.Region renaming wanted → bd, ready → a9
open Go.Instr renaming sureAddr → bq
open Nat renaming beq → aB, ble → bu
open Go.Op renaming equalIn → aY
open Go.Proofs.Tryz renaming prog → ag
namespace Go.AM
section force
variable {p:Type}
def wm:C->(C->Option p)->Option p
 |.int k n,q=>q (.int k n)
 |.bool b,q=>q (.bool b)
 |.str s,q=>q (.str s)
 |.sl ab k n es,q=>q (.sl ab k n es)
 |.sl af k n es,q=>q (.sl af k n es)
 |.rp cs,q=>du cs λcs=>q (.rp cs)
 |.FJ t cs,q=>du cs λcs=>q (.FJ t cs)
 |.fn f a b,q=>du a λa=>du b λb=>q (.fn f a b)
 |c,q=>q c
def Hf(c:C)(q:C->Option p):wm c q=q c:=by
 cases c with
 |sl t=>cases t<;>rfl
 |rp cs=>simp[wm,cY]
 |FJ t cs=>simp[wm,cY]
 |fn f a b=>simp[wm,cY]
 |_=>rfl
def wo:A->(A->Option p)->Option p
 |.c x,q=>wm x λx=>q (.c x)
 |.ptr l o,q=>q (.ptr l o)
 |.vec l k n es,q=>q (.vec l k n es)
 |.ref l,q=>q (.ref l)
 |.bp l (.sl g k o n),q=>q (.bp l (.sl g k o n))
 |.bp l (.el g k i f),q=>q (.bp l (.el g k i f))
 |.any,q=>q .any
def yr(a:A)(q:A->Option p):wo a q=q a:=by
 cases a with
 |bp l w=>cases w<;>simp[wo]
 |_=>simp[wo,Hf]
def vj:List A->(List A->Option p)->Option p
 |[],q=>q []
 |a::r,q=>wo a λa=>vj r λr=>q (a::r)
def DR(l:List A)(q:List A->Option p):vj l q=q l:=by
 induction l generalizing q with
 |nil=>rfl
 |cons a r b=>simp[vj,yr,b]
def zQ:E1->(E1->Option p)->Option p
 |.one a,q=>wo a λa=>q (.one a)
 |.agg cs,q=>vj cs λcs=>q (.agg cs)
def yt(a:E1)(q:E1->Option p):zQ a q=q a:=by cases a<;>simp[zQ,yr,DR]
def vk:List E1->(List E1->Option p)->Option p
 |[],q=>q []
 |a::r,q=>zQ a λa=>vk r λr=>q (a::r)
def DS(l:List E1)(q:List E1->Option p):vk l q=q l:=by
 induction l generalizing q with
 |nil=>rfl
 |cons a r b=>simp[vk,yt,b]
def oq:D->(D->Option p)->Option p
 |.e x,q=>zQ x λx=>q (.e x)
 |.eX xs,q=>vk xs λxs=>q (.eX xs)
 |.any,q=>q .any
theorem nq(a:D)(q:D->Option p):oq a q=q a:=by cases a<;>simp[oq,yt,DS]
end force
def x7:D->Option (Bool×Nat×Nat×(Nat->List C))
 |.e (.one (.c (.sl t k n es)))=>aa (t,k,n,es)
 |.e (.one (.vec _ k n es))=>aa (af,k,n,es)
 |_=>ae
theorem mz{d:D}{t:Bool}{k n:Nat}{es:Nat->List C}(h:x7 d=aa (t,k,n,es))(σ:List aP)(s:St)(v:ah)(r:dj σ s v d):Rd s.M v (.sl t k n es):=by
 unfold x7 at h;split at h
 .cases h;exact r
 .cases h;exact r.1
 grind
def iR(l:List UInt8)(j:Int):UInt8:=l.getD j.toNat 0
def Rb(T:List (Nat×TI))(t:aj)(d:D):Option D :=
 match bD T t with
 |none=>ae
 |some i=>match i.desc with
  |.slice _=>match x7 d with
   |some (_,_,n,_)=>aa (.e (.one (.c (.int .i64 n))))
   |none=>ae
  |.string=>match d with
   |.e (.one (.c (.str s)))=>aa (.e (.one (.c (.int .i64 s.length))))
   |_=>ae
  |_=>ae
def Jw(T:List (Nat×TI))(a b:aj)(d:D):Option (D×List Prop) :=
 match bD T a with
 |none=>ae
 |some i1=>match bD T b with
  |none=>ae
  |some i2=>match i2.desc with
   |.int k'=>match d with
    |.e (.one (.c (.int _ j)))=>aa (.e (.one (.c (.int k' j))),[bA k' j])
    |_=>ae
   |.string=>match d with
    |.e (.one (.c (.str s)))=>aa (.e (.one (.c (.str s))),[])
    |d=>match i1.desc with
     |.slice E=>match bD T E with
      |some ie=>match ie.desc with
       |.int .u8=>match x7 d with
        |some (_,k,n,es)=>match aB k 1 with
         |true=>match wq es 0 n with
          |some r=>aa (.e (.one (.c (.str r))),[])
          |none=>ae
         |false=>ae
        |none=>ae
       |_=>ae
      |none=>ae
     |_=>ae
   |_=>ae
def DT(T:List (Nat×TI))(a:ak->D)(t:aj)(x:ak)(lo hi:Option ak):Option (D×List Prop) :=
 match bD T t with
 |none=>ae
 |some i=>match qX a lo with
  |none=>ae
  |some l=>match qX a hi with
   |none=>ae
   |some u=>match i.desc with
    |.string=>match a x with
     |.e (.one (.c (.str s)))=>aa (.e (.one (.c (.str (r7 s l u)))),fM s.length l u)
     |_=>ae
    |.slice E=>match bD T E with
     |none=>ae
     |some ie=>match x7 (a x)with
      |some (tt,k,n,es)=>match aB k ie.size with
       |true=>aa (.e (.one (.c (.sl (Rc tt u) ie.size (c9 n u-c9 0 l) (lZ (c9 0 l) es)))),fM n l u)
       |false=>ae
      |none=>ae
    |_=>ae
def yu(op:BinOp)(k:IntKind)(a:Int)(k':IntKind)(b:Int):Option (D×List Prop) :=
 match Bp op k a k' b with
 |some (c,obs)=>aa (.e (.one (.c (.int k c))),obs)
 |none=>ae
theorem r8{op:BinOp}{k k':IntKind}{a b:Int}{d:D}{obs:List Prop}(h:yu op k a k' b=aa (d,obs)):∃c,d=.e (.one (.c (.int k c)))/\Bp op k a k' b=aa (c,obs):=by unfold yu at h;grind
def PU(T:List (Nat×TI))(op:BinOp)(t:aj)(x y:D):Option (D×List Prop) :=
 match x,y with
 |.e (.one (.c (.bool a))),.e (.one (.c (.bool b)))=>match bD T t with
  |some i=>match i.desc with
   |.bool=>match ja op (a==b)with
    |some c=>aa (.e (.one (.c (.bool c))),[])
    |none=>ae
   |_=>ae
  |none=>ae
 |.e (.one (.c a)),.e (.one (.c b))=>match op with
  |.xor=>match a,b with
   |.int .i64 a,.int .i64 b=>aa (.e (.one (.c (.int .i64 ((a.toNat ^^^ b.toNat:Nat):Int)))),[0<=a,0<=b])
   |.int .u64 a,.int k' b=>yu .xor .u64 a k' b
   |_,_=>ae
  |.shl=>match a,b with
   |.int k a,.int k' b=>yu .shl k a k' b
   |_,_=>ae
  |.shr=>match a,b with
   |.int k a,.int k' b=>yu .shr k a k' b
   |_,_=>ae
  |.and=>match a,b with
   |.int k a,.int k' b=>yu .and k a k' b
   |_,_=>ae
  |_=>match NA op a b with
   |some (c,obs)=>aa (.e (.one (.c c)),obs)
   |none=>ae
 |.e (.agg cs),.e (.agg es)=>match bD T t with
  |some i=>match i.eq with
   |[]=>ae
   |d::ds=>match PV (d::ds) cs es with
    |some b=>match ja op b with
     |some c=>aa (.e (.one (.c (.bool c))),[])
     |none=>ae
    |none=>ae
  |none=>ae
 |_,_=>ae
def W7(T:List (Nat×TI))(CT:List (Nat×dr))(φ:Fr)(o:au):Option (D×List Prop) :=
 match o.op with
 |.move x|.assign x=>aa (bM φ x,[])
 |.index t x y=>match bD T t with
  |some i=>match i.desc with
   |.string=>match bM φ x,bM φ y with
    |.e (.one (.c (.str l))),.e (.one (.c (.int _ j)))=>aa (.e (.one (.c (.int .u8 (iR l j).toNat))),[0<=j,j<l.length])
    |_,_=>ae
   |_=>ae
  |none=>ae
 |.indexAddr t x y=>match bD T t with
  |some i=>match i.desc with
   |.slice E=>match bD T E with
    |some ie=>match x7 (bM φ x),bM φ y with
     |some (_,k,n,es),.e (.one (.c (.int _ j)))=>match aB k ie.size with
      |true=>aa (.e (.one (.c (.rp (es j.toNat)))),[0<=j,j<n])
      |false=>ae
     |_,_=>ae
    |none=>ae
   |_=>ae
  |none=>ae
 |.slice t x lo hi ae=>DT T (bM φ) t x lo hi
 |.convert src dst x=>Jw T src dst (bM φ x)
 |.call c=>match c.callee with
  |.builtin .len=>match c.args.toList,c.argTypes[0]? with
   |[x],aa t=>match Rb T t (bM φ x)with
    |some d=>aa (d,[])
    |none=>ae
   |_,_=>ae
  |.value fo=>BG CT φ fo c.args.toList
  |_=>ae
 |.pick c a b=>match bM φ c with
  |.e (.one (.c (.bool ab)))=>aa (bM φ a,[])
  |.e (.one (.c (.bool af)))=>aa (bM φ b,[])
  |_=>ae
 |.binOp op t x y _=>PU T op t (bM φ x) (bM φ y)
 |.unOp op _ x=>match bM φ x with
  |.e (.one (.c a))=>match W9 op a with
   |some c=>aa (.e (.one (.c c)),[])
   |none=>ae
  |_=>ae
 |.extract x j=>match bM φ x with
  |.eX xs=>match dt j xs with
   |some e=>aa (.e e,[])
   |none=>ae
  |_=>ae
 |.fieldAddr t x f=>match jL T t f with
  |some (k,_)=>match bM φ x with
   |.e (.one (.ptr l off))=>aa (.e (.one (.ptr l (off+k))),[])
   |.e (.one (.c (.rp cs)))=>aa (.e (.one (.c (.rp (fK k cs)))),[])
   |_=>ae
  |none=>ae
 |.field t x f=>match jL T t f with
  |some (k,j)=>match bM φ x with
   |.e (.agg cs)=>match kN j (fK k cs)with
    |some e=>aa (.e e,[])
    |none=>ae
   |_=>ae
  |none=>ae
 |.nilCheck x=>match bM φ x with
  |.e (.one (.ptr l off))=>aa (.e (.one (.ptr l off)),[])
  |.e (.one (.c (.rp cs)))=>aa (.e (.one (.c (.rp cs))),[])
  |_=>ae
 |.build t parts=>match zR T (bM φ) t parts.toList with
  |some cs=>aa (.e (.agg cs),[])
  |none=>ae
 |.buildSlice t n parts=>match NB T (bM φ) t n parts.toList with
  |some (k,es)=>aa (.e (.one (.c (.sl ab k n λi=>es.getD i []))),[])
  |none=>ae
 |.makeFunc fn a b=>match wu (bM φ) a.toList with
  |some ca=>match wu (bM φ) b.toList with
   |some cb=>aa (.e (.one (.c (.fn fn ca cb))),[])
   |none=>ae
  |none=>ae
 |.makeInterface t x=>match bD T t with
  |some i=>match pf i.desc with
   |false=>match vl t (bM φ x)with
    |some c=>aa (.e (.one (.c c)),[])
    |none=>ae
   |true=>ae
  |none=>ae
 |.typeAssert x _ t ab=>match bD T t with
  |some i=>match pf i.desc with
   |false=>match bM φ x with
    |.e (.one (.c c))=>match qd t i c with
     |some (e,b)=>aa (.eX [e,.one (.c (.bool b))],[])
     |none=>ae
    |_=>ae
   |true=>ae
  |none=>ae
 |_=>ae
def Jp(T:List (Nat×TI))(φ:Fr)(σ:List aP)(t:aj)(x:ak):Option D :=
 match bD T t with
 |some i=>match bM φ x with
  |.e (.one (.ptr l off))=>match dt l σ with
   |some (.cells _ cs)=>match kN i (fK off cs)with
    |some e=>aa (.e e)
    |none=>ae
   |_=>ae
  |.e (.one (.c (.rp cs)))=>match kN i (cs.map A.c)with
   |some e=>aa (.e e)
   |none=>ae
  |_=>ae
 |none=>ae
def X0(T:List (Nat×TI))(φ:Fr)(o:au):Option (D×List Prop) :=
 match o.op with
 |.indexAddr t x y=>match bD T t with
  |some i=>match i.desc with
   |.slice E=>match bD T E with
    |some ie=>match bM φ x,bM φ y with
     |.e (.one (.bp l (.sl g k q m))),.e (.one (.c (.int _ j)))=>match aB k ie.size with
      |true=>aa (.e (.one (.bp l (.el g ie.size (q+j.toNat) 0))),[0<=j,j<m])
      |false=>ae
     |.e (.one (.c (.val (.slice (aa ⟨b,off,ae⟩) n _)))),.e (.one (.c (.int _ j)))=>aa (.e (.one (.c (.val (.pointer (aa ⟨b,off+j.toNat*ie.size,ae⟩))))),[0<=j,j<n])
     |_,_=>ae
    |none=>ae
   |_=>ae
  |none=>ae
 |.fieldAddr t x f=>match jL T t f with
  |some (k,_)=>match bM φ x with
   |.e (.one (.bp l (.el g a i q)))=>aa (.e (.one (.bp l (.el g a i (q+k)))),[])
   |.e (.one (.c (.val (.pointer (aa ⟨b,off,ae⟩)))))=>aa (.e (.one (.c (.val (.pointer (aa ⟨b,off+k,ae⟩))))),[])
   |_=>ae
  |none=>ae
 |.nilCheck x=>match bM φ x with
  |.e (.one (.bp l (.el g a i q)))=>aa (.e (.one (.bp l (.el g a i q))),[])
  |_=>ae
 |.slice t x lo hi ae=>match bD T t with
  |none=>ae
  |some i=>match qX (bM φ) lo with
   |none=>ae
   |some lw=>match qX (bM φ) hi with
    |none=>ae
    |some u=>match i.desc with
     |.slice E=>match bD T E with
      |none=>ae
      |some ie=>match bM φ x with
       |.e (.one (.bp l (.sl g k q m)))=>match aB k ie.size with
        |true=>aa (.e (.one (.bp l (.sl g ie.size (q+c9 0 lw) (c9 m u-c9 0 lw)))),fM m lw u)
        |false=>ae
       |_=>ae
     |_=>ae
 |.slice t x ae (aa y) (aa z)=>match bD T t with
  |none=>ae
  |some i=>match i.desc with
   |.slice E=>match bD T E with
    |none=>ae
    |some _=>match x7 (bM φ x),bM φ y,bM φ z with
     |some (_,k,n,es),.e (.one (.c (.int _ j))),.e (.one (.c (.int _ m)))=>aa (.e (.one (.c (.sl af k j.toNat es))),[0<=j,j<=m,m<=n])
     |_,_,_=>ae
   |_=>ae
 |.slice t x (aa w) (aa y) (aa z)=>match bD T t with
  |none=>ae
  |some i=>match i.desc with
   |.slice E=>match bD T E with
    |none=>ae
    |some _=>match bM φ x,bM φ w,bM φ y,bM φ z with
     |.e (.one (.bp _ (.sl _ _ _ n))),.e (.one (.c (.int _ i))),.e (.one (.c (.int _ j))),.e (.one (.c (.int _ m)))=>aa (.e (.one .any),[0<=i,i<=j,j<=m,m<=n])
     |_,_,_,_=>ae
   |_=>ae
 |.call c=>match c.callee with
  |.builtin .len=>match c.args.toList,c.argTypes[0]? with
   |[x],aa t=>match bD T t with
    |some i=>match i.desc with
     |.slice _=>match bM φ x with
      |.e (.one (.bp _ (.sl _ _ _ m)))=>aa (.e (.one (.c (.int .i64 m))),[])
      |.e (.one (.c (.val (.slice _ n _))))=>aa (.e (.one (.c (.int .i64 n))),[n<=9223372036854775807])
      |_=>ae
     |_=>ae
    |none=>ae
   |_,_=>ae
  |_=>ae
 |_=>ae
def zM(T:List (Nat×TI))(φ:Fr)(σ:List aP)(t:aj)(x:ak):Option (D×List Prop) :=
 match bD T t with
 |some it=>match bM φ x with
  |.e (.one (.bp l (.el g k i f)))=>match dt l σ with
   |some (.buf _ k' n es)=>match aB k' k with
    |true=>match kN it ((fK f (es i)).map A.c)with
     |some e=>aa (.e e,[g=n,i<n])
     |none=>ae
    |false=>ae
   |_=>ae
  |_=>ae
 |none=>ae
def Jx:Nat->List C->Nat->Bool
 |0,cc,k=>aB cc.length k
 |_+1,_,_=>af
def zT(T:List (Nat×TI))(φ:Fr)(σ:List aP)(t:aj)(x y:ak):Option (D×List aP×List Prop) :=
 match bD T t with
 |some it=>match bM φ x with
  |.e (.one (.bp l (.el g k i f)))=>match dt l σ with
   |some (.buf E k' n es)=>match aB k' k with
    |true=>match km (bM φ y)with
     |some new=>match aB new.length it.size with
      |true=>match gC new with
       |some cc=>match Jx f cc k with
        |true=>du (dH.qw l (.buf E k' n (pg i cc es)) σ) λσ'=>aa (.any,σ',[g=n,i<n])
        |false=>match fj f cc (es i)with
         |some ci=>du (dH.qw l (.buf E k' n (pg i ci es)) σ) λσ'=>aa (.any,σ',[g=n,i<n])
         |none=>ae
       |none=>ae
      |false=>ae
     |none=>ae
    |false=>ae
   |_=>ae
  |_=>ae
 |none=>ae
def Nx(T:List (Nat×TI))(CT:List (Nat×dr))(φ:Fr)(σ:List aP)(o:au):Option (D×List Prop) :=
 match o.op with
 |.load t x=>match Jp T φ σ t x with
  |some d=>aa (d,[])
  |none=>zM T φ σ t x
 |_=>match W7 T CT φ o with
  |some r=>aa r
  |none=>X0 T φ o
def Re(T:List (Nat×TI))(a:ak->D)(σ:List aP)(x y:ak)(t b:aj):Option (D×List aP×List Prop) :=
 match bD T t with
 |none=>ae
 |some i=>match bD T b with
  |none=>ae
  |some i2=>match i.desc with
   |.slice E=>match i2.desc with
    |.slice E2=>match aB E2 E with
     |false=>ae
     |true=>match bD T E with
      |none=>ae
      |some ie=>match bu 1 ie.bytes,bu 1 ie.size with
       |true,ab=>match x7 (a y)with
        |none=>ae
        |some (_,k',m,es')=>match aB k' ie.size with
         |false=>ae
         |true=>match a x with
          |.e (.one (.c (.sl ab k n es)))=>match aB k ie.size with
           |true=>du (σ++[.vec E ie.size (n+m) (cC n es es')]) λσ'=>aa (.e (.one (.vec σ.length ie.size (n+m) (cC n es es'))),σ',[(n+m)*ie.bytes<=140737488355328,n=0∨0<m])
           |false=>match aB n 0 with
            |true=>du (σ++[.vec E ie.size (n+m) (cC n es es')]) λσ'=>aa (.e (.one (.vec σ.length ie.size (n+m) (cC n es es'))),σ',[(n+m)*ie.bytes<=140737488355328,n=0∨0<m])
            |false=>ae
          |.e (.one (.vec l k n es))=>match dt l σ with
           |some (.vec E' k2 n2 zt)=>match aB E' E,aB k ie.size,aB k2 ie.size with
            |true,ab,ab=>du (dH.qw l (.vec E ie.size (n+m) (cC n es es')) σ) λσ'=>aa (.e (.one (.vec l ie.size (n+m) (cC n es es'))),σ',[n2=n,zt=es,(n+m)*ie.bytes<=140737488355328])
            |_,_,_=>ae
           |_=>ae
          |.e (.one (.bp l (.sl g k 0 n)))=>match dt l σ with
           |some (.buf E' k2 n2 zt)=>match aB E' E,aB k ie.size,aB k2 ie.size with
            |true,ab,ab=>du (dH.qw l (.buf E ie.size (n2+m) (cC n2 zt es')) σ) λσ'=>aa (.e (.one (.bp l (.sl (n2+m) ie.size 0 (n2+m)))),σ',[g=n2,n=n2,(n2+m)*ie.bytes<=140737488355328])
            |_,_,_=>ae
           |_=>ae
          |_=>ae
       |_,_=>ae
    |_=>ae
   |_=>ae
def X1(T:List (Nat×TI))(CT:List (Nat×dr))(φ:Fr)(σ:List aP)(o:au):Option (D×List aP×List Prop) :=
 match o.op with
 |.alloc _|.box _ _=>Xa T φ σ o
 |.store t x y=>match Xa T φ σ o with
  |some r=>aa r
  |none=>zT T φ σ t x y
 |.call c=>match c.callee with
  |.builtin .append=>match c.args.toList,c.argTypes.toList with
   |[x,y],[t,a]=>Re T (bM φ) σ x y t a
   |_,_=>ae
  |.value fo=>Jy CT φ σ fo c.args.toList
  |_=>ae
 |_=>ae
def Rf(T:List (Nat×TI))(a:ak->D)(x y:ak)(t b:aj):Option (D×List Prop) :=
 match bD T t with
 |none=>ae
 |some i=>match bD T b with
  |none=>ae
  |some i2=>match i.desc with
   |.slice E=>match i2.desc with
    |.slice E2=>match aB E2 E with
     |false=>ae
     |true=>match bD T E with
      |none=>ae
      |some ie=>match bu 1 ie.bytes,bu 1 ie.size with
       |true,ab=>match x7 (a y)with
        |none=>ae
        |some (_,k',m,es')=>match aB k' ie.size with
         |false=>ae
         |true=>match a x with
          |.e (.one (.c (.sl ab k n es)))=>match aB n 0 with
           |true=>aa (.e (.one (.c (.sl af ie.size (n+m) (cC n es es')))),[(n+m)*ie.bytes<=140737488355328,n=0∨0<m])
           |false=>ae
          |_=>ae
       |_,_=>ae
    |_=>ae
   |_=>ae
def X2(T:List (Nat×TI))(φ:Fr)(o:au):Option (D×List Prop) :=
 match o.op with
 |.call c=>match c.callee with
  |.builtin .append=>match c.args.toList,c.argTypes.toList with
   |[x,y],[t,a]=>Rf T (bM φ) x y t a
   |_,_=>ae
  |_=>ae
 |_=>ae
def BH:List (Nat×Bool)->Nat->Option Bool
 |[],_=>ae
 |(i,b)::r,t=>match aB i t with|true=>aa b|false=>BH r t
def XO(ds:List (Nat×Bool)):Option Nat->Bool
 |none=>af
 |some t=>match BH ds (2000000+t)with
  |some ab=>ab
  |_=>af
def isW(ds:List (Nat×Bool)):Option Nat->Bool
 |none=>af
 |some t=>match BH ds (3000000+t)with
  |some ab=>ab
  |_=>af
def appW(w:Bool)(T:List (Nat×TI))(a:ak->D)(σ:List aP)(x y:ak)(t b:aj):Option (D×List aP×List Prop) :=
 match bD T t with
 |none=>ae
 |some i=>match bD T b with
  |none=>ae
  |some i2=>match i.desc with
   |.slice E=>match i2.desc with
    |.slice E2=>match aB E2 E with
     |false=>ae
     |true=>match bD T E with
      |none=>ae
      |some ie=>match bu 1 ie.bytes,bu 1 ie.size with
       |true,ab=>match w with
        |true=>match x7 (a y)with
         |none=>ae
         |some (_,k',m,es')=>match aB k' ie.size with
          |false=>ae
          |true=>match a x with
           |.e (.one (.c (.sl ab k n es)))=>match aB n 0 with
            |true=>du (σ++[.buf E ie.size (0+m) (cC 0 es es')]) λσ'=>aa (.e (.one (.bp σ.length (.sl (0+m) ie.size 0 (0+m)))),σ',[(0+m)*ie.bytes<=140737488355328])
            |false=>ae
           |_=>ae
        |false=>match a x,a y with
         |.e (.one (.bp l (.sl g k 0 i))),.e (.one (.bp l' (.sl g' k' j m)))=>match aB l' l with
          |false=>ae
          |true=>match dt l σ with
           |some (.buf E' k2 n es)=>match aB E' E,aB k ie.size,aB k' ie.size,aB k2 ie.size with
            |true,ab,ab,ab=>du (dH.qw l (.buf E ie.size n (G6 i j m es)) σ) λσ'=>aa (.e (.one (.bp l (.sl n ie.size 0 (i+m)))),σ',[g=n,g'=n,i+m<=n,j+m<=n])
            |_,_,_,_=>ae
           |_=>ae
         |_,_=>ae
       |_,_=>ae
    |_=>ae
   |_=>ae
def Xb(w:Bool)(T:List (Nat×TI))(φ:Fr)(σ:List aP)(o:au):Option (D×List aP×List Prop) :=
 match o.op with
 |.call c=>match c.callee with
  |.builtin .append=>match c.args.toList,c.argTypes.toList with
   |[x,y],[t,a]=>appW w T (bM φ) σ x y t a
   |_,_=>ae
  |_=>ae
 |_=>ae
def Up(ds:List (Nat×Bool))(T:List (Nat×TI))(CT:List (Nat×dr))(φ:Fr)(σ:List aP)(o:au):Option (D×List aP×List Prop) :=
 match isW ds o.dst with
 |true=>Xb ab T φ σ o
 |false=>match X1 T CT φ σ o with
  |some r=>aa r
  |none=>Xb af T φ σ o
def Ju(ds:List (Nat×Bool))(d:Option Nat)(x:D)(obs:List Prop):Option (D×List Prop) :=
 match d with
 |none=>aa (x,obs)
 |some t=>match BH ds t with
  |none=>aa (x,obs)
  |some b=>match x with
   |.e (.one (.c (.bool e)))=>aa (.e (.one (.c (.bool b))),kM obs [e=b])
   |_=>ae
def NC{ds:List (Nat×Bool)}{d:Option Nat}{x y:D}{obs DU:List Prop}(h:Ju ds d x obs=aa (y,DU))(a:az DU):y=x/\az obs:=by
 unfold Ju at h;split at h
 .grind
 .split at h
  .grind
  .split at h
   .cases h;rw[az.cat]at a;have:_=_:=a.2;grind
   grind
def we(T:List (Nat×TI))(CT:List (Nat×dr))(ds:List (Nat×Bool))(all:List au)(φ:Fr)(σ:List aP)(o:au):Option (D×Option (List aP)×List Prop) :=
 let go:Option (D×Option (List aP)×List Prop):=match Nx T CT φ σ o with
  |some (x,obs)=>match Ju ds o.dst x obs with
   |some (y,a)=>oq y λy=>aa (y,ae,a)
   |none=>ae
  |none=>match XO ds o.dst with
   |true=>match X2 T φ o with
    |some (x,obs)=>oq x λx=>aa (x,ae,obs)
    |none=>ae
   |false=>match Up ds T CT φ σ o with
    |some (x,σ',obs)=>oq x λx=>aa (x,aa σ',obs)
    |none=>ae
 match o.guard with
 |none=>go
 |some (j,b)=>match zU φ all j with
  |some (aa b')=>match b,b' with
   |true,ab=>go
   |false,af=>go
   |_,_=>aa (.eX [],ae,[])
  |some ae=>aa (.eX [],ae,[])
  |none=>ae
section
variable {P:aq}{X:Cx P}{T:List (Nat×TI)}{CT:List (Nat×dr)}{N:Nat}{all:List au}{φ:Fr}{σ:List aP}{o:au}
theorem ND(hT:cN P T)(C:∀σ s a,cm N σ s φ a->bd o (yielded all.toArray a.tmps)=ab){x y:ak}{t e:aj}{d:D}{obs:List Prop}(A:o.op=.call {callee:=.builtin .append,args:=#[x,y],argTypes:=#[t,e]})(h:Rf T (bM φ) x y t e=aa (d,obs))(b:az obs):OA X N all o φ σ d σ:=by
 unfold Rf at h;split at h
 .cases h
 rename_i i hi;split at h
 .cases h
 rename_i i2 MY;split at h
 case h_2=>cases h
 rename_i E w;split at h
 case h_2=>cases h
 rename_i E2 Ux;split at h
 .cases h
 rename_i r;have u:=bP r;subst u;split at h
 .cases h
 rename_i z l;split at h
 case h_2=>cases h
 rename_i g q;have c:lz P o x y E2 z:=⟨⟨t,e,i,i2,A,hT t i hi,w,hT e i2 MY,Ux⟩,hT _ _ l,by have:=cV g;omega,by have:=cV q;omega⟩
 split at h
 .cases h
 rename_i tx k' m es' hy;split at h
 .cases h
 rename_i f;have B:=bP f;subst B;have j:=λs v=>mz hy σ s v;split at h
 .rename_i k n es hx;split at h
  .rename_i F;cases h;exact(OA.kQ C (bF.oX c hx (.inr (bP F)) j b.1 b.2)).BD
  grind
 grind
theorem NF(hT:cN P T){K:ak->D}{x y:ak}{t e:aj}{d:D}{σ':List aP}{obs:List Prop}(V:o.op=.call {callee:=.builtin .append,args:=#[x,y],argTypes:=#[t,e]})(h:Re T K σ x y t e=aa (d,σ',obs))(a:az obs):bF P o K σ d σ':=by
 unfold Re at h;split at h
 .cases h
 rename_i i hi;split at h
 .cases h
 rename_i i2 MY;split at h
 case h_2=>cases h
 rename_i E U;split at h
 case h_2=>cases h
 rename_i E2 Ux;split at h
 .cases h
 rename_i I;have O:=bP I;subst O;split at h
 .cases h
 rename_i L H;split at h
 case h_2=>cases h
 rename_i G z;have b:lz P o x y E2 L:=⟨⟨t,e,i,i2,V,hT t i hi,U,hT e i2 MY,Ux⟩,hT _ _ H,by have:=cV G;omega,by have:=cV z;omega⟩
 split at h
 .cases h
 rename_i tx k' m es' hy;split at h
 .cases h
 rename_i A;have Q:=bP A;subst Q;have c:=λs v=>mz hy σ s v;split at h
 .rename_i k n es hx;split at h
  .rename_i hk;rw[cY]at h;cases h;exact bF.oX b hx (.inl (bP hk)) c a.1 a.2
  .split at h
   .rename_i S;rw[cY]at h;cases h;exact bF.oX b hx (.inr (bP S)) c a.1 a.2
   grind
 .rename_i l k n es hx;split at h
  .rename_i M R f zt hl;split at h
   .rename_i J r F;rw[cY,jc]at h;cases h;obtain⟨w,j,B⟩:f=n/\zt=es/\_:=a;subst w;subst j;have u:=bP J;subst u;have q:=bP r;have C:=bP F;subst C;subst q;exact bF.G9 b hx (b5 hl) c B
   grind
  grind
 .rename_i l g k n hx;split at h
  .rename_i M R f zt hl;split at h
   .rename_i J r F;rw[cY,jc]at h;cases h;obtain⟨w,j,B⟩:g=f/\n=f/\_:=a;subst w;subst j;have u:=bP J;subst u;have q:=bP r;have C:=bP F;subst C;subst q;exact bF.NG b hx (b5 hl) c B
   grind
  grind
 grind
theorem NH(hT:cN P T){b:ak->D}{x:ak}{a:Array aj}{t:aj}{d:D}(e:o.op=.call {callee:=.builtin .len,args:=#[x],argTypes:=a})(f:a[0]?=aa t)(h:Rb T t (b x)=aa d):bF P o b σ d σ:=by
 unfold Rb at h;split at h
 .cases h
 rename_i i hi;split at h
 .rename_i E c;split at h
  .rename_i tt k n es hs;cases h;exact bF.Uy hT e f hi c (λs v=>mz hs σ s v)
  grind
 .grind [bF.Rg]
 grind
theorem Jz(hT:cN P T){m:ak->D}{a c:aj}{x:ak}{d:D}{obs:List Prop}(l:o.op=.convert a c x)(h:Jw T a c (m x)=aa (d,obs))(b:az obs):bF P o m σ d σ:=by
 unfold Jw at h;split at h
 .cases h
 rename_i i hi;split at h
 .cases h
 rename_i i2 MY;split at h
 .rename_i k' hd;split at h
  .rename_i k j q;cases h;exact bF.NI hT l hi MY hd q b
  grind
 .rename_i hd;split at h
  .grind [bF.NJ]
  .split at h
   .rename_i E g;split at h
    .rename_i w u;split at h
     .rename_i f;split at h
      .rename_i tt k n es hs;split at h
       .rename_i hk;have e:=bP hk;subst e;split at h
        .rename_i r t;cases h;exact bF.Hg hT l hi MY g hd u f (λs v=>mz hs σ s v) t
        grind
       grind
      grind
     grind
    grind
   grind
 grind
theorem Hh(hT:cN P T){b:ak->D}{t:aj}{x:ak}{lo hi:Option ak}{d:D}{obs:List Prop}(g:o.op=.slice t x lo hi ae)(h:DT T b t x lo hi=aa (d,obs))(a:az obs):bF P o b σ d σ:=by
 unfold DT at h;split at h
 .cases h
 rename_i i c;split at h
 .cases h
 rename_i l e;split at h
 .cases h
 rename_i u f;split at h
 .grind [bF.JA]
 .grind [Nat.eq_of_beq_eq_true,bF.NK,mz]
 grind
theorem wv{α:Type}{xs:Array α}{x:α}(h:xs.toList=[x]):xs=#[x]:=Array.ext' h
theorem wx{α:Type}{xs:Array α}{x y:α}(h:xs.toList=[x,y]):xs=#[x,y]:=Array.ext' h
theorem Rh(hT:cN P T)(Q:bE X CT){d:D}{obs:List Prop}(h:W7 T CT φ o=aa (d,obs))(g:az obs)(u:∀σ s a,cm N σ s φ a->bd o (yielded all.toArray a.tmps)=ab):OA X N all o φ σ d σ:=by
 unfold W7 at h;split at h
 .grind [OA.kQ,bF.move]
 .grind [OA.kQ,bF.assign]
 .rename_i t x y w;split at h
  .rename_i i hi;split at h
   .rename_i A;split at h
    .rename_i l k j r B;cases h;obtain⟨M,J⟩:0<=j/\j<(l.length:Int):=g;have:=bF.JB (σ:=σ) (m:=j.toNat) hT w hi A r B (by omega) (by omega);have e:iR l j=l[j.toNat]'(by omega):=by simp[iR,ar,br (by omega:j.toNat<l.length)]
     grind[OA.kQ]
    grind
   grind
  grind
 .rename_i t x y w;split at h
  .rename_i i hi;split at h
   .rename_i E A;split at h
    .rename_i O I;split at h
     .rename_i tt k n es k2 j r B;split at h
      .rename_i hk;cases h;obtain⟨M,J⟩:0<=j/\j<(n:Int):=g;have e:=bP hk;subst e;exact OA.kQ u (bF.indexAddr (m:=j.toNat) hT w hi A I (λs v=>mz r σ s v) B (by omega) (by omega))
      grind
     grind
    grind
   grind
  grind
 .grind [OA.kQ,Hh]
 .grind [OA.kQ,Jz]
 .rename_i c w;obtain⟨H,args,K⟩:=c;grind[wv,OA.kQ,NH,OA.BG]
 .rename_i c a b q;split at h
  .rename_i C;cases h;exact OA.kQ u (bF.pick q C)
  .rename_i C;cases h;exact OA.kQ u (bF.pick q C)
  grind
 .rename_i op t y z ty q;unfold PU at h;split at h
  .grind [OA.kQ,bF.Ri]
  .rename_i a b _ G F;split at h
   .split at h
    .rename_i _ _ a' b' _ _;cases h;exact OA.kQ u (bF.Uz q G F g.1 g.2)
    .grind [r8,OA.kQ,bF.bits]
    grind
   .grind [r8,OA.kQ,bF.bits]
   .grind [r8,OA.kQ,bF.bits]
   .grind [r8,OA.kQ,bF.bits]
   grind[OA.kQ,bF.binOp]
  .rename_i cs es G F;split at h
   .grind [OA.kQ,bF.structEq]
   grind
  grind
 .grind [OA.kQ,bF.unOp]
 .grind [OA.kQ,bF.extract,b5]
 .rename_i t y f q;split at h
  .rename_i k j L;split at h
   .rename_i l off r;cases h;exact OA.kQ u (bF.r9 hT q r L)
   .grind [OA.kQ,bF.uh]
   grind
  grind
 .grind [OA.kQ,bF.field]
 .grind [OA.kQ,bF.ui,bF.wy]
 .grind [OA.kQ,bF.build]
 .grind [OA.kQ,bF.buildSlice]
 .grind [OA.kQ,bF.makeFunc]
 .grind [OA.kQ,bF.makeInterface]
 .grind [OA.kQ,bF.typeAssert]
 grind
theorem Rj(hT:cN P T){d:D}{obs:List Prop}(h:X0 T φ o=aa (d,obs))(e:az obs):bF P o (bM φ) σ d σ:=by
 unfold X0 at h;split at h
 .rename_i t x y u;split at h
  .rename_i i hi;split at h
   .rename_i E B;split at h
    .rename_i I H;split at h
     .rename_i l g k q m kk j r F;split at h
      .rename_i hk;cases h;obtain⟨G,C⟩:0<=j/\j<(m:Int):=e;grind[Nat.eq_of_beq_eq_true,bF.X3]
      grind
     .rename_i b off n cap kk j r F;cases h;obtain⟨G,C⟩:0<=j/\j<(n:Int):=e;grind[bF.BI]
     grind
    grind
   grind
  grind
 .rename_i t x f u;split at h
  .rename_i k j J;split at h
   .rename_i l g Z i q r;cases h;exact bF.Rl hT u r J
   .rename_i b off r;cases h;exact bF.Rm hT u r J
   grind
  grind
 .grind [bF.X4]
 .rename_i t x lo hi u;split at h
  .cases h
  rename_i i A;split at h
  .cases h
  rename_i Y V;split at h
  .cases h
  grind[Nat.eq_of_beq_eq_true,bF.sliceB]
 .rename_i t x y z u;split at h
  .cases h
  rename_i i A;split at h
  .rename_i E B;split at h
   .cases h
   rename_i I H;split at h
   .rename_i tt k n es kj j Q m r F L;cases h;obtain⟨G,C,K⟩:0<=j/\j<=m/\m<=(n:Int):=e;exact bF.slice3 hT u A B H (λs v=>mz r σ s v) F L G C K
   grind
  grind
 .rename_i t x w y z u;split at h
  .cases h
  rename_i i A;split at h
  .rename_i E B;split at h
   .cases h
   rename_i I H;split at h
   .rename_i l g k q n U i kj j Q m r S F L;cases h;obtain⟨G,C,K,W⟩:0<=i/\i<=j/\j<=m/\m<=(n:Int):=e;grind[bF.slice3B]
   grind
  grind
 .rename_i c u;obtain⟨R,args,M⟩:=c;simp only at h;split at h
  .split at h
   .rename_i x t r O;split at h
    .rename_i i hi;split at h
     .rename_i E B;split at h
      .grind [wv,bF.X5]
      .rename_i a n cap hxx;cases h;have:=wv r;subst this;exact bF.X6 hT u O hi B hxx e
      grind
     grind
    grind
   grind
  grind
 grind
theorem Hi(hT:cN P T){t:aj}{x:ak}(j:o.op=.load t x){d:D}{obs:List Prop}(h:zM T φ σ t x=aa (d,obs))(a:az obs):bF P o (bM φ) σ d σ:=by
 unfold zM at h;split at h
 .rename_i m hi;split at h
  .rename_i l g k i f b;split at h
   .rename_i E k' n es hB;split at h
    .rename_i hk;have e:=bP hk;subst e;split at h
     .rename_i e c;cases h;exact bF.UA hT j b a.1 (b5 hB) hi c a.2
     grind
    grind
   grind
  grind
 grind
theorem DV(hT:cN P T){t:aj}{x y:ak}(m:o.op=.store t x y){d:D}{σ':List aP}{obs:List Prop}(h:zT T φ σ t x y=aa (d,σ',obs))(a:az obs):bF P o (bM φ) σ d σ':=by
 unfold zT at h;split at h
 .rename_i r hi;split at h
  .rename_i l g k i f c;split at h
   .rename_i E k' n es hB;split at h
    .rename_i hk;have e:=bP hk;subst e;split at h
     .rename_i new hy;split at h
      .rename_i q;split at h
       .rename_i cc PI;split at h
        .rename_i j;rw[cY,jc]at h;cases h;have b:f=0/\cc.length=k':=by
          cases f with
          |zero=>exact⟨rfl,bP j⟩
          |succ f=>simp[Jx]at j
         obtain⟨rfl,b⟩:=b;exact bF.JC hT m c a.1 (b5 hB) hi hy (bP q) PI (λs=>sd (by grind)) a.2
        .split at h
         .rename_i ci hci;rw[cY,jc]at h;cases h;exact bF.JC hT m c a.1 (b5 hB) hi hy (bP q) PI (λ_=>hci) a.2
         grind
       grind
      grind
     grind
    grind
   grind
  grind
 grind
theorem Rn(hT:cN P T)(i:bE X CT){d:D}{obs:List Prop}(h:Nx T CT φ σ o=aa (d,obs))(b:az obs)(g:∀σ s a,cm N σ s φ a->bd o (yielded all.toArray a.tmps)=ab):OA X N all o φ σ d σ:=by
 unfold Nx at h;split at h
 .rename_i t y f;split at h
  .rename_i e c;cases h;unfold Jp at c;split at c
   .grind [OA.kQ,bF.FO,b5,bF.JD]
   grind
  grind[OA.kQ,Hi]
 grind[Rh,OA.kQ,Rj]
theorem Ro(hT:cN P T)(j:bE X CT){d:D}{σ':List aP}{obs:List Prop}(h:X1 T CT φ σ o=aa (d,σ',obs))(b:az obs)(i:∀σ s a,cm N σ s φ a->bd o (yielded all.toArray a.tmps)=ab):OA X N all o φ σ d σ':=by
 unfold X1 at h;split at h
 .grind [OA.kQ,DW]
 .grind [OA.kQ,DW]
 .grind [OA.kQ,DW,DV]
 .rename_i c g;obtain⟨e,args,f⟩:=c;grind[wx,OA.kQ,NF,OA.call]
 grind
theorem NL(hT:cN P T){w:Bool}{A:ak->D}{x y:ak}{t c:aj}{d:D}{σ':List aP}{obs:List Prop}(U:o.op=.call {callee:=.builtin .append,args:=#[x,y],argTypes:=#[t,c]})(h:appW w T A σ x y t c=aa (d,σ',obs))(b:az obs):bF P o A σ d σ':=by
 unfold appW at h;split at h
 .cases h
 rename_i i hi;split at h
 .cases h
 rename_i i2 MY;split at h
 case h_2=>cases h
 rename_i E S;split at h
 case h_2=>cases h
 rename_i E2 Ux;split at h
 .cases h
 rename_i z;have M:=bP z;subst M;split at h
 .cases h
 rename_i J u;split at h
 case h_2=>cases h
 rename_i q e;have a:lz P o x y E2 J:=⟨⟨t,c,i,i2,U,hT t i hi,S,hT c i2 MY,Ux⟩,hT _ _ u,by have:=cV q;omega,by have:=cV e;omega⟩
 split at h
 .split at h
  .cases h
  rename_i tx k' m es' hy;split at h
  .cases h
  rename_i f;have Q:=bP f;subst Q;split at h
  .rename_i k n es hx;split at h
   .rename_i R;have H:=bP R;subst H;rw[cY]at h;cases h;exact bF.G5 a hx (λs v=>mz hy _ s v) b
   grind
  grind
 .split at h
  .rename_i l g k i l' g' k' j m hx hy;split at h
   .cases h
   rename_i r;have el:=bP r;subst el;split at h
   .rename_i W Y n es hl;split at h
    .rename_i V q2 q3 q4;have K:=bP V;have B:=bP q2;have G:=bP q3;have F:=bP q4;rw[cY]at h;cases h;obtain⟨I,O,L,C⟩:=b;subst I O K B G F;have:=bF.I4 (σ:=σ) a hx hy (b5 hl) L C;grind[jc]
    grind
   grind
  grind
theorem Rp(hT:cN P T)(j:bE X CT){ds:List (Nat×Bool)}{d:D}{σ':List aP}{obs:List Prop}(h:Up ds T CT φ σ o=aa (d,σ',obs))(b:az obs)(i:∀σ s a,cm N σ s φ a->bd o (yielded all.toArray a.tmps)=ab):OA X N all o φ σ d σ':=by
 have key:∀w,Xb w T φ σ o=aa (d,σ',obs)->OA X N all o φ σ d σ':=by
  intro w h;unfold Xb at h;split at h
  .rename_i c g;obtain⟨e,args,f⟩:=c;grind[wx,OA.kQ,NL]
  grind
 unfold Up at h;grind[Ro]
def gB(hT:cN P T)(C:bE X CT){ds:List (Nat×Bool)}{d:D}{σ':Option (List aP)}{obs:List Prop}(h:we T CT ds all φ σ o=aa (d,σ',obs))(g:az obs):OA X N all o φ σ d (σ'.getD σ):=by
 have go:(∀σ s a,cm N σ s φ a->bd o (yielded all.toArray a.tmps)=ab)->(match Nx T CT φ σ o with
  |some (x,obs)=>match Ju ds o.dst x obs with
   |some (y,l)=>oq y λy=>aa (y,ae,l)
   |none=>ae
  |none=>match XO ds o.dst with
   |true=>match X2 T φ o with
    |some (x,obs)=>oq x λx=>aa (x,ae,obs)
    |none=>ae
   |false=>match Up ds T CT φ σ o with
    |some (x,σ',obs)=>oq x λx=>aa (x,aa σ',obs)
    |none=>ae)=aa (d,σ',obs)->OA X N all o φ σ d (σ'.getD σ):=by
  intro B h;split at h
  .rename_i x k w;split at h
   .rename_i y m t;rw[nq]at h;cases h;obtain⟨rfl,z⟩:=NC t g;grind[Rn]
   grind
  .split at h
   .split at h
    .rename_i x k q;rw[nq]at h;cases h;unfold X2 at q;split at q
     .rename_i c A;obtain⟨r,args,v⟩:=c;grind[wx,ND]
     grind
    grind
   grind[nq,Rp]
 unfold we at h;simp only at h;split at h
 .grind [dC]
 .rename_i j b i;split at h
  .rename_i n e;have u:∀σ s a,cm N σ s φ a->bd o (yielded all.toArray a.tmps)=(aa n==aa b):=λσ s a f=>by simp only[bd,i,qf e f]
   split at h
   .grind
   .grind
   .cases h;refine OA.pass (λσ s a f=>(u σ s a f).trans ?_);cases b<;>cases n<;>simp_all
  .rename_i e;cases h;exact OA.pass (λσ s a f=>by simp only[bd,i,qf e f];rfl)
  grind
end
def IQ(φ:Fr)(o:au):Bool:=match o.op with
 |.load _ x=>match bM φ x with
  |.e (.one (.c (.rp _)))=>af
  |_=>ab
 |_=>af
def Jo{T:List (Nat×TI)}{CT:List (Nat×dr)}{φ:Fr}{σ σ2:List aP}{o:au}(h:IQ φ o=af):Nx T CT φ σ o=Nx T CT φ σ2 o:=by
 unfold Nx;split
 .rename_i t x a;simp only[IQ,a]at h;split at h
  .rename_i cs hx;simp only[Jp,zM,hx]
  grind
 .rfl
def Jq{T:List (Nat×TI)}{CT:List (Nat×dr)}{ds:List (Nat×Bool)}{all:List au}{φ:Fr}{σ:List aP}{o:au}{d:D}{obs:List Prop}(h:IQ φ o=af)(a:we T CT ds all φ σ o=aa (d,ae,obs))(σ2:List aP):
  we T CT ds all φ σ2 o=aa (d,ae,obs):=by
 unfold we at a⊢;simp only at a⊢;rw[Jo (σ2:=σ) h];cases b:Nx T CT φ σ o with
 |some r=>grind
 |none =>
  simp only[b]at a⊢;cases c:XO ds o.dst with
  |true=>grind
  |false =>
   simp only[c]at a⊢;have key:∀{y:Option (D×Option (List aP)×List Prop)},(match Up ds T CT φ σ o with|some (x,σ',obs)=>oq x λx=>aa (x,aa σ',obs)|none=>ae)=y->y≠aa (d,ae,obs):=by grind[nq]
   split at a
   .grind
   grind
def pd(t:Nat):List au->Bool
 |[]=>af
 |o::r=>match o.dst with
  |some d=>match aB d t with|true=>ab|false=>pd t r
  |none=>pd t r
theorem rY{t:Nat}:∀{l:List au}{i:Nat}{o:au},l[i]?=aa o->o.dst=aa t->pd t l=ab
 |[],_,_,h,_=>by grind
 |p::r,0,o,h,a=>by simp at h;subst h;simp[pd,a,iQ]
 |p::r,i+1,o,h,a=>by have:=rY (l:=r) (by simpa using h) a;simp only[pd];grind
theorem qb{t:Nat}:∀{l:List au},pd t l=ab->∃(i:Nat)(o:au),l[i]?=aa o/\o.dst=aa t
 |[],h=>by cases h
 |p::r,h=>by
  simp only[pd]at h;split at h
  .rename_i d c;split at h
   .rename_i e;exact⟨0,p,rfl,by grind[Nat.eq_of_beq_eq_true]⟩
   .obtain⟨i,o,b,a⟩:=qb h;exact⟨i+1,o,by grind,a⟩
  .obtain⟨i,o,b,a⟩:=qb h;exact⟨i+1,o,by grind,a⟩
def mx:List au->Bool
 |[]=>ab
 |o::r=>match o.dst with
  |some d=>match pd d r with|true=>af|false=>mx r
  |none=>mx r
theorem tj{t:Nat}:∀{l:List au}{i j:Nat}{o p:au},mx l=ab->l[i]?=aa o->l[j]?=aa p->o.dst=aa t->p.dst=aa t->i=j
 |[],_,_,_,_,_,h,_,_,_=>by grind
 |q::r,0,0,_,_,_,_,_,_,_=>rfl
 |q::r,0,j+1,o,p,a,c,b,d1,d2=>by simp at c;subst c;simp only[mx,d1]at a;grind[rY]
 |q::r,i+1,0,o,p,a,c,b,d1,d2=>by simp at b;subst b;simp only[mx,d2]at a;grind[rY]
 |q::r,i+1,j+1,o,p,a,c,b,d1,d2=>by
  have:mx r=ab:=by simp only[mx]at a;grind
  have f:r[i]?=aa o:=by grind
  have d:r[j]?=aa p:=by grind
  have e:=tj this f d d1 d2;omega
def uM(all:List au):Fr->Fr
 |[]=>[]
 |(t,d)::r=>match pd t all with|true=>uM all r|false=>(t,d)::uM all r
def lP{all:List au}{t:Nat}:∀{φ:Fr},look (uM all φ) t=if pd t all=ab then .any else look φ t
 |[]=>by simp[uM,look]
 |(u,d)::r=>by
  simp only[uM];by_cases c:aB u t=ab
  .have e:=bP c;subst e;cases b:pd u all with
   |true=>simp only;rw[lP];grind
   |false=>simp[look]
  .have a:aB u t=af:=by grind
   cases b:pd u all with
   |true=>simp only;rw[lP];simp[look,a]
   |false=>simp only[look,a,cond];rw[lP]
def bT:List Edge->List Nat
 |[]=>[]
 |e::r=>match e.ground with
  |.textOnly _=>bT r
  |.gcOnly _=>bT r
  |_=>e.on::bT r
theorem eN{j:Nat}:∀{l:List Edge},j∈bT l↔∃e∈l,di e=ab/\e.on=j
 |[]=>by simp[bT]
 |e::r=>by
  have c:=eN (j:=j) (l:=r);have yes:bT (e::r)=e.on::bT r->di e=ab->(j∈bT (e::r)↔∃a∈e::r,di a=ab/\a.on=j):=by grind
  have no:bT (e::r)=bT r->di e=af->(j∈bT (e::r)↔∃a∈e::r,di a=ab/\a.on=j):=by grind
  cases b:e.ground with
  |textOnly w=>exact no (by simp only[bT,b]) (by unfold di Region.binds;grind)
  |gcOnly w=>exact no (by simp only[bT,b]) (by unfold di Region.binds;grind)
  |_=>exact yes (by simp only[bT,b]) (by unfold di Region.binds;rw[b])
def wh(i t:Nat):List au->Bool
 |[]=>af
 |o::r=>match o.dst with
  |some d=>match aB d t with
   |true=>match ia i (bT o.after.toList)with
    |true=>wh i t r
    |false=>ab
   |false=>wh i t r
  |none=>wh i t r
def wi{i t:Nat}:∀{l:List au},wh i t l=af->∀(j:Nat)(o:au),l[j]?=aa o->o.dst=aa t->ia i (bT o.after.toList)=ab
 |[],_,j,o,h,_=>by grind
 |p::r,h,0,o,b,a=>by simp at b;subst b;simp only[wh,a,iQ]at h;grind
 |p::r,h,j+1,o,b,a=>by
  have:wh i t r=af:=by simp only[wh]at h;grind
  exact wi this j o (by grind) a
def pe(all:List au):Fr->List (Nat×D×Bool)
 |[]=>[]
 |(t,d)::r=>match pd t all with
  |true=>(t,d,ab)::pe all r
  |false=>(t,d,af)::pe all r
def kP(i:Nat)(all:List au):List (Nat×D×Bool)->Fr
 |[]=>[]
 |(t,d,b)::r=>match b with
  |false=>(t,d)::kP i all r
  |true=>match wh i t all with
   |true=>kP i all r
   |false=>(t,d)::kP i all r
def yq{i:Nat}{all:List au}{t:Nat}:∀{φ:Fr},look (kP i all (pe all φ)) t=if pd t all=ab/\wh i t all=ab then .any else look φ t
 |[]=>by simp[pe,kP,look]
 |(u,d)::r=>by
  have f:=yq (i:=i) (all:=all) (t:=t) (φ:=r);have c:look ((u,d)::kP i all (pe all r)) t=if aB u t=ab then d else look (kP i all (pe all r)) t:=by simp only[look];cases aB u t<;>rfl
  have b:look ((u,d)::r) t=if aB u t=ab then d else look r t:=by simp only[look];cases aB u t<;>rfl
  cases a:pd u all with
  |false =>
   simp only[pe,a,kP];grind[Nat.eq_of_beq_eq_true]
  |true =>
   cases e:wh i u all with
   |true =>
    simp only[pe,a,kP,e];grind[Nat.eq_of_beq_eq_true]
   |false =>
    simp only[pe,a,kP,e];grind[Nat.eq_of_beq_eq_true]
def jm(m:Nat->Bool):Nat->List (Option Nat×D)->Fr->Fr
 |_,[],φ=>φ
 |i,(d,x)::r,φ=>match m i with
  |true=>match d with
   |some t=>(t,x)::jm m (i+1) r φ
   |none=>jm m (i+1) r φ
  |false=>jm m (i+1) r φ
def nt{m:Nat->Bool}{φ:Fr}{t:Nat}:∀{l:List (Option Nat×D)}{i:Nat},(∃j x,l[j]?=aa (aa t,x)/\m (i+j)=ab/\look (jm m i l φ) t=x)∨look (jm m i l φ) t=look φ t
 |[],i=>.inr rfl
 |(d,x)::r,i=>by
  have f:=nt (m:=m) (φ:=φ) (t:=t) (l:=r) (i:=i+1);have step:look (jm m i ((d,x)::r) φ) t=look (jm m (i+1) r φ) t->((∃j a,((d,x)::r)[j]?=aa (aa t,a)/\m (i+j)=ab/\look (jm m i ((d,x)::r) φ) t=a)∨look (jm m i ((d,x)::r) φ) t=look φ t):=by
   intro e;rw[e];rcases f with⟨j,a,o,n,k⟩|h
   .exact .inl ⟨j+1,a,by grind,by grind,k⟩
   grind
  cases b:m i with
  |false=>exact step (by simp[jm,b])
  |true =>
   cases d with
   |none=>exact step (by simp[jm,b])
   |some u =>
    by_cases g:aB u t=ab
    .have e:=bP g;subst e;exact .inl ⟨0,x,rfl,by grind,by simp[jm,b,look]⟩
    .have c:aB u t=af:=by grind
     exact step (by simp[jm,b,look,c])
structure Dw where
 i:Nat
 pre:List (Option Nat×D)
 σ:List aP
 cls:List (List Bool)
 zN:List Bool
 Ny:List Bool
 obs:List Prop
def TK(i:Nat):List Nat->Bool
 |[]=>ab
 |k::r=>match Nat.blt k i with|true=>TK i r|false=>af
def DO{i:Nat}:∀{l:List Nat},TK i l=ab->∀k∈l,k<i
 |[],_,k,h=>by grind
 |x::r,h,k,hk=>by
  simp only[TK]at h;cases a:Nat.blt x i with
  |false=>grind
  |true =>
   simp only[a]at h;rcases eE.1 hk with rfl|hk
   .exact cV a
   .exact DO h k hk
def bit:List Bool->Nat->Bool
 |[],_=>af
 |b::_,0=>b
 |_::r,n+1=>bit r n
def x5:List Bool->List Bool->List Bool
 |[],b=>b
 |true::a,[]=>ab::a
 |false::a,[]=>af::a
 |true::a,_::b=>ab::x5 a b
 |false::a,ab::b=>ab::x5 a b
 |false::a,af::b=>af::x5 a b
def my:∀{a b:List Bool}{j:Nat},bit (x5 a b) j=(bit a j||bit b j)
 |[],b,j=>by simp[x5,bit]
 |true::a,[],j=>by simp[x5,bit]
 |false::a,[],j=>by simp[x5,bit]
 |true::a,c::b,0=>by simp[x5,bit]
 |true::a,c::b,j+1=>by simp only[x5,bit];exact my
 |false::a,ab::b,0=>by simp[x5,bit]
 |false::a,ab::b,j+1=>by simp only[x5,bit];exact my
 |false::a,af::b,0=>by simp[x5,bit]
 |false::a,af::b,j+1=>by simp only[x5,bit];exact my
def tk:Nat->List Bool
 |0=>[ab]
 |n+1=>af::tk n
theorem rZ:∀{n j:Nat},bit (tk n) j=decide (n=j)
 |0,0=>rfl
 |0,j+1=>by simp[tk,bit]
 |n+1,0=>by simp[tk,bit]
 |n+1,j+1=>by simp only[tk,bit,rZ];simp
def FK(a:List (List Bool)):List Nat->List Bool
 |[]=>[]
 |e::r=>match dt e a with
  |some c=>x5 (x5 c (tk e)) (FK a r)
  |none=>x5 (tk e) (FK a r)
theorem zO{b:List (List Bool)}{j:Nat}:∀{l:List Nat},bit (FK b l) j=ab->∃e∈l,e=j∨∃c,b[e]?=aa c/\bit c j=ab
 |[],h=>by simp[FK,bit]at h
 |e::r,h=>by
  simp only[FK,fg]at h;have two:∀{a:Nat},bit (tk e) a=ab->e=a:=by grind[rZ]
  have rest:bit (FK b r) j=ab->∃d∈e::r,d=j∨∃c,b[d]?=aa c/\bit c j=ab:=by intro h;obtain⟨d,i,g⟩:=zO h;grind
  split at h
  .rename_i c f;rw[my,my,jB,jB]at h;grind
  .rw[my,jB]at h;grind
def tm:List Bool->List Bool->Bool
 |[],_=>ab
 |true::a,ab::b=>tm a b
 |true::_,_=>af
 |false::a,_::b=>tm a b
 |false::a,[]=>tm a []
theorem qc:∀{a b:List Bool}{j:Nat},tm a b=ab->bit a j=ab->bit b j=ab
 |[],b,j,_,d=>by simp[bit]at d
 |true::a,ab::b,0,_,_=>rfl
 |true::a,ab::b,j+1,h,d=>by simp only[bit]at d⊢;exact qc (by simpa[tm]using h) d
 |true::a,af::b,j,h,_=>by simp[tm]at h
 |true::a,[],j,h,_=>by simp[tm]at h
 |false::a,c::b,0,_,d=>by simp[bit]at d
 |false::a,c::b,j+1,h,d=>by simp only[bit]at d⊢;exact qc (by simpa[tm]using h) d
 |false::a,[],0,_,d=>by simp[bit]at d
 |false::a,[],j+1,h,d=>by simp only[bit]at d;have:=qc (j:=j) (by simpa[tm]using h) d;simp[bit]at this
def r5(T:List (Nat×TI))(CT:List (Nat×dr))(N:Nat)(ds:List (Nat×Bool))(all:List au)(φm:List (Nat×D×Bool))(st:Dw)(o:au):Option Dw :=
 match fR N o.dst with
 |false=>ae
 |true =>
  du (bT o.after.toList) λes =>
  match TK st.i es with
  |false=>ae
  |true=>match we T CT ds all (jm (λj=>ia j es) 0 st.pre (kP st.i all φm)) st.σ o with
   |none=>ae
   |some (x,σ',obs) =>
    du (FK st.cls es) λcl =>
    match σ',IQ (jm (λj=>ia j es) 0 st.pre (kP st.i all φm)) o with
    |none,af=>du (st.pre++[(o.dst,x)]) λpre=>du (st.cls++[cl]) λcls=>du (kM obs st.obs) λobs=>aa ⟨st.i+1,pre,st.σ,cls,st.zN,st.Ny,obs⟩
    |none,ab=>match tm st.zN cl with
     |true=>du (st.pre++[(o.dst,x)]) λpre=>du (st.cls++[cl]) λcls=>du (kM obs st.obs) λobs=>du (x5 st.Ny (tk st.i)) λa=>aa ⟨st.i+1,pre,st.σ,cls,st.zN,a,obs⟩
     |false=>ae
    |some σ',_=>match tm st.Ny cl with
     |true=>du (st.pre++[(o.dst,x)]) λpre=>du (st.cls++[cl]) λcls=>du (kM obs st.obs) λobs=>du (x5 st.Ny (tk st.i)) λa=>du (x5 st.zN (tk st.i)) λb=>aa ⟨st.i+1,pre,σ',cls,b,a,obs⟩
     |false=>ae
def Nz(T:List (Nat×TI))(CT:List (Nat×dr))(N:Nat)(ds:List (Nat×Bool))(all:List au)(φm:List (Nat×D×Bool)):List au->Dw->Option Dw
 |[],st=>aa st
 |o::r,st=>match r5 T CT N ds all φm st o with
  |some qx=>Nz T CT N ds all φm r qx
  |none=>ae
def FL(T:List (Nat×TI))(CT:List (Nat×dr))(N:Nat)(ds:List (Nat×Bool))(all:List au)(φ:Fr)(σ:List aP):Option (Fr×List aP×List Prop) :=
 match mx all with
 |false=>ae
 |true=>du (pe all φ) λφm=>match Nz T CT N ds all φm all ⟨0,[],σ,[],[],[],[]⟩with
  |some st=>du (jm (λ_=>ab) 0 st.pre (uM all φ)) λφ'=>aa (φ',st.σ,st.obs)
  |none=>ae
def jw:au:=⟨ae,.move (.tmp 0),0,"",#[],ae⟩
section
variable (T:List (Nat×TI))(CT:List (Nat×dr))(N:Nat)(ds:List (Nat×Bool))(all:List au)(φm:List (Nat×D×Bool))
def x6(st:Dw):Nat->Dw
 |0=>st
 |i+1=>(r5 T CT N ds all φm (x6 st i) (all.getD i jw)).getD (x6 st i)
def PQ(st:Dw)(i:Nat):Fr:=jm (λj=>ia j (bT (all.getD i jw).after.toList)) 0 (x6 T CT N ds all φm st i).pre (kP (x6 T CT N ds all φm st i).i all φm)
def FM(st:Dw)(i:Nat):Option (D×Option (List aP)×List Prop):=we T CT ds all (PQ T CT N ds all φm st i) (x6 T CT N ds all φm st i).σ (all.getD i jw)
def xD(st:Dw)(i:Nat):D:=match FM T CT N ds all φm st i with|some (x,_,_)=>x|none=>.any
def oN(st:Dw)(i:Nat):Bool:=match FM T CT N ds all φm st i with|some (_,aa _,_)=>ab|_=>af
def ug(st:Dw)(i:Nat):Bool:=!IQ (PQ T CT N ds all φm st i) (all.getD i jw)&&!oN T CT N ds all φm st i
def PR(st:Dw)(i:Nat):List Bool:=FK (x6 T CT N ds all φm st i).cls (bT (all.getD i jw).after.toList)
end
section
variable {T:List (Nat×TI)}{CT:List (Nat×dr)}{N:Nat}{ds:List (Nat×Bool)}{all:List au}{φm:List (Nat×D×Bool)}
structure Jr(T:List (Nat×TI))(CT:List (Nat×dr))(N:Nat)(ds:List (Nat×Bool))(all:List au)(φm:List (Nat×D×Bool))(st qx:Dw)(o:au)(x:D)(σ':Option (List aP))(obs:List Prop):Prop where
 dst:fR N o.dst=ab
 lt:TK st.i (bT o.after.toList)=ab
 op:we T CT ds all (jm (λj=>ia j (bT o.after.toList)) 0 st.pre (kP st.i all φm)) st.σ o=aa (x,σ',obs)
 i:qx.i=st.i+1
 pre:qx.pre=st.pre++[(o.dst,x)]
 cls:qx.cls=st.cls++[FK st.cls (bT o.after.toList)]
 σ:qx.σ=σ'.getD st.σ
 obs:qx.obs=kM obs st.obs
 eff:qx.zN=if σ'.isSome=ab then x5 st.zN (tk st.i)else st.zN
 nf:qx.Ny=if(IQ (jm (λj=>ia j (bT o.after.toList)) 0 st.pre (kP st.i all φm)) o||σ'.isSome)=ab then x5 st.Ny (tk st.i)else st.Ny
 load:IQ (jm (λj=>ia j (bT o.after.toList)) 0 st.pre (kP st.i all φm)) o=ab->σ'.isSome=af->tm st.zN (FK st.cls (bT o.after.toList))=ab
 jv:σ'.isSome=ab->tm st.Ny (FK st.cls (bT o.after.toList))=ab
def BE{st qx:Dw}{o:au}(h:r5 T CT N ds all φm st o=aa qx):∃x σ' obs,Jr T CT N ds all φm st qx o x σ' obs:=by
 unfold r5 at h;split at h
 .cases h
 rename_i b;simp only[cY]at h;split at h
 .cases h
 rename_i a;split at h
 .cases h
 rename_i x σ' obs mq;refine⟨x,σ',obs,?_⟩;cases σ' with
 |none =>
  cases d:IQ (jm (λj=>ia j (bT o.after.toList)) 0 st.pre (kP st.i all φm)) o with
  |false =>
   simp only[d,cY]at h;cases h;exact⟨b,a,mq,rfl,rfl,rfl,rfl,rfl,by simp,by grind,by grind,by simp⟩
  |true =>
   simp only[d,cY]at h;split at h
   .rename_i c;cases h;exact⟨b,a,mq,rfl,rfl,rfl,rfl,rfl,by simp,by grind,λ_ _=>c,by simp⟩
   grind
 |some σ' =>
  simp only[cY]at h;split at h
  .rename_i c;cases h;exact⟨b,a,mq,rfl,rfl,rfl,rfl,rfl,by simp,by simp,by simp,λ_=>c⟩
  grind
def FN{st sf:Dw}:∀{rest:List au}{k:Nat},(∀i,rest[i]?=all[k+i]?)->Nz T CT N ds all φm rest (x6 T CT N ds all φm st k)=aa sf ->
  (∀i o,rest[i]?=aa o->r5 T CT N ds all φm (x6 T CT N ds all φm st (k+i)) o=aa (x6 T CT N ds all φm st (k+i+1)))/\x6 T CT N ds all φm st (k+rest.length)=sf
 |[],k,_,h=>by cases h;grind
 |p::r,k,c,h=>by
  simp only[Nz]at h;have d:all[k]?=aa p:=by have:=c 0;grind
  split at h
  .rename_i b a;have e:x6 T CT N ds all φm st (k+1)=b:=by simp only[x6,ar,d,im,a]
   rw[<-e]at h;obtain⟨g,f⟩:=FN (rest:=r) (k:=k+1) (λi=>by have:=c (i+1);grind) h;grind
  grind
theorem Js{j:Nat}:∀{l:List Nat},ia j l=ab->j∈l:=by
 intro l;induction l with
 |nil=>intro h;cases h
 |cons a r b =>
  intro h;simp only[ia]at h;grind[Nat.eq_of_beq_eq_true]
def Jt{P:aq}{X:Cx P}(hf:P.follows Departure.mixedOrders=ab)(hT:cN P T)(hC:bE X CT){ops:Array au}{φ φ':Fr}{σ σ':List aP}{obs:List Prop}(h:FL T CT N ds ops.toList φ σ=aa (φ',σ',obs))(ab9:az obs){Q:Post}(hQ:Q .normal φ' σ')(id:Nat):
  AW X N (.region id ops ab) Q φ σ:=by
 unfold FL at h;split at h
 .cases h
 rename_i Uq;rw[cY]at h;split at h
 case h_2=>cases h
 rename_i sf wj;rw[cY]at h;cases h;generalize Ra:ops.toList=all at *;generalize XP:pe all φ=φm at *;have K:∀i:Nat,ops[i]?=all[i]?:=λi=>by grind
 have Nh:ops.size=all.length:=by grind
 let g:Dw:=⟨0,[],σ,[],[],[],[]⟩
 obtain⟨M,R⟩:=FN (T:=T) (CT:=CT) (N:=N) (ds:=ds) (φm:=φm) (st:=g) (rest:=all) (k:=0) (λi=>by simp) wj;simp only[bC]at M R;let F:=x6 T CT N ds all φm g;have r:∀i o,all[i]?=aa o->all.getD i jw=o:=λi o h=>by grind
 have Z3:∀i o,all[i]?=aa o->PQ T CT N ds all φm g i=(jm (λj=>ia j (bT (o).after.toList)) 0 (F i).pre (kP (F i).i all φm)):=λi o h=>by unfold PQ;grind
 have facts:∀i o,all[i]?=aa o->∃E,Jr T CT N ds all φm (F i) (F (i+1)) o (xD T CT N ds all φm g i) (if oN T CT N ds all φm g i=ab then aa (F (i+1)).σ else ae) E:=by
  intro i o q;obtain⟨x,σ1,E,n⟩:=BE (M i o q);have y:=n.op;have hR:FM T CT N ds all φm g i=aa (x,σ1,E):=by unfold FM PQ;grind
  have hx:xD T CT N ds all φm g i=x:=by unfold xD;rw[hR]
  cases σ1 with
  |none =>
   have z:oN T CT N ds all φm g i=af:=by unfold oN;rw[hR]
   grind
  |some σ2 =>
   have z:oN T CT N ds all φm g i=ab:=by unfold oN;rw[hR]
   have hσ2:(F (i+1)).σ=σ2:=n.σ;grind
 have O:∀i,i<=all.length->(F i).i=i:=by
  intro i;induction i with
  |zero=>intro _;rfl
  |succ i C =>
   intro hi;obtain⟨_,n⟩:=facts i _ (br (by omega));rw[n.i,C (by omega)]
 have Ur:∀i,i<=all.length->∀j,(F i).pre[j]?=if j<i then(all[j]?).map (λo=>(o.dst,xD T CT N ds all φm g j))else ae:=by
  intro i;induction i with
  |zero=>intro _ j;simp[F,x6,g]
  |succ i C =>
   intro hi j;obtain⟨_,n⟩:=facts i _ (br (by omega));have Z:(F i).pre.length=i:=by
    apply Nat.le_antisymm
    .grind
    grind
   rw[n.pre];grind
 have XQ:∀i,i<=all.length->∀j,(F i).cls[j]?=if j<i then aa (PR T CT N ds all φm g j)else ae:=by
  intro i;induction i with
  |zero=>intro _ j;simp[F,x6,g]
  |succ i C =>
   intro hi j;obtain⟨_,n⟩:=facts i _ (br (by omega));have Z:(F i).cls.length=i:=by
    apply Nat.le_antisymm
    .apply Nat.le_of_not_lt;intro u;have:=C (by omega) i;grind
    grind
   rw[n.cls];by_cases XR:j<i
   .grind
   .rw[gw (by omega)];by_cases e:j=i
    .subst e;rw[bm (by omega),Z,Nat.sub_self];simp only[la,PR,r j _ (br (by omega:j<all.length))];rfl
    grind
 have acb:∀i,i<=all.length->∀j,bit (F i).zN j=(decide (j<i)&&oN T CT N ds all φm g j):=by
  intro i;induction i with
  |zero=>intro _ j;simp[F,x6,g,bit]
  |succ i C =>
   intro hi j;obtain⟨_,n⟩:=facts i _ (br (by omega));rw[n.eff];cases z:oN T CT N ds all φm g i with
   |false =>
    grind
   |true =>
    simp only[cj,Option.isSome_some];rw[my,C (by omega) j,rZ,O i (by omega)];by_cases e:j=i
    .grind
    grind
 have nfI:∀i,i<=all.length->∀j,bit (F i).Ny j=(decide (j<i)&&!ug T CT N ds all φm g j):=by
  intro i;induction i with
  |zero=>intro _ j;simp[F,x6,g,bit]
  |succ i C =>
   intro hi j;obtain⟨_,n⟩:=facts i _ (br (by omega));have Us:(if oN T CT N ds all φm g i=ab then aa (F (i+1)).σ else ae).isSome=oN T CT N ds all φm g i:=by cases oN T CT N ds all φm g i<;>rfl
   have Dv:ug T CT N ds all φm g i=!(IQ (jm (λj=>ia j (bT (all[i]'(by omega)).after.toList)) 0 (F i).pre (kP (F i).i all φm)) (all[i]'(by omega))||oN T CT N ds all φm g i):=by unfold ug;rw[Z3 i _ (br (by omega)),r i _ (br (by omega))];simp
   rw[n.nf,Us];cases z:(IQ (jm (λj=>ia j (bT (all[i]'(by omega)).after.toList)) 0 (F i).pre (kP (F i).i all φm)) (all[i]'(by omega))||oN T CT N ds all φm g i)with
   |false =>
    grind
   |true =>
    simp only[cj];rw[my,C (by omega) j,rZ,O i (by omega)];by_cases e:j=i
    .grind
    grind
 have Ut:∀i,i<=all.length->az (F i).obs:=by
  have back:∀k i,i+k=all.length->az (F i).obs:=by
   intro k;induction k with
   |zero =>
    grind
   |succ k C =>
    intro i hi;obtain⟨_,n⟩:=facts i _ (br (by omega));have:=C (i+1) (by omega);rw[n.obs,az.cat]at this;exact this.2
  intro i hi;exact back (all.length-i) i (by omega)
 have oaI:∀i o,all[i]?=aa o->OA X N all o (PQ T CT N ds all φm g i) (F i).σ (xD T CT N ds all φm g i) (F (i+1)).σ:=by intro i o q;have hi:i<all.length:=(bY.1 q).1;obtain⟨_,n⟩:=facts i o q;have MX:=Ut (i+1) (by omega);rw[n.obs,az.cat]at MX;have:=gB (P:=P) (N:=N) hT hC n.op MX.1;rw[n.σ];grind
 let idx:Nat->Option Nat:=λt=>(bg all.length).find? (λi=>decide ((all.getD i jw).dst=aa t));have G:∀t j,idx t=aa j->∃o,all[j]?=aa o/\o.dst=aa t:=by grind
 have J:∀i o d,all[i]?=aa o->o.dst=aa d->idx d=aa i:=by
  intro i o d q hd;have hi:i<all.length:=(bY.1 q).1;cases hx:idx d with
  |none =>
   grind
  |some j =>
   grind[tj]
 have W:∀t,pd t all=ab↔∃j,idx t=aa j:=by grind[qb,rY]
 have V:∀i o,all[i]?=aa o->∀e∈o.after,di e=ab->e.on<i:=by intro i o q e z S;have hi:i<all.length:=(bY.1 q).1;obtain⟨_,n⟩:=facts i o q;have:=DO n.lt e.on (eN.2 ⟨e,by grind,S,rfl⟩);grind
 have Z4:=V;have hd:wa X N ops φ (λi=>(F i).σ) (xD T CT N ds all φm g) (PQ T CT N ds all φm g) (ug T CT N ds all φm g) (λi=>decide (i<all.length)&&oN T CT N ds all φm g i) (λi j=>i<all.length/\bit (PR T CT N ds all φm g i) j=ab) idx (jm (λ_=>ab) 0 sf.pre (uM all φ)):=by
  refine⟨hf,?_,?_,?_,?_,?_,?_,?_,?_,?_,?_⟩
  .grind
  .intro i o d q hd;rw[K]at q;obtain⟨_,n⟩:=facts i o q;exact⟨J i o d q hd,gA n.dst d hd⟩
  .grind
  .intro i z;rcases cD i all.length with hi|hi
   .obtain⟨_,n⟩:=facts i _ (br hi);have:oN T CT N ds all φm g i=af:=by grind
    have hσ:=n.σ;grind
   .have h0:all.getD i jw=jw:=by grind
    show(F (i+1)).σ=(F i).σ;have:r5 T CT N ds all φm (F i) jw=ae∨∃s',r5 T CT N ds all φm (F i) jw=aa s':=by
     cases r5 T CT N ds all φm (F i) jw with
     |none=>grind
     |some s'=>grind
    show((r5 T CT N ds all φm (F i) (all.getD i jw)).getD (F i)).σ=(F i).σ;rw[h0];rcases this with h|⟨s',h⟩
    .grind
    .rw[h];obtain⟨x,σ1,ob,n⟩:=BE h;have y:=n.op;have:σ1=ae:=by unfold we at y;simp only[jw,Nx,W7,Ju,nq]at y;grind
     rw[im,n.σ,this];rfl
  .grind
  .intro i o q BF;rw[K]at q;have hi:i<all.length:=(bY.1 q).1;have p:IQ (jm (λj=>ia j (bT (o).after.toList)) 0 (F i).pre (kP (F i).i all φm)) o=af/\oN T CT N ds all φm g i=af:=by unfold ug at BF;grind
   refine⟨by grind,λk=>?_⟩;obtain⟨ob,n⟩:=facts i o q;have y:=n.op;rw[p.2]at y;have XS:=Jq p.1 (by simpa using y) (F k).σ;have MX:=Ut (i+1) (by omega);rw[n.obs,az.cat]at MX;have:=gB (P:=P) (N:=N) hT hC XS MX.1;grind
  .intro L hL i j ⟨hi,S⟩;have ff:∀i,i<all.length->L i->∀e,e∈bT (all.getD i jw).after.toList->L e:=by intro i hi Z5 e z;rw[r i _ (br hi)]at z;obtain⟨e',Y,h2,rfl⟩:=eN.1 z;grind
   have key:∀i,i<all.length->∀j,bit (PR T CT N ds all φm g i) j=ab->(∀e∈bT (all.getD i jw).after.toList,L e)->L j:=by
    intro i;induction i using Nat.strongRecOn with
    |_ i C =>
     intro hi j S Uu;obtain⟨e,z,h⟩:=zO S;have u:e<i:=by have QZ:=z;rw[r i _ (br hi)]at QZ;obtain⟨e',Y,h2,rfl⟩:=eN.1 QZ;grind
     rcases h with rfl|⟨c,hc,Nd⟩
     .grind
     .have:=XQ i (by omega) e;rw[bm u]at this;have XB:(F i).cls[e]?=aa c:=hc;rw[XB]at this;cases this;exact C e u (by omega) j Nd (ff e (by omega) (Uu e z))
   refine⟨λZ5=>key i hi j S (ff i hi Z5),all[i],by grind,λQ8=>key i hi j S ?_⟩;grind[List.getElem?_eq_getElem,eN]
  .intro i f hi TJ z Bo Z6;rw[Nh]at hi TJ;have QZ:oN T CT N ds all φm g f=ab:=by grind
   rcases cD f i with u|TM
   .refine .inl ⟨u,hi,?_⟩;obtain⟨_,n⟩:=facts i _ (br hi);have IM:PR T CT N ds all φm g i=FK (F i).cls (bT (all[i]).after.toList):=by unfold PR;grind
    rw[IM];cases hei:oN T CT N ds all φm g i with
    |true =>
     have Y:=n.jv (by grind);refine qc Y ?_;rw[nfI i (by omega) f];have:ug T CT N ds all φm g f=af:=by unfold ug;grind
     grind
    |false =>
     have W8:IQ (jm (λj=>ia j (bT (all[i]).after.toList)) 0 (F i).pre (kP (F i).i all φm)) all[i]=ab:=by unfold ug at Z6;rw[Z3 i _ (br hi),r i _ (br hi),hei]at Z6;grind
     have Y:=n.load W8 (by grind);grind[qc]
   .have u:i<f:=by omega
    refine .inr ⟨u,TJ,?_⟩;obtain⟨_,n⟩:=facts f _ (br TJ);have IM:PR T CT N ds all φm g f=FK (F f).cls (bT (all[f]).after.toList):=by unfold PR;grind
    rw[IM];have Y:=n.jv (by grind);grind[qc]
  .intro i o q t σ s v U;rw[K]at q;have hi:i<all.length:=(bY.1 q).1;unfold PQ;rw[r i o q];rcases nt (m:=λj=>ia j (bT o.after.toList)) (φ:=kP (F i).i all φm) (t:=t) (l:=(F i).pre) (i:=0)with⟨j,x,Y,h2,h3⟩|h3
   .have XT:look (jm (λj=>ia j (bT o.after.toList)) 0 (x6 T CT N ds all φm g i).pre (kP (x6 T CT N ds all φm g i).i all φm)) t=x:=h3;rw[XT];have hp:=Ur i (by omega) j;rw[Y]at hp;have XR:j<i:=by grind
    rw[bm XR,br (by omega:j<all.length)]at hp;simp only[nZ,dm,lT]at hp;obtain⟨XU,hp2⟩:=hp;have B:=J j _ t (br (by omega:j<all.length)) XU.symm;rw[B]at U;simp only at U;rw[bm]at U
    .grind
    .have XV:j∈bT o.after.toList:=by simp only[bC]at h2;exact Js h2
     obtain⟨e,a,b,c⟩:=eN.1 XV;grind
   .have XT:look (jm (λj=>ia j (bT o.after.toList)) 0 (x6 T CT N ds all φm g i).pre (kP (x6 T CT N ds all φm g i).i all φm)) t=look (kP (F i).i all φm) t:=h3;rw[XT,O i (by omega),<-XP,yq];split
    .trivial
    .rename_i XW;cases B:idx t with
     |some j =>
      have hD:=(W t).2 ⟨j,B⟩;have hN:wh i t all=af:=by grind
      obtain⟨oj,XL,XM⟩:=G t j B;have hm:=Js (wi hN j oj XL XM);obtain⟨e,z,S,heq⟩:=eN.1 hm;rw[B]at U;simp only at U;split at U
      ·
       rename_i hex;obtain⟨e2,WV,Z7,acg⟩:=hex;grind
      .rw[bm ⟨oj,by grind,e,by grind,S,heq⟩]at U;exact U
     |none=>grind
  .intro t σ s v U;have hF:F all.length=sf:=R;rcases nt (m:=λ_=>ab) (φ:=uM all φ) (t:=t) (l:=sf.pre) (i:=0)with⟨j,x,Y,_,h3⟩|h3
   .rw[h3];have hp:=Ur all.length (bh _) j;rw[hF,Y]at hp;have XR:j<all.length:=by grind
    grind
   .rw[h3,lP];split
    .trivial
    grind
 intro s a Dv hh b kk cs SS S XX;have MU:F ops.size=sf:=by grind
 refine .next rfl λA I=>?_;have I:=X.iv I;have H:=hh.rely I;have XY:=Dv.rely I hh;have XZ:Step σ A σ {A with w:={A.w with drawn:=A.w.drawn+1}}:=Step.same rfl rfl rfl rfl;have IN:aF σ {A with w:={A.w with drawn:=A.w.drawn+1}}:=H.same rfl;have Z8:=I.stepW.trans (XZ.m9 H);refine⟨_,{A with w:={A.w with drawn:=A.w.drawn+1}},#[],lV,⟨⟨σ,σ,H,IN,XZ⟩,.nil⟩,?_⟩;simp only[Region.schedule,hf,Bool.true_or,cj];refine hd.arr S (s0:={A with w:={A.w with drawn:=A.w.drawn+1}}) (λs2 a2 f2 h2 mf=>?_) ops.size _ (by simp) ?_ ?_ 0 _ a (by omega) ?_ ?_ IN (.refl _ _) _
 .simp only[MU]at f2 h2 mf;exact XX .normal _ _ s2 a2 hQ f2 h2 (Z8.trans mf)
 .simp
 .intro i o q hi;simp[dO,mR]at hi;split at hi<;>simp at hi
 .intro f TJ W6;simp[dO,mR];split<;>simp
 .have p:=XY.mono (XZ.m9 H) H.len;refine⟨p.size,p.defers,λt=>?_⟩;unfold gj;cases B:idx t with
  |none=>exact p.slot t
  |some j =>
   simp only;rw[aZ]
   .exact p.slot t
   .simp[dO,mR];split<;>simp
end
section
variable {P:aq}{X:Cx P}{N:Nat}{Qf:Post}{K:List It}{φ:Fr}{σ:List aP}
theorem AK.draw{T:List (Nat×TI)}{CT:List (Nat×dr)}(b:P.follows Departure.mixedOrders=ab)(hT:cN P T)(hC:bE X CT){ds:List (Nat×Bool)}{ops:Array au}{φ':Fr}{σ':List aP}{obs:List Prop}{id:Nat}(h:FL T CT N ds ops.toList φ σ=aa (φ',σ',obs))(a:az obs)(k:AK X N Qf K .normal φ' σ'):AK X N Qf (.code (.region id ops ab)::K) .normal φ σ :=
 Jt b hT hC h a k id
end
def vY(T:List (Nat×TI))(CT:List (Nat×dr))(ds:List (Nat×Bool))(N:Nat)(K:List It)(φ:Fr)(σ:List aP):Option (List It×Fr×List aP×List Prop) :=
 match K with
 |[]=>ae
 |.blk _::K=>aa (K,φ,σ,[])
 |.ops _ []::K=>aa (K,φ,σ,[])
 |.ops all (o::rest)::K=>match fR N o.dst with
  |true=>match we T CT ds all φ σ o with
   |some (x,ae,obs)=>du (kl o.dst x φ) λφ=>aa (.ops all rest::K,φ,σ,obs)
   |some (x,aa σ',obs)=>du (kl o.dst x φ) λφ=>aa (.ops all rest::K,φ,σ',obs)
   |none=>ae
  |false=>ae
 |.code c::K=>match c with
  |.skip=>aa (K,φ,σ,[])
  |.seq x y=>aa (.code x::.code y::K,φ,σ,[])
  |.block id c=>aa (.code c::.blk id::K,φ,σ,[])
  |.region id ops d=>match BH ds (id+1000000)with
   |some _=>ae
   |none=>match d with
    |false=>aa (.ops ops.toList ops.toList::K,φ,σ,[])
    |true=>match FL T CT N ds ops.toList φ σ with
     |some (φ',σ',obs)=>aa (K,φ',σ',obs)
     |none=>ae
  |.exit id=>match jP id K with
   |some K'=>aa (K',φ,σ,[])
   |none=>ae
  |.cond (.tmp t) x y=>match look φ t with
   |.e (.one (.c (.bool ab)))=>aa (.code x::K,φ,σ,[])
   |.e (.one (.c (.bool af)))=>aa (.code y::K,φ,σ,[])
   |_=>ae
  |_=>ae
theorem Kk{P:aq}{X:Cx P}(j:P.follows Departure.mixedOrders=ab){T:List (Nat×TI)}(hT:cN P T){CT:List (Nat×dr)}(i:bE X CT){ds:List (Nat×Bool)}{N:Nat}{Qf:Post}{K g:List It}{φ φ':Fr}{σ σ':List aP}{obs:List Prop}(h:vY T CT ds N K φ σ=aa (g,φ',σ',obs))(f:az obs)(k:AK X N Qf g .normal φ' σ'):AK X N Qf K .normal φ σ:=by
 unfold vY at h;split at h
 .cases h
 .grind [AK.RU]
 .grind [AK.Kj]
 .rename_i all o rest K0;cases d:fR N o.dst with
  |false=>grind
  |true =>
   simp only[d]at h;have e:=gA d;split at h
   .rename_i x a b;rw[cY]at h;cases h;exact ib.z9 (gB hT i b f) e k
   .rename_i x σ1 a b;rw[cY]at h;cases h;exact ib.z9 (gB hT i b f) e k
   grind
 .rename_i c K0;split at h
  .grind [AK.skip]
  .grind [AK.seq]
  .grind [AK.block]
  .grind [AK.region,AK.draw]
  .grind [AK.exit]
  .grind [AK.cond]
  grind
def kW(T:List (Nat×TI))(CT:List (Nat×dr))(ds:List (Nat×Bool))(N:Nat):Nat->List It->Fr->List aP->List Prop->Option (List It×Fr×List aP×List Prop)
 |0,K,φ,σ,obs=>du obs λobs=>aa (K,φ,σ,obs)
 |n+1,K,φ,σ,obs=>match vY T CT ds N K φ σ with
  |some (a,φ',σ',o)=>kW T CT ds N n a φ' σ' (kM o obs)
  |none=>du obs λobs=>aa (K,φ,σ,obs)
def Gb{P:aq}{X:Cx P}(d:P.follows Departure.mixedOrders=ab){T:List (Nat×TI)}(hT:cN P T){CT:List (Nat×dr)}(f:bE X CT){ds:List (Nat×Bool)}{N:Nat}{Qf:Post}:∀{n:Nat}{K a:List It}{φ φ':Fr}{σ σ':List aP}{obs DU:List Prop},
  kW T CT ds N n K φ σ obs=aa (a,φ',σ',DU)->az DU->AK X N Qf a .normal φ' σ'->AK X N Qf K .normal φ σ/\az obs
 |0,K,a,φ,φ',σ,σ',obs,DU,h,b,k=>by simp only[kW,cY]at h;grind
 |n+1,K,a,φ,φ',σ,σ',obs,DU,h,b,k=>by
  simp only[kW]at h;cases e:vY T CT ds N K φ σ with
  |none =>
   grind[cY]
  |some r =>
   obtain⟨i,c,σ1,g⟩:=r;simp only[e]at h;obtain⟨l,j⟩:=Gb d hT f h b k;grind[az.cat,Kk]
def AK.kW{P:aq}{X:Cx P}(d:P.follows Departure.mixedOrders=ab){T:List (Nat×TI)}(hT:cN P T){CT:List (Nat×dr)}(hC:bE X CT)(ds:List (Nat×Bool)){N:Nat}{Qf:Post}(n:Nat){K b:List It}{φ φ':Fr}{σ σ':List aP}{a:List Prop}(h:AM.kW T CT ds N n K φ σ []=aa (b,φ',σ',a))(c:az a)(k:AK X N Qf b .normal φ' σ'):AK X N Qf K .normal φ σ:=(Gb d hT hC h c k).1
section
variable {P:aq}{X:Cx P}{N:Nat}{Qf:Post}{K:List It}{φ:Fr}{σ:List aP}
def zJ(rs:List ResultVar)(ks:List Nat)(φ:Fr)(res:D):Option (List Prop) :=
 match x3 φ rs with
 |some ds=>match rU ds with
  |some d=>match vP ks.length res with
   |true=>Du d (hZ ks res)
   |false=>ae
  |none=>ae
 |none=>ae
def AK.db{fn:Func}{a:Nat}{res:D}{σ':List aP}(ks:List Nat){ps:List Prop}(h:zJ fn.results.toList ks φ res=aa ps)(c:az ps)(d:jJ ks σ=aa σ')(b:kn σ'=ab)(e:dw ks=ab)(hk:∀j,j<a->ks[j]?=aa j):
  AK X N (cp fn a res σ') (.code .ret::K) .normal φ σ:=by refine AK.ret ⟨.inl rfl,ks,?_⟩;unfold zJ at h;grind
def AK.bw{fn:Func}{res:D}{ps:List Prop}(h:zJ fn.results.toList [] φ res=aa ps)(a:az ps:=by simp):AK X N (cp fn 0 res []) (.code .ret::K) .normal φ σ :=
 AK.db [] h a rfl rfl rfl (λj h=>by omega)
def cp.zero{fn:Func}{res:D}{ps:List Prop}(h:zJ fn.results.toList [] φ res=aa ps)(c:az ps:=by simp):cp fn 0 res [] .ret φ σ:=by
 refine⟨.inl rfl,[],?_⟩;unfold zJ at h;split at h
 .rename_i ds Yz;split at h
  .rename_i d b;split at h
   .rename_i a;exact⟨ds,d,ps,Yz,b,h,c,a,rfl,rfl,rfl,λj h=>by omega⟩
   grind
  grind
 grind
def AK.leave{id:Nat}{φ:Fr}{σ:List aP}{A:Fr->List aP->Prop}{Qr:Post}{K f l:List It}(h1:jP id K=ae)(h2:jP id f=aa l)(k:AK X N Qr l .normal φ σ):
  AK X N (λe φ' σ'=>match e with
   |.normal=>A φ' σ'
   |e=>AK X N Qr f e φ' σ') (.code (.exit id)::K) .normal φ σ:=by
 have key:∀{K:List It},jP id K=ae->∀{Q:Post},Q (.exit id) φ σ->AK X N Q K (.exit id) φ σ:=by
  intro K;induction K with
  |nil=>intro _ Q h;exact h
  |cons i r g =>
   intro hk Q h;cases i with
   |code c=>exact g (by simpa[jP]using hk) h
   |ops a b=>exact g (by simpa[jP]using hk) h
   |blk j =>
    simp only[jP]at hk;cases m:aB id j with
    |true=>grind
    |false =>
     simp[m]at hk;have d:id≠j:=λe=>by grind[Nat.beq_refl]
     simp only[AK,d,b7];grind
 exact AW.exit (key h1 (AK.wH h2 k))
def AK.iC{φ:Fr}{σ:List aP}{A:Fr->List aP->Prop}{Qr:Post}{K a:List It}(k:Qr .ret φ σ):
  AK X N (λe φ' σ'=>match e with
   |.normal=>A φ' σ'
   |e=>AK X N Qr a e φ' σ') (.code .ret::K) .normal φ σ:=AK.ret (AK.sj (Qf:=Qr) k)
def AK.again{S:Type}{I:S->Prop}{fr:S->Fr}{st:S->List aP}{a:S->Nat}{x:S}{Qr:Post}(y:S){ps:List Prop}(d:ny φ (fr y)=aa ps)(f:az ps)(g:I y)(c:a y<a x)(b:σ=st y):
  AK X N (λe φ' σ'=>match e with
   |.normal=>∃y,I y/\a y<a x/\og φ' (fr y)/\σ'=st y
   |e=>Qr e φ' σ') [] .normal φ σ:=⟨y,g,c,cA d f,b⟩
def AK.wI{S:Type}{c:Code}(I:S->Prop)(fr:S->Fr)(st:S->List aP)(b:S->Nat)(x:S){ps:List Prop}(d:ny φ (fr x)=aa ps)(g:az ps)(f:I x)(a:st x=σ)(round:∀x,I x->AK X N (λe φ' σ'=>match e with
   |.normal=>∃y,I y/\b y<b x/\og φ' (fr y)/\σ'=st y
   |e=>AK X N Qf K e φ' σ') [.code c] .normal (fr x) (st x)):AK X N Qf (.code (.loop c)::K) .normal φ σ :=
 AK.loop I fr st b x f (cA d g) a round
def Fits(args:List D)(σ:List aP):Prop:=∃s vs,cg σ s vs args/\aF σ s
def Fits.at{args:List D}{σ:List aP}(h:Fits args σ){j:Nat}{d:D}(hj:args[j]?=aa d):∃s v,dj σ s v d:=by obtain⟨s,vs,a,_⟩:=h;obtain⟨_,b⟩:=cg.get a;grind
def Fits.str{args:List D}{σ:List aP}(h:Fits args σ)(j:Nat){l:List UInt8}(hj:args[j]?=aa (.e (.one (.c (.str l))))):l.length<=9223372036854775807:=by
 obtain⟨s,v,a⟩:=h.at hj;cases eT a with
 |str h hl=>exact hl
def Fits.sl{args:List D}{σ:List aP}(h:Fits args σ)(j:Nat){t:Bool}{k n:Nat}{es:Nat->List C}(hj:args[j]?=aa (.e (.one (.c (.sl t k n es))))):n<=9223372036854775807:=by
 obtain⟨s,v,d⟩:=h.at hj;cases eT d with
 |sl b off f a g=>omega
def Ev.body{f:aJ}{fn:Func}{c:Code}{args:List D}{σ σ':List aP}{res:D}(d:P.funcs[f]?=aa fn)(a:(fn.name== "runtime.NumGoroutine")=af)(e:fn.body=aa c)(b:bu args.length fn.ntmps=ab)(h:Fits args σ->AK X fn.ntmps (cp fn σ.length res σ') [.code c] .normal (iY 0 args) σ):Ev X f args σ res σ':=by refine⟨⟨fn,d,a,by grind⟩,λs vs hr hh=>?_⟩;exact(Ev.intro d a e (cV b) (AK.of_code (h ⟨s,vs,hr,hh⟩))).2 s vs hr hh
def Ev.bQ{f:aJ}{fn:Func}{c:Code}{args:List D}{σ σ':List aP}{res:D}(b:P.funcs[f]?=aa fn)(a:(fn.name== "runtime.NumGoroutine",fn.body,bu args.length fn.ntmps)=(af,aa c,ab))(h:Fits args σ->AK X fn.ntmps (cp fn σ.length res σ') [.code c] .normal (iY 0 args) σ):Ev X f args σ res σ':=by simp only[lT]at a;exact Ev.body b a.1 a.2.1 a.2.2 h
def AK.join{c:Code}{b:List It}(φ':Fr)(σ':List aP)(h:(∀(a:Fr)(ps:List Prop),ny a φ'=aa ps->az ps->AK X N Qf (.code c::b) .normal a σ')->AK X N Qf K .normal φ σ)(k:AK X N Qf (.code c::b) .normal φ' σ'):AK X N Qf K .normal φ σ :=
 h λ_ _ h1 h2=>AW.le k (cA h1 h2)
end
def D5(σ σ':List aP):Prop:=∀(s:St),aF σ s->aF σ' s/\Step σ s σ' s/\∀(v:ah)(d:D),dj σ s v d->dj σ' s v d
def YA:aP->aP->Option (List Prop)
 |.vec E k n es,.vec E' k' n' es'=>match aB E E',aB k k' with
  |true,ab=>aa [n=n',cv n es es']
  |_,_=>ae
 |.cells E cs,.cells E' na=>match aB E E' with
  |true=>P8 cs na
  |false=>ae
 |.dead,.dead=>aa []
 |.b8 H,.b8 H'=>aa [H=H']
 |.loop N φ r,.loop N' φ' r'=>aa [aP.loop N φ r=aP.loop N' φ' r']
 |.qP,.qP=>aa []
 |.buf E k n es,.buf E' k' n' es'=>match aB E E',aB k k' with
  |true,ab=>aa [n=n',cv n es es']
  |_,_=>ae
 |_,_=>ae
def oP:List aP->List aP->Option (List Prop)
 |[],[]=>aa []
 |a::r,b::q=>match YA a b with
  |some p=>match oP r q with
   |some ps=>aa (kM p ps)
   |none=>ae
  |none=>ae
 |_,_=>ae
def N1(B B':aP):Prop :=
 (∀E k n es,B=.vec E k n es->∃es',B'=.vec E k n es'/\cv n es es')/\((∀E k n es,B≠.vec E k n es)->(∀E k n es,B'≠.vec E k n es)/\(B=B'∨(∃E cs na,B=.cells E cs/\B'=.cells E na/\∀σ s vs,dX σ s vs cs->dX σ s vs na)∨∃E k n es es',B=.buf E k n es/\B'=.buf E k n es'/\cv n es es'))
theorem RG{B B':aP}{ps:List Prop}(h:YA B B'=aa ps)(a:az ps):N1 B B':=by
 unfold YA at h;split at h
 .rename_i E k n es E' k' n' es';split at h
  .rename_i d g;cases h;have b:=bP d;have f:=bP g;obtain⟨i,j⟩:n=n'/\cv n es es':=a;subst b f i;refine⟨λE0 k0 n0 WQ he=>?_,λm=>absurd rfl (m _ _ _ _)⟩;grind
  grind
 .rename_i E cs E' na;split at h
  .rename_i d;have b:=bP d;subst b;exact⟨λ_ _ _ _ he=>(by cases he),λ_=>⟨λ_ _ _ _ he=>(by cases he),.inr (.inl ⟨E,cs,na,rfl,rfl,λσ s vs r=>D8 h a r⟩)⟩⟩
  grind
 .exact⟨λ_ _ _ _ he=>(by cases he),λ_=>⟨λ_ _ _ _ he=>(by cases he),.inl rfl⟩⟩
 .cases h;rename_i H H';have e:H=H':=a;subst e;exact⟨λ_ _ _ _ he=>(by cases he),λ_=>⟨λ_ _ _ _ he=>(by cases he),.inl rfl⟩⟩
 .cases h;rename_i N φ r l φ' r';have e:aP.loop N φ r=aP.loop l φ' r':=a;exact⟨λ_ _ _ _ he=>(by cases he),λ_=>⟨λ_ _ _ _ he=>(by cases he),.inl e⟩⟩
 .exact⟨λ_ _ _ _ he=>(by cases he),λ_=>⟨λ_ _ _ _ he=>(by cases he),.inl rfl⟩⟩
 .rename_i E k n es E' k' n' es';split at h
  .rename_i d g;cases h;have b:=bP d;have f:=bP g;obtain⟨i,j⟩:n=n'/\cv n es es':=a;subst b f i;exact⟨λ_ _ _ _ he=>(by cases he),λ_=>⟨λ_ _ _ _ he=>(by cases he),.inr (.inr ⟨E,k,n,es,es',rfl,rfl,j⟩)⟩⟩
  grind
 grind
def BV:∀{σ σ':List aP}{ps:List Prop},oP σ σ'=aa ps->az ps->σ'.length=σ.length/\∀(l:Nat)(B B':aP),σ[l]?=aa B->σ'[l]?=aa B'->N1 B B'
 |[],[],_,_,_=>⟨rfl,λl B B' h=>by grind⟩
 |[],_::_,_,h,_=>by cases h
 |_::_,[],_,h,_=>by cases h
 |a::r,b::q,ps,h,d=>by
  simp only[oP]at h;split at h
  .rename_i p g;split at h
   .rename_i p2 h2;cases h;rw[az.cat]at d;obtain⟨e,f⟩:=BV h2 d.2;grind[RG]
   grind
  grind
def gT{σ σ':List aP}{ps:List Prop}(h:oP σ σ'=aa ps)(Z:az ps):D5 σ σ':=by
 obtain⟨W,hg⟩:=BV h Z;intro s I;have O:∀(l:Nat) (B:aP),σ[l]?=aa B->∃B',σ'[l]?=aa B'/\N1 B B':=by grind
 have get:∀(l:Nat) (B':aP),σ'[l]?=aa B'->∃B,σ[l]?=aa B/\N1 B B':=by grind
 have i:∀(l:Nat),(∀B,σ[l]?=aa B->B.gr=af)->∀B,σ'[l]?=aa B->B.gr=af:=by
  intro l hn B' he;obtain⟨B,hB,j⟩:=get l _ he;have q:=hn B hB;rcases(j.2 (λE k n es e=>by rw[e]at q;cases q)).2 with rfl|⟨E,cs,u,rfl,rfl,_⟩|⟨E,k,n,es,es',rfl,rfl,_⟩
  .exact q
  .rfl
  .cases q
 have V:∀(l:Nat) E k n es,σ'[l]?=aa (aP.buf E k n es)->∃es',σ[l]?=aa (aP.buf E k n es'):=by
  intro l E k n es he;obtain⟨B,hB,j⟩:=get l _ he;by_cases p:∃E k n es,B=aP.vec E k n es
  .obtain⟨E1,k1,Y,D9,rfl⟩:=p;obtain⟨es',f,_⟩:=j.1 _ _ _ _ rfl;cases f
  .rcases(j.2 (λE k n es e=>p ⟨E,k,n,es,e⟩)).2 with rfl|⟨E,cs,u,rfl,h,_⟩|⟨E,k,n,es,es',rfl,h,_⟩
   .grind
   .cases h
   grind
 have y:∀(l:Nat) E k n es,σ'[l]?=aa (aP.vec E k n es)->∃es',σ[l]?=aa (aP.vec E k n es'):=by
  intro l E k n es he;obtain⟨B,hB,j⟩:=get l _ he;by_cases p:∃E k n es,B=aP.vec E k n es
  .obtain⟨E1,k1,Y,D9,rfl⟩:=p;obtain⟨es',f,_⟩:=j.1 _ _ _ _ rfl;grind
  .exact absurd rfl ((j.2 (λE k n es e=>p ⟨E,k,n,es,e⟩)).1 E k n es)
 have Q:∀(v:ah) (a:A),gn σ s v a->gn σ' s v a:=by
  intro v a r;cases a with
  |c x=>exact r
  |ptr l o=>exact⟨i l r.1,r.2⟩
  |vec l k n es =>
   refine⟨r.1,by rw[W];exact r.2.1,λE k' n' es' he=>?_⟩;obtain⟨zt,g⟩:=y l E k' n' es' he;exact r.2.2 E k' n' zt g
  |ref l=>exact⟨i l r.1,r.2⟩
  |bp l w =>
   obtain⟨lv,r1,r2,r3⟩:=r;refine⟨lv,r1,by grind,λE k' n' es' he=>?_⟩;grind
  |any=>exact r
 have G:∀(vs:List ah) (cs:List A),dX σ s vs cs->dX σ' s vs cs:=by
  intro vs;induction vs with
  |nil=>intro cs r;cases cs with|nil=>trivial|cons _ _=>exact r.elim
  |cons v vs ih=>intro cs r;cases cs with|nil=>exact r.elim|cons c cs=>exact⟨Q _ _ r.1,ih _ r.2⟩
 have M:∀(v:ah) (e:E1),m7 σ s v e->m7 σ' s v e:=by
  intro v e r;cases e with
  |one a=>exact Q _ _ r
  |agg cs=>obtain⟨vs,f,g⟩:=r;exact⟨vs,f,G _ _ g⟩
 have R:∀(vs:List ah) (cs:List E1),gZ σ s vs cs->gZ σ' s vs cs:=by
  intro vs;induction vs with
  |nil=>intro cs r;cases cs with|nil=>trivial|cons _ _=>exact r.elim
  |cons v vs ih=>intro cs r;cases cs with|nil=>exact r.elim|cons c cs=>exact⟨M _ _ r.1,ih _ r.2⟩
 have J:∀(v:ah) (d:D),dj σ s v d->dj σ' s v d:=by
  intro v d r;cases d with
  |e x=>exact M _ _ r
  |eX xs=>obtain⟨vs,f,g⟩:=r;exact⟨vs,f,R _ _ g⟩
  |any=>trivial
 refine⟨⟨I.mem,by rw[I.len,W],?_,I.eB,I.lt,I.own⟩,⟨bh _,λ_ _ _=>rfl,λ_ _ _ h=>h,λ_ _ _ _=>rfl,λL h b m=>.inr ⟨L,h,m⟩,?_,rfl,rfl,rfl,rfl⟩,J⟩
 .intro l B' L z U;obtain⟨B,hB,j⟩:=get l B' z;have m:=I.box l B L hB U;by_cases p:∃E k n es,B=aP.vec E k n es
  .obtain⟨E,k,n,es,rfl⟩:=p;obtain⟨es',rfl,he⟩:=j.1 _ _ _ _ rfl;refine⟨m.1.Dz he,?_⟩;rcases m.2 with⟨f,g⟩|f
   .exact .inl ⟨f,g.Dz he⟩
   grind
  .rcases(j.2 (λE k n es e=>p ⟨E,k,n,es,e⟩)).2 with rfl|⟨E,cs,u,rfl,rfl,S⟩|⟨E,k,n,es,es',rfl,rfl,S⟩
   .cases B with
    |cells E cs=>obtain⟨b,vs,f,g,F,C⟩:=m;exact⟨b,vs,f,g,G _ _ F,C⟩
    |vec E k n es=>grind
    |b8 H=>exact m
    |dead=>trivial
    |loop N φ r=>obtain⟨l,tmps,fn,df,f,g,F,C,T⟩:=m;exact⟨l,tmps,fn,df,f,g,F,λt=>J _ _ (C t),T⟩
    |qP=>exact m
    |buf E k n es=>exact m
   .obtain⟨b,vs,f,g,F,C⟩:=m;exact⟨b,vs,f,g,G _ _ (S _ _ _ F),C⟩
   .rcases m with m|⟨b,c0,vs,zs,f,g,F,C,T,h6,h7⟩
    .exact .inl m
    .exact .inr ⟨b,c0,vs,zs,f,g,F,C,T,h6.Dz S,h7⟩
 .intro l B L hB U;obtain⟨B',z,j⟩:=O l B hB;refine⟨B',L,z,U,?_⟩;by_cases p:∃E k n es,B=aP.vec E k n es
  .obtain⟨E,k,n,es,rfl⟩:=p;obtain⟨es',rfl,he⟩:=j.1 _ _ _ _ rfl;exact⟨λ_=>rfl,bh _⟩
  .rcases(j.2 (λE k n es e=>p ⟨E,k,n,es,e⟩)).2 with rfl|⟨E,cs,u,rfl,rfl,S⟩|⟨E,k,n,es,es',rfl,rfl,_⟩
   .exact gy.refl _ _
   .exact rfl
   .exact⟨λ_=>rfl,bh _⟩
section
variable {P:aq}{X:Cx P}{N:Nat}{Qf:Post}{K:List It}{φ:Fr}{σ:List aP}{c:Code}
theorem AW.ghost{Q:Post}{φ':Fr}{σ':List aP}(h:∀s a,cm N σ s φ a->aF σ s->∃s':St,s'.w=s.w/\cm N σ' s' φ' a/\aF σ' s'/\Step σ s σ' s')(k:AW X N c Q φ' σ'):AW X N c Q φ σ:=by intro s a o hh b kk cs S l j;obtain⟨s',m,g,d,st⟩:=h s a o hh;have f:=st.m9 hh;refine .ghost (.of hh d m f) ?_;exact k s' a g d b kk cs S l λe i σ2 s2 a2 q n h2 mf=>j e i σ2 s2 a2 q n h2 (f.trans mf)
theorem AK.ghost{φ':Fr}{σ':List aP}(h:∀s a,cm N σ s φ a->aF σ s->∃s':St,s'.w=s.w/\cm N σ' s' φ' a/\aF σ' s'/\Step σ s σ' s')(k:AK X N Qf (.code c::K) .normal φ' σ'):AK X N Qf (.code c::K) .normal φ σ :=
 AW.ghost h k
def cm.bs{σ':List aP}{s:St}{a:Act}(b:D5 σ σ')(f:cm N σ s φ a)(hh:aF σ s):cm N σ' s φ a:=⟨f.size,f.defers.imp λ_ h1=>h1.mono (b s hh).2.1.ext,λt=>(b s hh).2.2 _ _ (f.slot t)⟩
def AK.norm(σ':List aP){ps:List Prop}(h:oP σ σ'=aa ps)(b:az ps)(k:AK X N Qf (.code c::K) .normal φ σ'):AK X N Qf (.code c::K) .normal φ σ :=
 AK.ghost (λs a d hh=>⟨s,rfl,d.bs (gT h b) hh,(gT h b s hh).1,(gT h b s hh).2.1⟩) k
def AK.iB(t:Nat)(E:aj)(k:Nat){k' n:Nat}{es:Nat->List C}(h:look φ t=.e (.one (.c (.sl ab k' n es))))(g:n=0)(kk:AK X N Qf (.code c::K) .normal ((t,.e (.one (.vec σ.length k n es)))::φ) (σ++[.vec E k n es])):AK X N Qf (.code c::K) .normal φ σ:=by
 refine AK.ghost (λs a b hh=>?_) kk;have f:=b.slot t;rw[h]at f;have h1:=Rd.u9 (k:=k') (k':=k) (.inr g) (eT f);have hB:et (σ++[.vec E k n es]) {s with β:=s.β++[⟨a.tmps.getD t ai,[]⟩]} (.vec E k n es) ⟨a.tmps.getD t ai,[]⟩:=⟨h1.loose,.inl ⟨⟨rfl,g⟩,h1⟩⟩;obtain⟨j,d⟩:=hh.hO (.refl _ _) rfl hh hB (by simp)
 refine⟨{s with β:=s.β++[⟨a.tmps.getD t ai,[]⟩]},rfl,⟨b.size,b.defers.imp λ_ h1=>h1.mono d.ext,λu=>?_⟩,j,d⟩;simp only[look];cases i:aB t u with
 |false=>exact(b.slot u).mono d.ext hh.len
 |true =>
  have e:=bP i;subst e;exact pW (L:=⟨a.tmps.getD t ai,[]⟩) (by simp) (by simp[<-hh.len]) hB
def AK.j1{S:Type}(I:S->Prop)(fr:S->Fr)(st:S->List aP)(j:S->Nat)(x:S){ps qs:List Prop}(u:ny φ (fr x)=aa ps)(C:az ps)(m:oP σ (st x)=aa qs)(G:az qs)(B:I x)(round:∀x,I x->AK X N (λe φ' σ'=>match e with
   |.normal=>∃y,I y/\j y<j x/\og φ' (fr y)/\D5 σ' (st y)
   |e=>AK X N Qf K e φ' σ') [.code c] .normal (fr x) (st x)):AK X N Qf (.code (.loop c)::K) .normal φ σ:=by
 intro s a D hh b kk cs SS hb hQ;have i:=gT m G;obtain⟨p,t,_⟩:=i s hh;refine sk (λn a' s'=>∃y,I y/\cm N (st y) s' (fr y) a'/\aF (st y) s'/\cR σ s (st y) s'/\j y=n) ?_ ?_ ⟨x,B,(D.le (cA u C)).bs i hh,p,t.m9 hh,rfl⟩
 .rintro n a' s' ⟨y,v,l,g,d,e⟩;exact⟨st y,g,λH h1=>⟨y,v,l.rely h1 g,g.rely h1,d.trans h1.stepW,e⟩⟩
 rintro n a' s' ⟨y,v,l,g,d,rfl⟩ A;refine round y v s' a' l g b (.inLoop c::kk) cs SS hb ?_;intro e E σ2 s2 a2 q w h2 mf;cases e with
 |normal =>
  obtain⟨z,F,r,f,h⟩:=q;obtain⟨o,k,_⟩:=h s2 h2;exact A a2 s2 (j z) r ⟨z,F,(w.le f).bs h h2,o,d.trans (mf.trans (k.m9 h2)),rfl⟩
 |_=>exact ends.cons (λ_ _=>rfl) (by simp) (hQ _ _ _ _ _ q w h2 (d.trans mf))
def AK.gd{S:Type}{I:S->Prop}{fr:S->Fr}{st:S->List aP}{a:S->Nat}{x:S}{Qr:Post}(y:S){ps qs:List Prop}(f:ny φ (fr y)=aa ps)(h:az ps)(d:oP σ (st y)=aa qs)(g:az qs)(i:I y)(b:a y<a x):
  AK X N (λe φ' σ'=>match e with
   |.normal=>∃y,I y/\a y<a x/\og φ' (fr y)/\D5 σ' (st y)
   |e=>Qr e φ' σ') [] .normal φ σ:=⟨y,i,b,cA f h,gT d g⟩
end
def Ev.forget{P:aq}{X:Cx P}{f:aJ}{args:List D}{res tw:D}{σ':List aP}(h:Ev X f args [] res σ'){ps:List Prop}(g:Du res tw=aa ps)(j:az ps)(a:vP 0 tw=ab):Ev X f args [] tw []:=by
 refine⟨h.1,λs vs hr hh S cs hS=>h.2 s vs hr hh S cs λfr v e hl hv h1 st=>?_⟩
 have m:s.β=[]:=jf hh.len;have k:eu e {e with β:=[]}:=⟨rfl,λ_ _ _ h=>h,λ_ _ _=>rfl,h1.mem,λb i=>.inl (by grind)⟩
 refine .ghost k (hS fr v {e with β:=[]} (hl.mono λ_ _ _ h=>h) ?_ ⟨h1.mem,rfl,by simp,by simp,by simp,λb i=>⟨(h1.own b i).1,by simp⟩⟩ ⟨st.size,st.fe,st.mem,st.iU,by simp,λl B L hB=>by grind,st.os,st.tape,st.output,st.own⟩)
 .have h2:=oi g j hv;have:=dj.sub (ks:=[]) (σ:=σ') (σ':=[]) (s:=e) (β':=[]) (d:=tw) rfl rfl (by rw[BW a];exact h2) a;exact this
section drop
variable {σ1 rest:List aP}{s:St}
def UT(n:Nat):aP->Bool
 |.cells _ cs=>FF n cs
 |.loop ..=>af
 |_=>ab
def rX(n:Nat):List aP->Bool
 |[]=>ab
 |a::r=>match UT n a with|true=>rX n r|false=>af
def BX{n:Nat}:∀{l:List aP},rX n l=ab->∀B∈l,UT n B=ab
 |[],_,B,hB=>by grind
 |b::r,h,B,hB=>by
  simp only[rX]at h;cases a:UT n b with
  |false=>grind
  |true =>
   simp only[a]at h;rcases eE.1 hB with rfl|hB
   .exact a
   .exact BX h B hB
def et.uk{B:aP}{L:Loc}(a:UT σ1.length B=ab)(h:et (σ1++rest) s B L):et σ1 (s.cut σ1.length) B L:=by
 cases B with
 |cells E cs =>
  obtain⟨b,vs,h1,h2,e,d⟩:=h;exact⟨b,vs,h1,h2,dX.tn e a,d⟩
 |vec E k n es=>exact h
 |b8 H=>exact h
 |dead=>trivial
 |loop N φ r=>simp[UT]at a
 |qP=>exact h
 |buf E k n es=>exact h
def aF.drop(h:aF (σ1++rest) s)(i:rX σ1.length σ1=ab):aF σ1 (s.cut σ1.length):=by
 have hl:σ1.length<=s.β.length:=by rw[h.len];simp
 refine⟨h.mem,by simp[St.cut,hl],?_,?_,?_,λb e=>⟨(h.own b e).1,λL a=>(h.own b e).2 L (fV a)⟩⟩
 .intro l B L hB a;have g:l<σ1.length:=(bY.1 hB).1;simp only[St.cut,iL,g,cj]at a;exact et.uk (rest:=rest) (BX i B (bH hB)) (h.box l B L (by grind) a)
 .intro l l' L L' a d b e f;simp only[St.cut,iL]at a d;split at a<;>split at d<;>first|exact h.eB l l' L L' a d b e f|grind|grind
 .intro L a b e;exact h.lt L (fV a) b e
def oM.drop(a:lA rest=ab):∀{ds:List Deferred}{ls:List Nat},oM (σ1++rest) s ds ls->oM σ1 (s.cut σ1.length) ds ls
 |[],[],_=>trivial
 |[],_::_,r=>r.elim
 |_::_,[],r=>r.elim
 |d::ds,l::ls,⟨⟨h1,L,r,h2,f⟩,e,b⟩=>by
  have hl:l<σ1.length:=by
   rcases cD l σ1.length with h|h
   .exact h
   .rw[gw h]at h1;exact absurd rfl (nn a _ (bH h1))
  rw[jy hl]at h1;exact⟨⟨h1,L,r,by simp only[St.cut,iL,hl,cj];exact h2,f⟩,e,oM.drop a b⟩
def wJ(n:Nat)(σ:List aP):Bool:=match bu n σ.length with|true=>lA (σ.drop n)|false=>af
theorem qh{n:Nat}{σ:List aP}(h:wJ n σ=ab):bu n σ.length=ab/\lA (σ.drop n)=ab:=by unfold wJ at h;grind
end drop
def BY(n:Nat):Fr->Bool
 |[]=>ab
 |(_,d)::r=>match vP n d with|true=>BY n r|false=>af
def nA{n:Nat}:∀{φ:Fr}{t:Nat},BY n φ=ab->vP n (look φ t)=ab
 |[],t,_=>rfl
 |(u,d)::r,t,h=>by
  simp only[BY]at h;cases a:vP n d with
  |false=>grind
  |true =>
   simp only[a]at h;simp only[look];cases aB u t with
   |true=>exact a
   |false=>exact nA h
section
variable {P:aq}{X:Cx P}{N:Nat}{Qf:Post}{K:List It}{φ:Fr}{σ:List aP}{c:Code}
def ln{S:Type}{P:aq}(X:Cx P)(N:Nat)(Qf:Post)(K:List It)(I:S->Prop)(a:S->Fr)(st:S->List aP)(b:S->Nat)(n:Nat)(x:S):Post:=λe φ' σ'=>match e with
 |.normal=>∃y,I y/\b y<b x/\og φ' (a y)/\BY n (a y)=ab/\∃σ1 rest,σ'=σ1++rest/\σ1.length=n/\(rX n σ1=ab/\lA rest=ab)/\D5 σ1 (st y)
 |e=>AK X N Qf K e φ' σ'
def AK.cz{S:Type}(n:Nat)(I:S->Prop)(fr:S->Fr)(st:S->List aP)(k:S->Nat)(x:S){ps qs:List Prop}(D:ny φ (fr x)=aa ps)(Q:az ps)(o:oP σ (st x)=aa qs)(Y:az qs)(hn:σ.length=n)(O:I x)(round:∀x,I x->AK X N (ln X N Qf K I fr st k n x) [.code c] .normal (fr x) (st x)):AK X N Qf (.code (.loop c)::K) .normal φ σ:=by
 intro s a T hh b kk cs SS hb hQ;have j:=gT o Y;obtain⟨r,C,_⟩:=j s hh;refine sk (λm a' s'=>∃y,I y/\cm N (st y) s' (fr y) a'/\aF (st y) s'/\cR σ s (st y) s'/\k y=m) ?_ ?_ ⟨x,O,(T.le (cA D Q)).bs j hh,r,C.m9 hh,rfl⟩
 .rintro n a' s' ⟨y,E,l,g,d,e⟩;exact⟨st y,g,λs1 h1=>⟨y,E,l.rely h1 g,g.rely h1,d.trans h1.stepW,e⟩⟩
 rintro m a' s' ⟨y,E,l,g,d,rfl⟩ M;refine round y E s' a' l g b (.inLoop c::kk) cs SS hb ?_;intro e U σ2 s2 a2 q F h2 mf;cases e with
 |normal =>
  obtain⟨z,V,u,f,Z,σ1,rest,rfl,W,⟨R,w⟩,A⟩:=q;have G:=h2.drop (by grind);obtain⟨p,i,B⟩:=A _ G;have v:=F.le f;have H:eu s2 (s2.cut σ1.length):=⟨rfl,λ_ _ _ h=>h,λ_ _ _=>rfl,h2.mem,λb hb=>hb.imp id λ⟨L,J,hb⟩=>⟨L,fV J,hb⟩⟩
  refine .ghost H (M a2 (s2.cut σ1.length) (k z) u ⟨z,V,⟨v.size,v.defers.imp λ_ h1=>(h1.drop w).mono i.ext,λt=>B _ _ ((v.slot t).drop (nA (by grind)))⟩,p,?_,rfl⟩);exact((d.trans mf).drop (by omega)).trans (i.m9 G)
 |_=>exact ends.cons (λ_ _=>rfl) (by simp) (hQ _ _ _ _ _ q F h2 (d.trans mf))
def AK.RH{S:Type}{n:Nat}{I:S->Prop}{fr:S->Fr}{st:S->List aP}{a:S->Nat}{x:S}{i:List It}(y:S){ps qs:List Prop}(g:ny φ (fr y)=aa ps)(l:az ps)(f:BY n (fr y)=ab)(h:wJ n σ=ab)(e:oP (σ.take n) (st y)=aa qs)(j:az qs)(d:rX n (σ.take n)=ab)(k:I y)(b:a y<a x):
  AK X N (ln X N Qf i I fr st a n x) [] .normal φ σ :=
 ⟨y,k,b,cA g l,f,σ.take n,σ.drop n,(lb n σ).symm,by grind[Nat.le_of_ble_eq_true,qh],⟨d,(qh h).2⟩,gT e j⟩
def AK.aQ{S:Type}{n:Nat}{I:S->Prop}{fr:S->Fr}{st:S->List aP}{a:S->Nat}{x:S}{d:List It}(y:S){ps qs:List Prop}(h:(ny φ (fr y),BY n (fr y),wJ n σ,oP (σ.take n) (st y),rX n (σ.take n))=(aa ps,ab,ab,aa qs,ab))(f:az ps)(e:az qs)(g:I y)(b:a y<a x):
  AK X N (ln X N Qf d I fr st a n x) [] .normal φ σ:=by simp only[lT]at h;exact AK.RH y h.1 f h.2.1 h.2.2.1 h.2.2.2.1 e h.2.2.2.2 g b
def AK.leaveD{S:Type}{n:Nat}{I:S->Prop}{fr:S->Fr}{st:S->List aP}{b:S->Nat}{x:S}{id:Nat}{d a f:List It}(h1:jP id d=ae)(h2:jP id a=aa f)(k:AK X N Qf f .normal φ σ):
  AK X N (ln X N Qf a I fr st b n x) (.code (.exit id)::d) .normal φ σ :=
 AW.mono (AK.leave (A:=λφ' σ'=>ln X N Qf a I fr st b n x .normal φ' σ') h1 h2 k) λe φ' σ' q=>by
  have key:∀(K:List It) e,AK X N (λe φ' σ'=>match e with
    |.normal=>ln X N Qf a I fr st b n x .normal φ' σ'
    |e=>AK X N Qf a e φ' σ') K e φ' σ'->AK X N (ln X N Qf a I fr st b n x) K e φ' σ':=by
   have e:(λe φ' σ'=>match e with
    |.normal=>ln X N Qf a I fr st b n x .normal φ' σ'
    |e=>AK X N Qf a e φ' σ')=ln X N Qf a I fr st b n x:=by funext e φ' σ';cases e<;>rfl
   grind
  exact key _ _ q
def AK.fE{S:Type}{n:Nat}{I:S->Prop}{fr:S->Fr}{st:S->List aP}{d:S->Nat}{x:S}{b a:List It}(k:Qf .ret φ σ):AK X N (ln X N Qf a I fr st d n x) (.code .ret::b) .normal φ σ :=
 AK.ret (AK.sj (Qf:=Qf) k)
theorem cm.freeze(t l:Nat){E:aj}{cs:List A}{cc:List C}(F:look φ t=.e (.one (.ptr l 0)))(hl:dt l σ=aa (.cells E cs))(z:gC cs=aa cc){s:St}{a:Act}(i:cm N σ s φ a)(hh:aF σ s):∃s':St,s'.w=s.w/\cm N (σ.set l .dead) s' ((t,.e (.one (.c (.rp cc))))::φ) a/\aF (σ.set l .dead) s'/\Step σ s (σ.set l .dead) s':=by
 have hB:=b5 hl;have m:l<σ.length:=(bY.1 hB).1;have q:=i.slot t;rw[F]at q;obtain⟨_,L,b,k,g,y⟩:=q;obtain⟨f,vs,h1,h2,G,I⟩:=hh.box l _ L hB k;subst h1;simp at g;subst g;let s':St:={s with M:=λr o=>if r=f then vs[o]? else s.M r o}
 have st:Step σ s (σ.set l .dead) s':=by
  refine⟨bh _,λ_ _ _=>rfl,?_,?_,λL h b d=>.inr ⟨L,h,d⟩,?_,rfl,rfl,rfl,rfl⟩
  .grind
  .intro b d D o;have n:b≠f:=λe=>D _ (bH k) (by simp[e]);grind
  .intro l' B L' j0 ff;by_cases e:l=l'
   .subst e;rw[hB]at j0;cases j0;exact⟨.dead,L',by grind,ff,rfl⟩
   .exact⟨B,L',by grind,ff,.refl _ _⟩
 refine⟨s',rfl,⟨i.size,i.defers.imp λ_ h1=>h1.mono st.ext,λu=>?_⟩,⟨?_,by simp[hh.len,s'],?_,hh.eB,hh.lt,hh.own⟩,st⟩
 .simp only[look];cases d:aB t u with
  |false=>exact(i.slot u).mono st.ext hh.len
  |true =>
   have e:=bP d;subst e;rw[y];have p:=lQ z G;refine Rd.rp f 0 (λj=>(vs[j]?).getD ai) ?_ ?_
   .intro j c hj;obtain⟨v,x,_⟩:=p.get (j:=j) (a:=.c c) (by grind);grind
   .intro j c hj;obtain⟨v,x,p2⟩:=p.get (j:=j) (a:=.c c) (by grind);simp only[x,im];exact Rd.mono st.mem p2
 .intro b o v J;by_cases e:b=f
  .subst e;have hm':vs[o]?=aa v:=by grind
   show s.w.cell? _=_;simp[aV,h2,hm']
  .exact hh.mem b o v (by grind)
 .intro l' B L' j0 ff;by_cases e:l=l'
  .subst e;rw[fU m]at j0;cases j0;trivial
  .rw[j6 e]at j0;refine(hh.box l' B L' j0 ff).carry st.ext hh.len λb d=>⟨rfl,λo=>?_⟩
   have n:b≠f:=λH=>e (hh.eB l l' _ L' k ff b (by grind) d);grind
theorem AK.freeze(t l:Nat){E:aj}{cs:List A}{cc:List C}(a:look φ t=.e (.one (.ptr l 0)))(hl:dt l σ=aa (.cells E cs))(b:gC cs=aa cc)(kk:AK X N Qf (.code c::K) .normal ((t,.e (.one (.c (.rp cc))))::φ) (dH.qw l .dead σ)):AK X N Qf (.code c::K) .normal φ σ:=by grind[jc,AK.ghost,cm.freeze]
def AK.one{all rest:List au}{o:au}{x:D}{σ':List aP}(h:OA X N all o φ σ x σ')(a:fR N o.dst=ab)(k:AK X N Qf (.ops all rest::K) .normal (kl o.dst x φ) σ'):AK X N Qf (.ops all (o::rest)::K) .normal φ σ :=
 ib.z9 h (gA a) k
end
def aF.jv{σ:List aP}{s:St}(h:aF σ s){l:Nat}{H H':ah->(Nat->Option Obj)->Prop}{L L':Loc}(hB:σ[l]?=aa (.b8 H))(t:s.β[l]?=aa L){w':aA}(G:L'.v=L.v)(p:s.w.heap.size<=w'.heap.size)(hk:∀b,b<s.w.heap.size->b∉L.bs->w'.heap[b]?=s.w.heap[b]?)(i:∀b∈L'.bs,b∈L.bs∨(s.w.heap.size<=b/\b<w'.heap.size))(z:∃ch,H' L'.v ch/\(∀(b:Nat) (o:Obj),ch b=aa o->w'.heap[b]?=aa o)/\(∀b,b∈L'.bs↔(ch b).isSome=ab))(P:w'.os=s.w.os)(K:w'.tape=s.w.tape)(D:w'.output=s.w.output):
  aF (σ.set l (.b8 H')) ⟨s.β.set l L',s.M,w',s.own⟩/\Step σ s (σ.set l (.b8 H')) ⟨s.β.set l L',s.M,w',s.own⟩:=by
 have y:l<σ.length:=(bY.1 hB).1;have x:l<s.β.length:=by grind
 obtain⟨F,_,_,_,E⟩:=h.box l _ L hB t;have r:∀b∈L'.bs,∀o,s.M b o=ae:=by
  intro b j o;rcases i b j with h1|⟨h1,_⟩
  .grind
  .cases u:s.M b o with
   |none=>rfl
   |some v=>have:=h.block u;omega
 have st:Step σ s (σ.set l (.b8 H')) ⟨s.β.set l L',s.M,w',s.own⟩:=by
  refine⟨p,?_,λ_ _ _ h=>h,λ_ _ _ _=>rfl,?_,?_,P,K,D,rfl⟩
  .grind
  .grind
  .intro l' B a c f;by_cases e:l=l'
   .subst e;rw[hB]at c;cases c;rw[t]at f;cases f;exact⟨.b8 H',L',by grind,by grind,G⟩
   .exact⟨B,a,by grind,by grind,.refl _ _⟩
 have g:∀(l':Nat) (a:Loc),(s.β.set l L')[l']?=aa a->(l'=l/\a=L')∨(l≠l'/\s.β[l']?=aa a):=by grind
 refine⟨⟨?_,by simp[h.len],?_,?_,?_,?_⟩,st⟩
 .intro b o v u;have O:=h.block u;have A:b∉L.bs:=λm=>by grind
  rw[<-h.mem b o v u];simp only[aV];grind
 .intro l' B a c f;rcases g l' a f with⟨rfl,rfl⟩|⟨e,h2⟩
  .rw[fU y]at c;cases c;obtain⟨ch,k1,J,C⟩:=z;exact⟨ch,k1,J,C,r⟩
  .rw[j6 e]at c;refine(h.box l' B a c h2).carry st.ext h.len λb j=>⟨hk b (h.lt a (bH h2) b j) λm=>e (h.eB l l' L a t h2 b m j),λ_=>rfl⟩
 .intro N I L1 a h1 h2 b k d;rcases g N L1 h1 with⟨rfl,rfl⟩|⟨e1,q⟩<;>rcases g I a h2 with⟨rfl,rfl⟩|⟨e2,n⟩
  .rfl
  .rcases i b k with m|m
   .exact h.eB _ _ L a t n b m d
   .have:=h.lt a (bH n) b d;omega
  .rcases i b d with m|m
   .exact h.eB _ _ L1 L q t b k m
   .have:=h.lt L1 (bH q) b k;omega
  .exact h.eB _ _ L1 a q n b k d
 .intro a f b d;rcases List.mem_or_eq_of_mem_set f with h1|h1
  .exact cU (h.lt a h1 b d) p
  .subst h1;rcases i b d with h2|h2
   .exact cU (h.lt L (bH t) b h2) p
   grind
 .intro b z;obtain⟨Q,R⟩:=h.own b z;grind
section
variable {H H':ah->(Nat->Option Obj)->Prop}{s:St}
end
def cp.pr{fn:Func}{a:Nat}{res:D}{σ':List aP}{φ:Fr}{σ:List aP}(ks:List Nat){ps:List Prop}(h:zJ fn.results.toList ks φ res=aa ps)(c:az ps)(d:jJ ks σ=aa σ')(b:kn σ'=ab)(e:dw ks=ab)(hk:∀j,j<a->ks[j]?=aa j):
  cp fn a res σ' .normal φ σ:=by refine⟨.inr rfl,ks,?_⟩;unfold zJ at h;grind
def AK.Q5{P:aq}{X:Cx P}{N:Nat}{Qf:Post}{K:List It}{φ:Fr}{σ:List aP}{all rest:List au}{o:au}{m:ak}{xs:Array ak}{j:Array aj}{f:aJ}{cap:List C}{a:List D}{b σ1:List aP}{res:D}(l:Ev X f a b res σ1)(ks:List Nat)(g:o.guard=ae)(r:o.op=.call {callee:=.value m,args:=xs,argTypes:=j})(q:eG (bM φ m)=aa (f,cap))(c:mv (xs.toList.map (bM φ)++fJ cap)=fI ks a)(i:ll ks.length a=ab)(e:jJ ks σ=aa b)(n:cq b=ab)(h:cq σ1=ab)(s:dw ks=ab)(d:bu ks.length σ1.length=ab)(p:fR N o.dst=ab)(k:AK X N Qf (.ops all rest::K) .normal (kl o.dst (hZ (ks++kL σ.length (σ1.length-ks.length)) res) φ) (dH ks σ1 σ)):AK X N Qf (.ops all (o::rest)::K) .normal φ σ :=
 ib.call (λ_ _ _ _=>dC g) r q ks l c i e n h s (cV d) o.dst rfl (gA p) k
def AK.p9{P:aq}{ι:Type}{X:Cx P}{N:Nat}{Qf:Post}{K:List It}{φ:Fr}{σ:List aP}{all rest:List au}{o:au}{n:ak}{xs:Array ak}{l:Array aj}{f:aJ}{cap:List C}{a:List D}{b:List aP}{σ1:ι->List aP}{res:ι->D}(m:eb X f a b res σ1)(ks:List Nat)(g:o.guard=ae)(s:o.op=.call {callee:=.value n,args:=xs,argTypes:=l})(r:eG (bM φ n)=aa (f,cap))(c:mv (xs.toList.map (bM φ)++fJ cap)=fI ks a)(i:ll ks.length a=ab)(e:jJ ks σ=aa b)(p:cq b=ab)(h:∀j,cq (σ1 j)=ab)(t:dw ks=ab)(d:∀j,bu ks.length (σ1 j).length=ab)(q:fR N o.dst=ab)(k:∀j,AK X N Qf (.ops all rest::K) .normal (kl o.dst (hZ (ks++kL σ.length ((σ1 j).length-ks.length)) (res j)) φ) (dH ks (σ1 j) σ)):AK X N Qf (.ops all (o::rest)::K) .normal φ σ :=
 ib.PL (λ_ _ _ _=>dC g) s r ks m c i e p h t (λj=>cV (d j)) o.dst rfl (gA q) k
def AK.cQ{P:aq}{X:Cx P}{N:Nat}{Qf:Post}{K:List It}{φ:Fr}{σ:List aP}{all rest:List au}{o:au}{s:ak}{xs:Array ak}{q:Array aj}{f:aJ}{cap:List C}{n:List D}{p σ1:List aP}{res:D}(r:Ev X f n p res σ1)(ks:List Nat)(h:(o.guard,o.op,eG (bM φ s),mv (xs.toList.map (bM φ)++fJ cap),ll ks.length n,jJ ks σ,cq p,cq σ1,dw ks,bu ks.length σ1.length,fR N o.dst)=(ae,.call {callee:=.value s,args:=xs,argTypes:=q},aa (f,cap),fI ks n,ab,aa p,ab,ab,ab,ab,ab))(k:AK X N Qf (.ops all rest::K) .normal (kl o.dst (hZ (ks++kL σ.length (σ1.length-ks.length)) res) φ) (dH ks σ1 σ)):AK X N Qf (.ops all (o::rest)::K) .normal φ σ:=by simp only[lT]at h;obtain⟨a,b,c,d,e,f,g,i,j,l,m⟩:=h;exact AK.Q5 r ks a b c d e f g i j l m k
def AK.cP{P:aq}{ι:Type}{X:Cx P}{N:Nat}{Qf:Post}{K:List It}{φ:Fr}{σ:List aP}{all rest:List au}{o:au}{r:ak}{xs:Array ak}{n:Array aj}{f:aJ}{cap:List C}{i:List D}{l:List aP}{σ1:ι->List aP}{res:ι->D}(p:eb X f i l res σ1)(ks:List Nat)(h:(o.guard,o.op,eG (bM φ r),mv (xs.toList.map (bM φ)++fJ cap),ll ks.length i,jJ ks σ,cq l,dw ks,fR N o.dst)=(ae,.call {callee:=.value r,args:=xs,argTypes:=n},aa (f,cap),fI ks i,ab,aa l,ab,ab,ab))(q:∀j,(cq (σ1 j),bu ks.length (σ1 j).length)=(ab,ab))(k:∀j,AK X N Qf (.ops all rest::K) .normal (kl o.dst (hZ (ks++kL σ.length ((σ1 j).length-ks.length)) (res j)) φ) (dH ks (σ1 j) σ)):AK X N Qf (.ops all (o::rest)::K) .normal φ σ:=by simp only[lT]at h q;obtain⟨a,b,c,d,e,f,g,j,m⟩:=h;exact AK.p9 p ks a b c d e f g (λj=>(q j).1) j (λj=>(q j).2) m k
def vS:List D->List D->Option (List Prop)
 |[],[]=>aa []
 |a::al,b::bs=>match Du a b with
  |some p=>match vS al bs with
   |some q=>aa (kM p q)
   |none=>ae
  |none=>ae
 |_,_=>ae
def vg{σ:List aP}{s:St}:∀{vs:List ah}{xs ys:List D}{ps:List Prop},vS xs ys=aa ps->az ps->cg σ s vs xs->cg σ s vs ys
 |[],[],[],_,_,_,_=>trivial
 |_::_,[],_,_,_,_,h=>h.elim
 |[],_::_,_,_,_,_,h=>h.elim
 |[],[],_::_,_,h,_,_=>by simp[vS]at h
 |_::_,_::_,[],_,h,_,_=>by simp[vS]at h
 |v::vs,a::al,b::bs,ps,h,c,d=>by
  simp only[vS]at h;cases f:Du a b with
  |none=>grind
  |some p =>
   cases e:vS al bs with
   |none=>grind
   |some q =>
    simp[f,e]at h;subst h;rw[az.cat]at c;exact⟨oi f c.1 d.1,vg e c.2 d.2⟩
def AK.jK{P:aq}{ι:Type}{X:Cx P}{N:Nat}{Qf:Post}{K:List It}{φ:Fr}{σ:List aP}{all rest:List au}{o:au}{q:ak}{xs:Array ak}{n:Array aj}{f:aJ}{cap:List C}{a:List D}{b:List aP}{σ1:ι->List aP}{res:ι->D}(p:eb X f a b res σ1)(ks:List Nat)(i:o.guard=ae)(v:o.op=.call {callee:=.value q,args:=xs,argTypes:=n})(u:eG (bM φ q)=aa (f,cap)){ps:List Prop}(c:vS (xs.toList.map (bM φ)++fJ cap) (fI ks a)=aa ps)(d:az ps)(m:ll ks.length a=ab)(g:jJ ks σ=aa b)(r:cq b=ab)(l:∀j,cq (σ1 j)=ab)(w:dw ks=ab)(e:∀j,bu ks.length (σ1 j).length=ab)(t:fR N o.dst=ab)(k:∀j,AK X N Qf (.ops all rest::K) .normal (kl o.dst (hZ (ks++kL σ.length ((σ1 j).length-ks.length)) (res j)) φ) (dH ks (σ1 j) σ)):AK X N Qf (.ops all (o::rest)::K) .normal φ σ :=
 ib.Bz (λ_ _ _ _=>dC i) v u ks p (λs vs h=>vg c d h) m g r l w (λj=>cV (e j)) o.dst rfl (gA t) k
def JV{a:Act}{d:Nat}{v:ah}(h:d<a.tmps.size):(a.put (aa d) v).tmps.getD d ai=v:=by simp[Act.put,dO,vE h]
def lY{P:aq}{f:aJ}{fn:Func}{e:Array ah->Sem ah}(g:P.funcs[f]?=aa fn)(a:(fn.name== "runtime.NumGoroutine")=af)(b:fn.body.isNone=ab)(i:Extern.findNext fn=ae)(c:Extern.find fn=aa e)(args:Array ah)(h:cZ P (e args))(w:aA)(es:Array Event):
  (callFunc f args).events P w es=es.push ⟨.mark (.extern f),af,ab⟩:=by
 have j:fn.name≠ "runtime.NumGoroutine":=by grind
 have d:fn.body=ae:=by simpa using b
 simp[callFunc,g,j,d,i,c];rw[h w]
section
variable {P:aq}{X:Cx P}{N:Nat}{Qf:Post}{K:List It}{φ:Fr}{σ:List aP}{all rest:List au}{o:au}
def dT(P:aq)(N:Nat)(o:au)(φ:Fr)(σ:List aP){ι:Type}(x:ι->D)(σ':ι->List aP):Prop :=
 ∀s a,cm N σ s φ a->aF σ s->∃i b s' v,(aw a.eval o).run P s.w=.ok b s'.w/\(b=.value v∨(b=.skip/\v=ai))/\dj (σ' i) s' v (x i)/\aF (σ' i) s'/\Step σ s (σ' i) s'/\eY s ((aw a.eval o).events P s.w #[])
def AK.hand{ι:Type}(x:ι->D)(σ':ι->List aP)(A:o.guard=ae)(y:fR N o.dst=ab)(h:dT P N o φ σ x σ')(k:∀i,AK X N Qf (.ops all rest::K) .normal (kl o.dst (x i) φ) (σ' i)):AK X N Qf (.ops all (o::rest)::K) .normal φ σ:=by
 intro s a f hh b kk cs S idx hb jk hQ;cases idx with
 |nil=>exact jk.elim
 |cons j idx =>
 refine qY hb jk.1 (dC A) λu d=>?_;have c:=hh.rely d;have g:=f.rely d hh;obtain⟨i,w,s',v,h1,h2,B,n,m,p⟩:=h u a g c;have e:=m.m9 c;refine⟨w,s',v,h1,h2,⟨⟨σ,σ' i,c,n,m⟩,p⟩,?_⟩;refine k i s' _ ?_ n b kk cs S idx hb jk.2 λl σ2 s2 a2 q z h2 st=>hQ l σ2 s2 a2 q z h2 ((d.stepW.trans e).trans st);cases r:o.dst with
 |none=>exact g.mono e c.len
 |some t=>exact(g.mono e c.len).put (gA y t r) B
def AK.law{x:D}{σ':List aP}(h:bF P o (bM φ) σ x σ')(a:o.guard=ae)(b:fR N o.dst=ab)(k:AK X N Qf (.ops all rest::K) .normal (kl o.dst x φ) σ'):AK X N Qf (.ops all (o::rest)::K) .normal φ σ :=
 AK.one (.kQ (λ_ _ _ _=>dC a) h) b k
def qD(all:List au)(φ:Fr)(o:au):Bool:=match o.guard with
 |none=>ab
 |some (j,b)=>match zU φ all j with
  |some (aa ab)=>b
  |some (aa af)=>!b
  |_=>af
def fD{all:List au}{o:au}{φ:Fr}(h:qD all φ o=ab):∀σ s a,cm N σ s φ a->bd o (yielded all.toArray a.tmps)=ab:=by
 intro σ s a f;unfold qD at h;split at h
 .grind [dC]
 .rename_i j b d;split at h
  .rename_i c;simp only[bd,d,qf c f,h];rfl
  .rename_i c;simp only[bd,d,qf c f];grind
  grind
def AK.NY{m:ak}{xs:Array ak}{j:Array aj}{f:aJ}{cap:List C}{a:List D}{b σ1:List aP}{res:D}(l:Ev X f a b res σ1)(ks:List Nat)(g:qD all φ o=ab)(r:o.op=.call {callee:=.value m,args:=xs,argTypes:=j})(q:eG (bM φ m)=aa (f,cap))(c:mv (xs.toList.map (bM φ)++fJ cap)=fI ks a)(i:ll ks.length a=ab)(e:jJ ks σ=aa b)(n:cq b=ab)(h:cq σ1=ab)(s:dw ks=ab)(d:bu ks.length σ1.length=ab)(p:fR N o.dst=ab)(k:AK X N Qf (.ops all rest::K) .normal (kl o.dst (hZ (ks++kL σ.length (σ1.length-ks.length)) res) φ) (dH ks σ1 σ)):AK X N Qf (.ops all (o::rest)::K) .normal φ σ :=
 ib.call (fD g) r q ks l c i e n h s (cV d) o.dst rfl (gA p) k
end
inductive m8 where
 |nil (a:Option Addr)
 |row (b cap:Nat)
def k9(bf:m8)(n:Nat):ah:=match bf with
 |.nil a=>.slice a 0 0
 |.row b cap=>.slice (aa ⟨b,0,ae⟩) n cap
def nh(bf:m8)(n:Nat):cE (k9 bf n)=ab:=by cases bf<;>rfl
def Nr(xs:List ah):Nat->List C:=λi=>[.val (xs.getD i ai)]
section
variable {P:aq}{X:Cx P}{N:Nat}{Qf:Post}{K:List It}{φ:Fr}{σ:List aP}{all rest:List au}{o:au}
def AW.ta{ι:Type}{c:Code}{Q:Post}{φ':ι->Fr}{σ':ι->List aP}(h:∀s a,cm N σ s φ a->aF σ s->∃(i:ι)(s':St),s'.w=s.w/\cm N (σ' i) s' (φ' i) a/\aF (σ' i) s'/\Step σ s (σ' i) s')(k:∀i,AW X N c Q (φ' i) (σ' i)):AW X N c Q φ σ:=by intro s a r hh b kk cs S m l;obtain⟨i,s',n,g,d,st⟩:=h s a r hh;have f:=st.m9 hh;refine .ghost (.of hh d n f) ?_;exact k i s' a g d b kk cs S m λe j σ2 s2 a2 q p h2 mf=>l e j σ2 s2 a2 q p h2 (f.trans mf)
def AK.Ns{ι:Type}(l:Nat){H:ah->(Nat->Option Obj)->Prop}(H':ι->ah->(Nat->Option Obj)->Prop){c:Code}(hl:σ[l]?=aa (.b8 H))(h:∀v ch,H v ch->∃i,H' i v ch)(kk:∀i,AK X N Qf (.code c::K) .normal φ (σ.set l (.b8 (H' i)))):AK X N Qf (.code c::K) .normal φ σ:=by
 refine AW.ta (φ':=λ_=>φ) (σ':=λi=>σ.set l (.b8 (H' i))) (λs a m hh=>?_) kk;have g:l<σ.length:=(bY.1 hl).1;have f:l<s.β.length:=by rw[hh.len];grind
 have n:=br f;generalize s.β[l]=L at n;obtain⟨ch,q,d,k,j⟩:=hh.box l _ L hl n;obtain⟨i,hi⟩:=h _ _ q;have ex:Ext σ s (σ.set l (.b8 (H' i))) s:=by
  refine⟨λ_ _ _ h=>h,λl' B L' j0 ff=>?_⟩;by_cases e:l=l'
  .subst e;rw[hl]at j0;cases j0;exact⟨.b8 (H' i),L',by grind,ff,rfl⟩
  .exact⟨B,L',by grind,ff,.refl _ _⟩
 have st:Step σ s (σ.set l (.b8 (H' i))) s :=
  ⟨bh _,λ_ _ _=>rfl,λ_ _ _ h=>h,λ_ _ _ _=>rfl,λL h b p=>.inr ⟨L,h,p⟩,ex.box,rfl,rfl,rfl,rfl⟩
 refine⟨i,s,rfl,⟨m.size,m.defers.imp λ_ h1=>h1.mono st.ext,λu=>(m.slot u).mono st.ext hh.len⟩,⟨hh.mem,by simp[hh.len],?_,hh.eB,hh.lt,hh.own⟩,st⟩;intro l' B L' j0 ff;by_cases e:l=l'
 .subst e;rw[fU g]at j0;cases j0;rw[n]at ff;cases ff;exact⟨ch,hi,d,k,j⟩
 .rw[j6 e]at j0;exact(hh.box l' B L' j0 ff).carry ex hh.len λ_ _=>⟨rfl,λ_=>rfl⟩
end
def uK:C->Bool
 |.int _ _|.bool _|.str _|.hY|.iw|.xZ|.val _=>ab
 |_=>af
def vK:A->Bool
 |.c x=>uK x
 |.any=>ab
 |_=>af
def No:List A->Bool
 |[]=>ab
 |a::r=>match vK a with|true=>No r|false=>af
def Jd:E1->Bool
 |.one a=>vK a
 |.agg cs=>No cs
def FB:List E1->Bool
 |[]=>ab
 |a::r=>match Jd a with|true=>FB r|false=>af
def Np:D->Bool
 |.e x=>Jd x
 |.eX xs=>FB xs
 |.any=>ab
section
variable {σ σ':List aP}{s s':St}
theorem pY{M M':Mem}{v:ah}{c:C}(h:uK c=ab)(r:Rd M v c):Rd M' v c:=by
 cases r<;>first|(simp[uK]at h;done)|skip
 case int h1=>exact .int h1
 case bool=>exact .bool
 case str h1 h2=>exact .str h1 h2
 case hY=>exact .hY
 case iw=>exact .iw
 case xZ=>exact .xZ
 case val h1=>exact .val h1
def FC{v:ah}{a:A}(h:vK a=ab)(r:gn σ s v a):gn σ' s' v a:=by
 cases a with
 |c x=>exact pY h r
 |any=>exact r
 |_=>simp[vK]at h
def FD:∀{vs:List ah}{cs:List A},No cs=ab->dX σ s vs cs->dX σ' s' vs cs
 |[],[],_,_=>trivial
 |[],_::_,_,r=>r.elim
 |_::_,[],_,r=>r.elim
 |v::vs,c::cs,h,r=>by
  simp only[No]at h;cases a:vK c with
  |false=>grind
  |true=>simp only[a]at h;exact⟨FC a r.1,FD h r.2⟩
def zz{v:ah}{x:E1}(h:Jd x=ab)(r:m7 σ s v x):m7 σ' s' v x:=by
 cases x with
 |one a=>exact FC h r
 |agg cs=>obtain⟨vs,c,b⟩:=r;exact⟨vs,c,FD h b⟩
def Bq:∀{vs:List ah}{cs:List E1},FB cs=ab->gZ σ s vs cs->gZ σ' s' vs cs
 |[],[],_,_=>trivial
 |[],_::_,_,r=>r.elim
 |_::_,[],_,r=>r.elim
 |v::vs,c::cs,h,r=>by
  simp only[FB]at h;cases a:Jd c with
  |false=>grind
  |true=>simp only[a]at h;exact⟨zz a r.1,Bq h r.2⟩
def Nq{v:ah}{d:D}(h:Np d=ab)(r:dj σ s v d):dj σ' s' v d:=by
 cases d with
 |e x=>exact zz h r
 |eX xs=>obtain⟨vs,b,a⟩:=r;exact⟨vs,b,Bq h a⟩
 |any=>trivial
end
def Br:List aP->Bool
 |[]=>ab
 |.b8 _::r=>Br r
 |.dead::r=>Br r
 |_=>af
def Bt:∀{l:List aP},Br l=ab->∀B∈l,(∃H,B=.b8 H)∨B=.dead
 |[],_,B,hB=>by grind
 |b::r,h,B,hB=>by
  have a:((∃H,b=.b8 H)∨b=.dead)/\Br r=ab:=by cases b<;>simp_all[Br]
  rcases eE.1 hB with rfl|hB
  .exact a.1
  .exact Bt a.2 B hB
def gY(σ:List aP)(a:Nat)(u:ah)(k n:Nat)(es:Nat->List C):Prop :=
 ∀s,aF σ s->∃(L:Loc) (M':Mem),s.β[a]?=aa L/\(∀b o v,s.M b o=aa v->M' b o=aa v)/\(∀b,b∉L.bs->∀o,M' b o=s.M b o)/\(∀b o v,M' b o=aa v->s.w.cell? ⟨b,o,ae⟩=aa v) /\
  (∀b∈L.bs,∀o,s.M b o=ae)/\Rd M' u (.sl af k n es)
section
variable {P:aq}{X:Cx P}{N:Nat}{Qf:Post}{K:List It}{φ:Fr}{σ:List aP}{all rest:List au}{o:au}
def cg.setAt{σ:List aP}{s:St}{d:D}:∀{vs:List ah}{ds:List D}{p:Nat}{v:ah},cg σ s vs ds->vs[p]?=aa v->dj σ s v d->cg σ s vs (ds.set p d)
 |[],[],_,_,_,h,_=>by grind
 |[],_::_,_,_,h,_,_=>h.elim
 |_::_,[],_,_,h,_,_=>h.elim
 |u::vs,e::ds,0,v,h,b,a=>by simp at b;subst b;exact⟨a,h.2⟩
 |u::vs,e::ds,p+1,v,h,b,a=>⟨h.1,cg.setAt (p:=p) h.2 (by grind) a⟩
def jI(σ:List aP)(ds FE:List D):Prop :=
 ∀s vs,aF σ s->cg σ s vs ds->∃(B:Nat->Prop) (M':Mem),(∀b,B b->∃L∈s.β,b∈L.bs)/\(∀b o v,s.M b o=aa v->M' b o=aa v)/\(∀b,¬B b->∀o,M' b o=s.M b o) /\
  (∀b o v,M' b o=aa v->s.w.cell? ⟨b,o,ae⟩=aa v)/\(∀b,B b->∀o,s.M b o=ae)/\cg σ {s with M:=M'} vs FE
def jI.refl(σ:List aP)(ds:List D):jI σ ds ds:=λs vs hh hr=>⟨λ_=>False,s.M,λ_ h=>h.elim,λ_ _ _ h=>h,λ_ _ _=>rfl,hh.mem,λ_ h=>h.elim,hr⟩
def jI.step{σ:List aP}{ds FE:List D}(h:jI σ ds FE)(p q:Nat){u:ah}{k n:Nat}{es:Nat->List C}(r:FE[p]?=aa (.e (.one (.v u))))(hl:gY σ q u k n es):jI σ ds (FE.set p (.e (.one (.c (.sl af k n es))))):=by
 classical
 intro s vs hh hr;obtain⟨B,M1,G,y,E,A,H,m⟩:=h s vs hh hr;obtain⟨L,a,j,J,F,I,z,w⟩:=hl s hh;have h1:∀b o v,M1 b o=aa v->(M1 b o).or (a b o)=aa v:=λb o v d=>by grind
 have h2:∀b o v,a b o=aa v->(M1 b o).or (a b o)=aa v:=λb o v d=>by
  cases e:M1 b o with
  |none=>grind
  |some v' =>
   grind
 refine⟨λb=>B b∨b∈L.bs,λb o=>(M1 b o).or (a b o),?_,λb o v d=>h1 b o v (y b o v d),?_,?_,?_,?_⟩
 .grind
 .grind
 .intro b o v d;cases e:M1 b o with
  |none=>grind
  |some v'=>grind
 .grind
 .have e1:Ext σ {s with M:=M1} σ {s with M:=λb o=>(M1 b o).or (a b o)}:=⟨h1,λl B L hB j=>⟨B,L,hB,j,.refl _ _⟩⟩
  have x:=m.mono e1 hh.len;obtain⟨t,i⟩:=cg.get m;have f:p<vs.length:=by grind
  have g:vs[p]?=aa u:=by have:=i p;rw[r,br f]at this;have:=Rd.dZ (show Rd M1 vs[p] (.val u)from this);grind
  exact x.setAt g (show dj σ {s with M:=λb o=>(M1 b o).or (a b o)} u (.e (.one (.c (.sl af k n es))))from Rd.mono h2 w)
end
def fQ(E:aj)(k:Nat)(bf:m8)(n:Nat)(xs:List ah):ah->(Nat->Option Obj)->Prop:=λv a=>v=.nilFunc/\(∀x∈xs,cE x=ab)/\xs.length=n*k/\match bf with
 |.nil _=>n=0/\a=λ_=>ae
 |.row b cap=>n<=cap/\cap<=9223372036854775807/\∃c,(xs++c).length=cap*k/\a=λd=>if d=b then aa (.cells (xs++c).toArray E (0,0))else ae
def tb(k:Nat)(xs:List ah):Nat->List C:=λi=>((xs.drop (i*k)).take k).map .val
def Bu{k n i:Nat}{xs:List ah}(a:xs.length=n*k)(hi:i<n):(tb k xs i).length=k:=by
 have:i*k+k<=n*k:=by rw[<-lj];exact eC _ hi
 simp[tb,a];omega
def Bv{k i j:Nat}{xs:List ah}{c:C}(h:(tb k xs i)[j]?=aa c):∃u,xs[i*k+j]?=aa u/\c=.val u:=by simp only[tb,mU,iL,oU]at h;grind
def fQ.lookup{E:aj}{k b cap n:Nat}{xs:List ah}{v:ah}{ch:Nat->Option Obj}(h:fQ E k (.row b cap) n xs v ch):∃a,(xs++a).length=cap*k/\ch b=aa (.cells (xs++a).toArray E (0,0))/\∀c,(ch c).isSome=ab↔c=b:=by obtain⟨_,_,_,_,_,a,h1,h2⟩:=h;grind
def Rd.Uj{M:Mem}{b cap k n:Nat}{xs:List ah}(d:∀x∈xs,cE x=ab)(hl:xs.length=n*k)(f:n<=cap)(e:cap<=9223372036854775807)(h:∀o,M b o=xs[o]?):Rd M (.slice (aa ⟨b,0,ae⟩) n cap) (.sl af k n (tb k xs)):=by refine Rd.qN (M:=M) (k:=k) (n:=n) (es:=tb k xs) (vs:=xs) (a:=aa ⟨b,0,ae⟩) (b:=b) (off:=0) (cap:=cap) (t:=af) ⟨hl,λi hi=>Bu hl hi,λi hi j c hj=>?_⟩ (λ_=>rfl) f e (by simp) (λp u g=>by grind);obtain⟨u,h1,rfl⟩:=Bv hj;exact⟨u,h1,.val (d u (bH h1))⟩
section
variable {P:aq}{X:Cx P}{N:Nat}{Qf:Post}{K:List It}{φ:Fr}{σ:List aP}{all rest:List au}{o:au}
def fQ.Bw{E:aj}{k n f:Nat}{bf:m8}{xs:List ah}(hl:σ[f]?=aa (.b8 (fQ E k bf n xs)))(es:Nat->List C)(l:∀i,i<n->(es i).length=k/\∀M j c x,(es i)[j]?=aa c->xs[i*k+j]?=aa x->Rd M x c):gY σ f (k9 bf n) k n es:=by
 intro s hh;have I:f<σ.length:=(bY.1 hl).1;have m:f<s.β.length:=by rw[hh.len];grind
 have z:=br m;generalize s.β[f]=L at z;obtain⟨ch,H,d,B,e⟩:=hh.box f _ L hl z;cases bf with
 |nil a0 =>
  obtain⟨_,_,_,rfl,_⟩:=H;exact⟨L,s.M,z,λ_ _ _ h=>h,λ_ _ _=>rfl,hh.mem,e,Rd.jF⟩
 |row b cap =>
  obtain⟨U,O,w,J⟩:=H.lookup;obtain⟨R,G,r,y,A,_⟩:=H;have D:b∈L.bs:=(B b).2 (by grind)
  have g:=d b _ w;obtain⟨c1,c2⟩:=hh.zu (b:=b) (vs:=xs) (e b D) (λo v V=>by
   simp only[aV,g]
   grind)
  refine⟨L,λF o=>if F=b then xs[o]? else s.M F o,z,c2,λF Q o=>aZ (by grind),c1.mem,e,?_⟩;refine Rd.qN (k:=k) (n:=n) (es:=es) (vs:=xs) (a:=aa ⟨b,0,ae⟩) (b:=b) (off:=0) (cap:=cap) (t:=af) ⟨r,λi hi=>(l i hi).1,λi hi j c hj=>?_⟩ (λ_=>rfl) y A (by simp) (λp u T=>by grind);have S:j<k:=by grind
  have q:i*k+j<xs.length:=by
   rw[r];have:i*k+k<=n*k:=by rw[<-lj];exact eC _ hi
   omega
  exact⟨xs[i*k+j],br q,(l i hi).2 _ j c _ hj (br q)⟩
def dT.oe{k:Nat}{x y:ak}{E:aj}{Y:TI}(h:lz P o x y E Y)(hs:Y.size=k){l:Nat}{bf:m8}{xs:List ah}{n:Nat}(hx:bM φ x=.e (.one (.v (k9 bf n))))(hl:σ[l]?=aa (.b8 (fQ E k bf n xs))){tx:Bool}{es':Nat->List C}(hy:bM φ y=.e (.one (.c (.sl tx k 1 es')))){xv:List ah}(hxv:xv.length=k)(hcx:∀(M:Mem) (v:ah) (j:Nat) (c:C),(es' 0)[j]?=aa c->Rd M v c->xv[j]?=aa v/\cE v=ab)(V:(n+1)*Y.bytes<=140737488355328):
  dT P N o φ σ (λO:m8=>.e (.one (.v (k9 O (n+1))))) λO=>σ.set l (.b8 (fQ E k O (n+1) (xs++xv))):=by
 intro s a hf hh;obtain⟨t,t2,i,i2,ho,hi,D,F,B⟩:=h.op;have QT:l<σ.length:=(bY.1 hl).1;have QU:l<s.β.length:=by rw[hh.len];grind
 have hL:=br QU;generalize s.β[l]=L at hL;obtain⟨ch,Z,J,T8,W0⟩:=hh.box l _ L hl hL;have U:=bH hL;have I:=cX hf x;rw[hx]at I;have I:=Rd.dZ I;have hw:=cX hf y;rw[hy]at hw;have hw:=eT hw;have S:=Z.2.1;have Q:=Z.2.2.1;have nM:∀b,s.w.heap.size<=b->∀o,s.M b o=ae:=λb V o=>by
  cases hm:s.M b o with
  |none=>rfl
  |some v=>have:=hh.block hm;omega
 have mk:∀(M':Mem) (a0:Option Addr) (cap:Nat),k9 bf n=.slice a0 n cap->cap<n+1->aF (σ.map λ_=>.dead) {s with M:=M'}->(∀f o v,s.M f o=aa v->M' f o=aa v) ->
   Rd M' (.slice a0 n cap) (.sl af k n (tb k xs))->(∀{es},eY {s with M:=M'} es->eY s es) ->
   ∃i nx s' v,(aw a.eval o).run P s.w=.ok nx s'.w/\(nx=.value v∨(nx=.skip/\v=ai))/\dj (σ.set l (.b8 (fQ E k i (n+1) (xs++xv)))) s' v (.e (.one (.v (k9 i (n+1)))))/\aF (σ.set l (.b8 (fQ E k i (n+1) (xs++xv)))) s'/\Step σ s (σ.set l (.b8 (fQ E k i (n+1) (xs++xv)))) s'/\eY s ((aw a.eval o).events P s.w #[]):=by
  intro M' a0 cap hsl DI Ja hMM hR W1;have H:Rd ({s with M:=M'}:St).M (a.eval y) (.sl tx Y.size 1 es'):=by rw[hs];exact hw.mono hMM
  have ZX:Rd ({s with M:=M'}:St).M (.slice a0 n cap) (.sl af Y.size n (tb k xs)):=by grind
  obtain⟨vs,g,r,A,f2,f3,f4,f5⟩:=iu (P:=P) (s:={s with M:=M'}) (ty:=o.type) hi D F B h.elem Ja ZX H DI V h.bytes;have f6:=iV (P:=P) (s:={s with M:=M'}) (ty:=o.type) hi D F B h.elem Ja ZX H DI V h.bytes;rw[hs]at A f4;have PK:vs.length=(n+1)*k:=A.len;have IM:xs.length+k=(n+1)*k:=by grind
  have XF:0<k:=by have:=h.size;omega
  have TD:∀j,j<k->∃v,vs[n*k+j]?=aa v/\xv[j]?=aa v/\cE v=ab:=λj hj=>by
   have Q0:=A.width n (by omega);have hwn:cC n (tb k xs) es' n=es' 0:=by simp[cC]
   rw[hwn]at Q0;obtain⟨v,v1,v2⟩:=A.rd n (by omega) j ((es' 0)[j]'(by omega)) (by grind);grind
  have TE:vs=xs++xv:=by
   apply iM;intro q;by_cases e:q<xs.length
   .have hi:q / k<n:=pL (by grind);have XC:q / k*k+q % k=q:=pQ q k;have hwl:=Bu (k:=k) Q hi;have hap:cC n (tb k xs) es' (q / k)=tb k xs (q / k):=by simp[cC,hi]
    have hjl:q % k<(tb k xs (q / k)).length:=by rw[hwl];exact j9 _ XF
    obtain⟨v,v1,v2⟩:=A.rd (q / k) (by omega) (q % k) ((tb k xs (q / k))[q % k]) (by grind);obtain⟨u,u1,u2⟩:=Bv (br hjl);grind[Rd.dZ]
   grind
  subst TE;have XG:∀x∈xv,cE x=ab:=λx hx=>by grind[List.getElem_of_mem]
  let w':aA:=s.w.drew.alloc (.cells (xs++xv++g).toArray E);have Nm:w'.heap[s.w.heap.size]?=aa (.cells (xs++xv++g).toArray E (0,0)):=dG s.w.drew _;have Nh:w'.heap.size=s.w.heap.size+1:=by show(s.w.drew.heap.push _).size=_;simp
  obtain⟨t1,T⟩:=hh.jv (l:=l) (H':=fQ E k (.row s.w.heap.size r) (n+1) (xs++xv)) (L':=⟨L.v,[s.w.heap.size]⟩) (w':=w') hl hL rfl (by omega)
   (λb V _=>cJ s.w.drew _ V) (λb V=>by grind)
   ⟨λf=>if f=s.w.heap.size then aa (.cells (xs++xv++g).toArray E (0,0))else ae,⟨Z.1,λx hx=>by
    grind,by grind,f2,f3,g,by rw[f4],rfl⟩,λb o V=>by grind,λb=>by by_cases e:b=s.w.heap.size<;>simp[e]⟩ rfl rfl rfl
  refine⟨.row s.w.heap.size r,.value (.slice (aa ⟨s.w.heap.size,0,ae⟩) (n+1) r),_,_,?_,.inl rfl,Rd.val rfl,t1,T,?_⟩
  .rw[de ho,I,hsl];simp only[bL,dn];have f5':(Builtin.append_ #[t,t2] o.type #[.slice a0 n cap,a.eval y]).run P s.w=_:=f5;rw[f5'];rfl
  grind[de,eH]
 cases bf with
 |nil a0 =>
  obtain⟨_,_,_,rfl,_⟩:=Z;refine mk s.M a0 0 rfl (by simp) (by have:=hh.lI;exact⟨this.mem,this.len,this.box,this.eB,this.lt,this.own⟩) (λ_ _ _ h=>h) Rd.jF (λh=>h)
 |row b cap =>
  obtain⟨g,W2,Q1,Q2⟩:=Z.lookup;obtain⟨QV,_,_,DI,Nd,_⟩:=Z;have G:b∈L.bs:=(T8 b).2 (by grind);have m:=J b _ Q1;have ZY:=W0 b G;have XH:b<s.w.heap.size:=hh.lt L U b G;have PI:∀o v,xs[o]?=aa v->s.w.cell? ⟨b,o,ae⟩=aa v:=by intro o v ho;simp only[aV,m];grind
  obtain⟨c1,c2⟩:=hh.zu (b:=b) (vs:=xs) ZY PI;have W1:∀{es:Array Event},eY {s with M:=λf o=>if f=b then xs[o]? else s.M f o} es->eY s es:=λhe =>
   he.vH (b:=b) U G c2 λf o v I=>by grind
  have hR:=Rd.Uj (M:=λf o=>if f=b then xs[o]? else s.M f o) (b:=b) (cap:=cap) (xs:=xs) S Q DI Nd (λo=>by simp);by_cases p:n+1<=cap
  .have H:Rd ({s with M:=λf o=>if f=b then xs[o]? else s.M f o}:St).M (a.eval y) (.sl tx Y.size 1 es'):=by rw[hs];exact hw.mono c2
   obtain⟨d,A,f2⟩:=kg (P:=P) (s:={s with M:=λf o=>if f=b then xs[o]? else s.M f o}) (ty:=o.type) (n:=n) (b:=b) (cap:=cap) hi D F B h.elem c1 m (by grind) H p;have f6:=lU (P:=P) (s:=s) (ty:=o.type) (n:=n) (b:=b) (cap:=cap) hi D F B h.elem hh m (by grind) (x:=a.eval y) (tx:=tx) (es':=es') (by grind) p U G (λo _=>ZY o);rw[hs]at A f2;have T5:d.length=k:=by have:=A.len;omega
   have hw0:=A.width 0 (by omega);have TD:∀j,j<k->∃v,d[j]?=aa v/\xv[j]?=aa v/\cE v=ab:=λj hj=>by obtain⟨v,v1,v2⟩:=A.rd 0 (by omega) j ((es' 0)[j]'(by omega)) (br (by omega));grind
   have R:d=xv:=by apply iM;grind
   subst R;have XG:∀x∈d,cE x=ab:=λx hx=>by grind[List.getElem_of_mem]
   have hfk:n*k+k<=cap*k:=by rw[<-lj];exact eC _ p
   have hzk:k<=g.length:=by grind
   have W:((xs++g).take (n*k)++d++(xs++g).drop (n*k+d.length))=xs++d++g.drop k:=by rw[<-Q,T5];simp[List.drop_append]
   rw[W]at f2;have QR:(s.w.setRow b (xs++d++g.drop k).toArray).heap[b]?=aa (.cells (xs++d++g.drop k).toArray E (0,0)):=setRow_heap s.w b _ _ E _ m;have DJ:∀f,f≠b->(s.w.setRow b (xs++d++g.drop k).toArray).heap[f]?=s.w.heap[f]?:=λf z=>setRow_other s.w b f _ z;obtain⟨t1,T⟩:=hh.jv (l:=l) (H':=fQ E k (.row b cap) (n+1) (xs++d)) (L':=L) (w':=s.w.setRow b (xs++d++g.drop k).toArray) hl hL rfl (by simp)
    (λf z hn=>DJ f (by grind)) (λf z=>.inl z)
    ⟨λf=>if f=b then aa (.cells (xs++d++g.drop k).toArray E (0,0))else ae,⟨QV,λx hx=>by
     grind,by grind,p,Nd,g.drop k,by grind,rfl⟩,λf o z=>by
     grind,λf=>by grind⟩ rfl rfl rfl
   refine⟨.row b cap,.value (.slice (aa ⟨b,0,ae⟩) (n+1) cap),_,_,?_,.inl rfl,Rd.val rfl,t1,T,?_⟩
   .rw[de ho,I];simp only[bL,dn,k9];have f2':(Builtin.append_ #[t,t2] o.type #[.slice (aa ⟨b,0,ae⟩) n cap,a.eval y]).run P s.w=_:=f2;rw[f2'];rfl
   .rw[de ho,I];exact eH f6
  .exact mk _ (aa ⟨b,0,ae⟩) cap rfl (by omega) c1 c2 hR W1
def AK.oe{k:Nat}{x y:ak}{E:aj}{f:TI}(h:lz P o x y E f)(s:f.size=k){d:Nat}(m:o.dst=aa d)(t:o.guard=ae)(r:fR N o.dst=ab){l:Nat}{bf:m8}{xs:List ah}{n:Nat}(i:bM φ x=.e (.one (.v (k9 bf n))))(hl:σ[l]?=aa (.b8 (fQ E k bf n xs))){tx:Bool}{es':Nat->List C}(q:bM φ y=.e (.one (.c (.sl tx k 1 es')))){xv:List ah}(g:xv.length=k)(b:∀(M:Mem) (v:ah) (j:Nat) (c:C),(es' 0)[j]?=aa c->Rd M v c->xv[j]?=aa v/\cE v=ab)(p:(n+1)*f.bytes<=140737488355328)(kk:∀a:m8,AK X N Qf (.ops all rest::K) .normal ((d,.e (.one (.v (k9 a (n+1)))))::φ) (σ.set l (.b8 (fQ E k a (n+1) (xs++xv))))):AK X N Qf (.ops all (o::rest)::K) .normal φ σ :=
 AK.hand (ι:=m8) (λa=>.e (.one (.v (k9 a (n+1))))) (λa=>σ.set l (.b8 (fQ E k a (n+1) (xs++xv)))) t r (.oe h s i hl q g b p) λa=>by rw[m];exact kk a
def AK.Nt(t:Nat)(E:aj)(k:Nat){l:Nat}{es:Nat->List C}{c:Code}(m:look φ t=.e (.one (.c (.sl ab l 0 es))))(kk:∀bf:m8,AK X N Qf (.code c::K) .normal ((t,.e (.one (.v (k9 bf 0))))::φ) (σ++[.b8 (fQ E k bf 0 [])])):AK X N Qf (.code c::K) .normal φ σ:=by
 refine AW.ta (λs a d hh=>?_) kk;have g:=d.slot t;rw[m]at g;obtain⟨a0,cap,vs,h,_,_,b,_,_⟩:=(eT g).flat;have b:=b rfl;subst b;obtain⟨j,f⟩:=hh.hO (B:=.b8 (fQ E k (.nil a0) 0 [])) (L:=⟨.nilFunc,[]⟩) (.refl _ _) rfl hh ⟨λ_=>ae,⟨rfl,by simp,by simp,rfl,rfl⟩,by simp,by simp,by simp⟩ (by simp);refine⟨.nil a0,{s with β:=s.β++[⟨.nilFunc,[]⟩]},rfl,⟨d.size,d.defers.imp λ_ h1=>h1.mono f.ext,λu=>?_⟩,j,f⟩;simp only[look];cases i:aB t u with
 |false=>exact(d.slot u).mono f.ext hh.len
 |true =>
  have e:=bP i;subst e;show Rd _ _ _;rw[h];exact Rd.val rfl
def AK.vL(t l:Nat){E:aj}{k n:Nat}{bf:m8}{xs:List ah}(es:Nat->List C){c:Code}(D:look φ t=.e (.one (.v (k9 bf n))))(hl:σ[l]?=aa (.b8 (fQ E k bf n xs)))(m:∀i,i<n->(es i).length=k/\∀M j c x,(es i)[j]?=aa c->xs[i*k+j]?=aa x->Rd M x c)(kk:AK X N Qf (.code c::K) .normal ((t,.e (.one (.c (.sl af k n es))))::φ) (σ.set l .dead)):AK X N Qf (.code c::K) .normal φ σ:=by
 refine AK.ghost (λs a g hh=>?_) kk;obtain⟨L,M',w,p,q,z,H,F⟩:=fQ.Bw hl es m s hh;have f:l<σ.length:=(bY.1 hl).1;have r:=g.slot t;rw[D]at r;have G:=Rd.dZ r;have ex:Ext σ s (σ.set l .dead) {s with M:=M'}:=by
  refine⟨p,λl' B L' j0 ff=>?_⟩;by_cases e:l=l'
  .subst e;rw[hl]at j0;cases j0;exact⟨.dead,L',by grind,ff,rfl⟩
  .exact⟨B,L',by grind,ff,.refl _ _⟩
 have st:Step σ s (σ.set l .dead) {s with M:=M'}:=by refine⟨bh _,λ_ _ _=>rfl,p,λb _ y o=>q b (y L (bH w)) o,λL h b d=>.inr ⟨L,h,d⟩,ex.box,rfl,rfl,rfl,rfl⟩
 refine⟨{s with M:=M'},rfl,⟨g.size,g.defers.imp λ_ h1=>h1.mono st.ext,λu=>?_⟩,⟨z,by simp[hh.len],?_,hh.eB,hh.lt,hh.own⟩,st⟩
 .simp only[look];cases d:aB t u with
  |false=>exact(g.slot u).mono st.ext hh.len
  |true =>
   have e:=bP d;subst e;show Rd _ _ _;grind
 .intro l' B L' j0 ff;by_cases e:l=l'
  .subst e;rw[fU f]at j0;cases j0;trivial
  .rw[j6 e]at j0;exact(hh.box l' B L' j0 ff).carry ex hh.len λb d=>⟨rfl,q b λA=>e (hh.eB l l' L L' w ff b A d)⟩
end
structure gi(k n:Nat)(es:Nat->List C)(xs:List ah):Prop where
 len:xs.length=n*k
 wid:∀i,i<n->(es i).length=k
 at':∀i,i<n->∀j c,(es i)[j]?=aa c->∃x,xs[i*k+j]?=aa x/\∀M,Rd M x c
def gi.rd{k n:Nat}{es:Nat->List C}{xs:List ah}(h:gi k n es xs):∀i,i<n->(es i).length=k/\∀M j c x,(es i)[j]?=aa c->xs[i*k+j]?=aa x->Rd M x c:=λi hi =>
 ⟨h.wid i hi,λM j c x hj hx=>by obtain⟨y,h1,h2⟩:=h.at' i hi j c hj;grind⟩
def Qc(v:ah):A->A
 |.vec 0 _ _ _=>.v v
 |a=>a
def Kl(v:ah):E1->E1
 |.one a=>.one (Qc v a)
 |e=>e
def Eh(v:ah):List E1->List E1
 |[]=>[]
 |a::r=>Kl v a::Eh v r
def Qd(v:ah):D->D
 |.e x=>.e (Kl v x)
 |.eX xs=>.eX (Eh v xs)
 |.any=>.any
def mH(n:Nat):A->Bool
 |.vec 0 _ b _=>aB b n
 |a=>vK a
def ql(n:Nat):E1->Bool
 |.one a=>mH n a
 |e=>Jd e
def pw(n:Nat):List E1->Bool
 |[]=>ab
 |a::r=>match ql n a with|true=>pw n r|false=>af
def vo(n:Nat):D->Bool
 |.e x=>ql n x
 |.eX xs=>pw n xs
 |.any=>ab
section
variable {σ':List aP}{s s':St}{E:aj}{k n:Nat}{es:Nat->List C}{L:Loc}
def Km(i:s.β[0]?=aa L){v:ah}{a:A}(h:mH n a=ab)(r:gn [aP.vec E k n es] s v a):gn σ' s' v (Qc L.v a):=by
 cases a with
 |c x=>exact pY h r
 |any=>exact r
 |vec l k' n' es' =>
  cases l with
  |zero =>
   obtain⟨g,_,b⟩:=r;have b:=b E k n es rfl;have e:=bP h;obtain⟨L',f,d⟩:=b.2 e.symm;rw[i]at f;cases f;show Rd _ _ _;rw[d];exact .val (d▸g.cell)
  |succ l=>simp[mH,vK]at h
 |ptr=>simp[mH,vK]at h
 |ref=>simp[mH,vK]at h
 |bp=>simp[mH,vK]at h
def Ca(b:s.β[0]?=aa L){v:ah}{x:E1}(h:ql n x=ab)(r:m7 [aP.vec E k n es] s v x):m7 σ' s' v (Kl L.v x):=by
 cases x with
 |one a=>exact Km b h r
 |agg cs=>exact zz (x:=.agg cs) h r
def yE(a:s.β[0]?=aa L):∀{vs:List ah}{cs:List E1},pw n cs=ab->gZ [aP.vec E k n es] s vs cs->gZ σ' s' vs (Eh L.v cs)
 |[],[],_,_=>trivial
 |[],_::_,_,r=>r.elim
 |_::_,[],_,r=>r.elim
 |v::vs,c::cs,h,r=>by
  simp only[pw]at h;cases b:ql n c with
  |false=>grind
  |true=>simp only[b]at h;exact⟨Ca a b r.1,yE a h r.2⟩
def Cb(a:s.β[0]?=aa L){v:ah}{d:D}(h:vo n d=ab)(r:dj [aP.vec E k n es] s v d):dj σ' s' v (Qd L.v d):=by
 cases d with
 |e x=>exact Ca a h r
 |eX xs=>obtain⟨vs,c,b⟩:=r;exact⟨vs,c,yE a h b⟩
 |any=>trivial
end
def vp:List ResultVar->Bool
 |[]=>ab
 |.tmp _::r=>vp r
 |.cell _ _::_=>af
def uq{P:aq}{a:Act}:∀{rs:List ResultVar},vp rs=ab->∃vs,(∀w,(rs.mapM (ga a)).run P w=Result.ok vs w)/\cZ P (rs.mapM (ga a))
 |[],_=>⟨[],by simp,by rw[List.mapM_nil];exact .pure⟩
 |.tmp t::r,h=>by
  obtain⟨vs,c,b⟩:=uq (P:=P) (a:=a) (rs:=r) h;refine⟨a.tmps.getD t ai::vs,λw=>?_,?_⟩
  .simp only[n3,bL,ga,dn,bU,c]
  .rw[n3];exact .bind .pure λ_=>.bind b λ_=>.pure
def uI.tmp{P:aq}{f:aJ}{fn:Func}{fr:aR}{v:ah}{s s':St}(h:uI P f fr v s)(x:P.funcs[f]?=aa fn)(q:vp fn.results.toList=ab)(l:∀b o u,s.M b o=aa u->s.w.cell? ⟨b,o,ae⟩=aa u):uI P f fr v s':=by
 obtain⟨h1,h2,t,j,c,g,i⟩:=h;have e:c=fn:=by grind
 subst e;let a:Act:={tmps:=fr.tmps,defers:=[]}
 obtain⟨vs,k1,p⟩:=uq (P:=P) (a:=a) q;have e1:∀w,(c.results.mapM (ga a)).run P w=Result.ok vs.toArray w:=λw=>by grind[Array.mapM_eq_mapM_toList,Sem.run_map,Go.Result.andThen_ok]
 have e2:∀w,(results c fr.tmps).run P w=.ok (if h:vs.toArray.size=1 then vs.toArray[0]else .tuple vs.toArray) w:=λw=>by unfold results;rw[bL];refine(dA (λr=>Result.andThen r _) (e1 w)).trans ?_;simp
 have e3:cZ P (results c fr.tmps):=by
  unfold results;have e:cZ P (c.results.mapM (ga a)):=by rw[qK];exact .map p
  exact .bind e λ_=>.pure
 have d:=(i s.w l).1;rw[e2]at d;cases d;exact⟨h1,h2,t,j,c,g,λw _=>⟨e2 w,λe m=>by rw[e3 w #[]]at m;grind⟩⟩
def Ev.thaw{P:aq}{X:Cx P}[X.gY]{f:aJ}{args:List D}{res:D}{E:aj}{k n:Nat}{es:Nat->List C}(h:Ev X f args [] res [.vec E k n es]){fn:Func}(hf:P.funcs[f]?=aa fn)(ht:vp fn.results.toList=ab)(N:vo n res=ab)(J:∀i,i<n->(es i).length=k/\∀c∈es i,uK c=ab):
  eb (ι:={q:m8×List ah // gi k n es q.2}) X f args [] (λq=>Qd (k9 q.1.1 n) res) (λq=>[.b8 (fQ E k q.1.1 n q.1.2)]):=by
 refine⟨h.1,λs vs hr hh S cs hS=>h.2 s vs hr hh S cs λfr v s' hl mh iX st=>?_⟩;have hβ0:s.β=[]:=jf hh.len;have hlen:s'.β.length=1:=iX.len;obtain⟨L,T⟩:∃L,s'.β=[L]:=by
  match hq:s'.β with
  |[L]=>grind
  |[]=>grind
  |_::_::_=>grind
 have hL:s'.β[0]?=aa L:=by grind
 obtain⟨WZ,Z7⟩:=iX.box 0 _ L rfl hL;rcases Z7 with⟨⟨T8,XA⟩,t⟩|⟨b,cap,cells,Uu,G,IM,Z⟩
 .subst XA;obtain⟨a,cap,vs0,hv,DI,Nd,U,_⟩:=t.flat;have H:cap=0:=U rfl;subst H;let y:St:={s' with β:=[⟨.nilFunc,[]⟩]}
  have hg:eu s' y:=⟨rfl,λ_ _ _ h=>h,λ_ _ _=>rfl,iX.mem,λb hb=>by grind⟩
  have z:gi k 0 es []:=⟨by simp,λi hi=>by omega,λi hi=>by omega⟩
  refine .ghost hg (hS ⟨(.nil a,[]),z⟩ fr v y (hl.tmp hf ht iX.mem) ?_ ?_ ?_)
  .have:=Cb (σ':=[aP.b8 (fQ E k (.nil a) 0 [])]) (s':=y) hL N mh;rw[hv]at this;exact this
  .refine⟨iX.mem,rfl,λl B L' hB ff=>?_,?_,by grind,λb hb=>⟨(iX.own b hb).1,by grind⟩⟩
   .cases l with
    |zero=>cases hB;cases ff;exact⟨λ_=>ae,⟨rfl,by simp,by simp,rfl,rfl⟩,by simp,by simp,by simp⟩
    |succ l=>grind
   grind
  .refine⟨st.size,st.fe,st.mem,st.iU,λL' ff b hb=>?_,λl B L' hB=>by grind,st.os,st.tape,st.output,st.own⟩;grind
 .subst Uu;have K:b∈(⟨.slice (aa ⟨b,0,ae⟩) n cap,[b]⟩:Loc).bs:=by simp
  have W:s.w.heap.size<=b:=by
   rcases st.vb _ (by grind) b K with h1|⟨L0,h1,_⟩
   .exact h1
   grind
  have XH:b<s'.w.heap.size:=iX.lt _ (by grind) b K;obtain⟨a1,ads,m,hv1,r,R,_,hF,hm⟩:=WZ.flat;cases hv1;have O:m.length=n*k:=hF.len;have adu:∀p u,m[p]?=aa u->cells[p]?=aa u:=λp u hp=>by obtain⟨b1,adv,e,hm1⟩:=hm p u hp;cases e;have:=iX.mem _ _ _ hm1;simp only[aV,G]at this;simpa using this
  have hnk:n*k<=cells.length:=by rw[IM];exact eC _ r
  have P6:cells.take (n*k)=m:=by apply iM;grind
  have QS:m++cells.drop (n*k)=cells:=by grind[List.take_append_drop]
  have z:gi k n es m:=by refine⟨O,λi hi=>(J i hi).1,λi hi j c hj=>?_⟩;obtain⟨u,u1,u2⟩:=hF.rd i hi j c hj;grind[pY]
  have I:∀x∈m,cE x=ab:=λx hx=>by
   obtain⟨p,hp,rfl⟩:=dM hx;have hk:0<k:=by grind
   have hi:p / k<n:=pL (by grind);have V:p / k*k+p % k=p:=pQ p k;have hj:p % k<(es (p / k)).length:=by rw[(J _ hi).1];exact j9 _ hk
   obtain⟨u,u1,u2⟩:=z.at' _ hi _ _ (br hj);rw[V,br hp]at u1;cases u1;exact(u2 s.M).cell
  have F:∀d o v',s.M d o=aa v'->d≠b:=λd o v' hm' e=>by have:=hh.block hm';omega
  let Q:Mem:=λd o=>if d=b then ae else s'.M d o;let s1:St:={s' with β:=[],own:=λx=>s'.own x∨x=b}
  let s2:St:={s1 with M:=Q}
  let y:St:={s' with β:=[⟨.nilFunc,[b]⟩],M:=Q}
  have A:∀d o v',Q d o=aa v'->s'.M d o=aa v':=λd o v' h'=>by grind
  have Y:eu s' s1:=⟨rfl,λ_ _ _ h=>h,λ_ _ _=>rfl,iX.mem,λd g=>by
   rcases g with(g|g)|⟨L',ff,_⟩
   .grind
   .exact .inr ⟨_,by rw[T];simp;rfl,by grind⟩
   grind⟩
  have W6:mV s1 s2:=⟨rfl,rfl,rfl,A,λd o v' h'=>by grind⟩
  have hg3:eu s2 y:=⟨rfl,λ_ _ _ h=>h,λ_ _ _=>rfl,λd o v' h'=>iX.mem _ _ _ (A _ _ _ h'),λd g=>by grind⟩
  refine .ghost Y (.forget Cx.gY.ok W6 (.ghost hg3 (hS ⟨(.row b cap,m),z⟩ fr v y (hl.tmp hf ht iX.mem) ?_ ?_ ?_)))
  .exact Cb (L:=⟨.slice (aa ⟨b,0,ae⟩) n cap,[b]⟩) hL N mh
  .refine⟨λd o v' h'=>iX.mem _ _ _ (A _ _ _ h'),rfl,λl B L' hB ff=>?_,?_,λL' ff d g=>?_,λd g=>⟨(iX.own d g).1,λL' ff=>?_⟩⟩
   .cases l with
    |zero =>
     cases hB;cases ff;refine⟨λd=>if d=b then aa (.cells (m++cells.drop (n*k)).toArray E (0,0))else ae,⟨rfl,I,O,r,R,cells.drop (n*k),?_,rfl⟩,λd o g=>?_,λd=>?_,λd g o=>?_⟩
     .grind
     .grind
     .by_cases e:d=b<;>simp[e]
     grind
    |succ l=>grind
   .grind
   .grind
   .simp[y]at ff;subst ff;have:=(iX.own d g).2 _ (by rw[T];simp;rfl);grind
  .refine⟨st.size,st.fe,λd o v' h'=>?_,λd g hn o=>?_,λL' ff d g=>?_,λl B L' hB=>by grind,st.os,st.tape,st.output,st.own⟩
   .simp only[y,Q,aZ (F d o v' h')];exact st.mem _ _ _ h'
   .have:d≠b:=by omega
    simp only[y,Q,aZ this];exact st.iU d g hn o
   grind
section
variable {P:aq}{X:Cx P}{N:Nat}{Qf:Post}{K:List It}{φ:Fr}{σ:List aP}{all rest:List au}{o:au}
def AK.fact{p:Prop}(h:∀s,aF σ s->p){c:Code}(k:p->AK X N Qf (.code c::K) .normal φ σ):AK X N Qf (.code c::K) .normal φ σ :=
 λs a b hh=>k (h s hh) s a b hh
def AK.Je{p:Prop}(h:∀s,aF σ s->p)(k:p->AK X N Qf (.ops all rest::K) .normal φ σ):AK X N Qf (.ops all rest::K) .normal φ σ :=
 λs a b hh=>k (h s hh) s a b hh
def fQ.len{E:aj}{k n l:Nat}{bf:m8}{xs:List ah}(hl:σ[l]?=aa (.b8 (fQ E k bf n xs)))(s:St)(hh:aF σ s):xs.length=n*k/\n<=9223372036854775807/\(0<n->∃b cap,bf=.row b cap)/\∀a,bf=.nil a->n=0:=by
 have c:l<s.β.length:=by rw[hh.len];grind
 obtain⟨ch,e,_⟩:=hh.box l _ _ hl (br c);cases bf with
 |nil a=>obtain⟨_,_,f,rfl,_⟩:=e;grind
 |row b cap=>obtain⟨_,_,f,h,g,_⟩:=e;grind
def AK.Nu{T:List (Nat×TI)}(hT:cN P T)(l:Nat){x:ak}{f:Array aj}{t:aj}{i:TI}{E0 E:aj}{k n:Nat}{bf:m8}{xs:List ah}(q:o.op=.call {callee:=.builtin .len,args:=#[x],argTypes:=f})(F:f[0]?=aa t)(hi:bD T t=aa i)(z:i.desc=.slice E0)(r:bM φ x=.e (.one (.v (k9 bf n))))(hl:σ[l]?=aa (.b8 (fQ E k bf n xs)))(D:o.guard=ae)(A:fR N o.dst=ab)(kk:AK X N Qf (.ops all rest::K) .normal (kl o.dst (.e (.one (.c (.int .i64 n)))) φ) σ):AK X N Qf (.ops all (o::rest)::K) .normal φ σ:=by
 refine AK.hand (ι:=Unit) (λ_=>.e (.one (.c (.int .i64 n)))) (λ_=>σ) D A (λs a B hh=>?_) λ_=>kk;obtain⟨_,h2,_,y⟩:=fQ.len hl s hh;have g:=cX B x;rw[r]at g;have g:=Rd.dZ g;have m:=(hT t i hi).run_underlying (w:=s.w);rw[z]at m;have h:f[0]?=aa t:=F;have j:∃a0 cap,k9 bf n=.slice a0 n cap:=by
  cases bf with
  |nil a0=>rw[y a0 rfl];exact⟨a0,0,rfl⟩
  |row b cap=>exact⟨_,cap,rfl⟩
 obtain⟨a0,cap,p⟩:=j;rw[p]at g;refine⟨(),.value (.int .i64 n),s,.int .i64 n,?_,.inl rfl,Rd.int (by simp only[bA];omega),hh,.refl _ _,?_⟩
 .simp[aw,q,resolve,invoke,builtin,Builtin.len_,g,m,goInt,h]
 .have:(aw a.eval o).events P s.w #[]=#[]:=by simp[aw,q,resolve,invoke,builtin,Builtin.len_,g,m,goInt,h]
  rw[this];exact .nil
def qC:List A->Bool
 |[]=>ab
 |.c x::r=>match uK x with|true=>qC r|false=>af
 |_=>af
def mW(vs:List ah)(cs:List A):Prop:=vs.length=cs.length/\∀(j:Nat)(c:C),cs[j]?=aa (A.c c)->∃v,vs[j]?=aa v/\∀M,Rd M v c
theorem mW.of{σ:List aP}{s:St}:∀{vs:List ah}{cs:List A},qC cs=ab->dX σ s vs cs->mW vs cs
 |[],[],_,_=>⟨rfl,λj c h=>by grind⟩
 |[],_::_,_,r=>r.elim
 |_::_,[],_,r=>r.elim
 |v::vs,.c x::cs,h,r=>by
  simp only[qC]at h;cases a:uK x with
  |false=>grind
  |true =>
   simp only[a]at h;obtain⟨h1,h2⟩:=mW.of h r.2;refine⟨by grind,λj c hj=>?_⟩;cases j with
   |zero=>simp at hj;subst hj;exact⟨v,rfl,λM=>pY a r.1⟩
   |succ j=>grind
 |_::_,.ptr _ _::_,h,_=>by simp[qC]at h
 |_::_,.vec _ _ _ _::_,h,_=>by simp[qC]at h
 |_::_,.ref _::_,h,_=>by simp[qC]at h
 |_::_,.bp _ _::_,h,_=>by simp[qC]at h
 |_::_,.any::_,h,_=>by simp[qC]at h
theorem dX.cE{σ:List aP}{s:St}:∀{vs:List ah}{cs:List A},dX σ s vs cs->∀v∈vs,AM.cE v=ab
 |[],[],_,v,h=>by grind
 |[],_::_,r,_,_=>r.elim
 |_::_,[],r,_,_=>r.elim
 |u::vs,c::cs,r,v,h=>by
  rcases eE.1 h with rfl|h
  .exact gn.cell r.1
  .exact dX.cE r.2 v h
def dT.zA{T:List (Nat×TI)}(hT:cN P T)(l:Nat){t:aj}{x y:ak}{E:aj}{k n b cap off:Nat}{xs:List ah}{new:List A}{i:TI}(h:o.op=.store t x y)(hi:bD T t=aa i)(hx:bM φ x=.e (.one (.v (.pointer (aa ⟨b,off,ae⟩)))))(hy:km (bM φ y)=aa new)(Nm:new.length=i.size)(ZZ:qC new=ab)(hl:σ[l]?=aa (.b8 (fQ E k (.row b cap) n xs)))(Uk:off+new.length<=xs.length):
  dT P N o φ σ (ι:={vs:List ah // mW vs new}) (λ_=>.any) (λvs=>σ.set l (.b8 (fQ E k (.row b cap) n (xs.take off++vs.1++xs.drop (off+vs.1.length))))):=by
 intro s a hf hh;have Q:=cX hf x;rw[hx]at Q;have Q:=Rd.dZ Q;have D:=lO hy (cX hf y);have QT:l<σ.length:=(bY.1 hl).1;have I:l<s.β.length:=by rw[hh.len];grind
 have V:=br I;generalize s.β[l]=L at V;obtain⟨ch,hH,B,Y,W0⟩:=hh.box l _ L hl V;obtain⟨f,W2,S,Q2⟩:=fQ.lookup hH;obtain⟨Z,Ul,hxl,U,W,_⟩:=hH;have J:b∈L.bs:=(Y b).2 (by grind);have g:=B b _ S;let vs:=(a.eval y).cells.toList;have G:mW vs new:=mW.of ZZ D;have PK:vs.length=new.length:=G.1;have q:off+0+vs.length<=(xs++f).toArray.size:=by grind
 have z:=run_storeCells_at P b off E vs 0 (xs++f).toArray s.w g q D.cell;simp only[iq]at z;have F:(xs++f).take off++vs++(xs++f).drop (off+vs.length)=(xs.take off++vs++xs.drop (off+vs.length))++f:=by grind
 rw[F]at z;have abU:(xs.take off++vs++xs.drop (off+vs.length)).length=xs.length:=by grind
 have QR:=setRow_heap s.w b (xs++f).toArray ((xs.take off++vs++xs.drop (off+vs.length))++f).toArray E (0,0) g;have R:∀c,c≠b->(s.w.setRow b ((xs.take off++vs++xs.drop (off+vs.length))++f).toArray).heap[c]?=s.w.heap[c]?:=λc m=>setRow_other s.w b c _ m;obtain⟨t1,t2⟩:=hh.jv (l:=l) (H':=fQ E k (.row b cap) n (xs.take off++vs++xs.drop (off+vs.length))) (L':=L) (w':=s.w.setRow b ((xs.take off++vs++xs.drop (off+vs.length))++f).toArray) hl V rfl (by simp)
  (λc m hn=>R c (by grind)) (λc m=>.inl m)
  ⟨λc=>if c=b then aa (.cells ((xs.take off++vs++xs.drop (off+vs.length))++f).toArray E (0,0))else ae,⟨Z,λx hx=>by
   grind[dX.cE],by grind,U,W,f,by grind,rfl⟩,λc o m=>by
   simp_all,λc=>by simp_all⟩ rfl rfl rfl
 have H:(a.eval y).cells.size=i.size:=by grind
 refine⟨⟨vs,G⟩,.skip,_,ai,?_,.inr ⟨rfl,rfl⟩,ay,t1,t2,?_⟩
 .have M:(storeCells ⟨b,off,ae⟩ (a.eval y).cells.toList).run P s.w=_:=z;simp[aw,h,Q,Instr.storeAt,bq,storeVar,(hT t i hi).run_sizeOf,H,M]
 .intro ev p;have e:aw a.eval o=(do storeVar t ⟨b,off,ae⟩ (a.eval y);pure .skip):=by simp[aw,h,Q,Instr.storeAt,bq]
  rw[e]at p;have O:ev∈(storeCells ⟨b,off,ae⟩ (a.eval y).cells.toList).events P s.w #[]:=by
   simp only[storeVar,aM,(hT t i hi).run_sizeOf,H,aO,events_sizeOf,dq,fb,b7,bL,bU,Sem.events_pure]at p;generalize(storeCells ⟨b,off,ae⟩ (a.eval y).cells.toList).run P s.w=r at p;cases r with
   |ok v w'=>simpa using p
   |halt x w'=>simpa using p
  rcases dE (a.eval y).cells.toList 0 (xs++f).toArray s.w #[] g q D.cell ev O with Ja|⟨j,_,_,rfl⟩
  .grind
  .exact jE (bH V) J (W0 b J _)
def AK.zA{T:List (Nat×TI)}(hT:cN P T)(l:Nat){t:aj}{x y:ak}{E:aj}{k n b cap off:Nat}{xs:List ah}{new:List A}{i:TI}(h:o.op=.store t x y)(hi:bD T t=aa i)(g:bM φ x=.e (.one (.v (.pointer (aa ⟨b,off,ae⟩)))))(j:km (bM φ y)=aa new)(c:new.length=i.size)(f:qC new=ab)(hl:σ[l]?=aa (.b8 (fQ E k (.row b cap) n xs)))(a:off+new.length<=xs.length)(p:o.guard=ae)(m:fR N o.dst=ab)(kk:∀vs,mW vs new->AK X N Qf (.ops all rest::K) .normal (kl o.dst .any φ) (σ.set l (.b8 (fQ E k (.row b cap) n (xs.take off++vs++xs.drop (off+vs.length)))))):AK X N Qf (.ops all (o::rest)::K) .normal φ σ :=
 AK.hand _ _ p m (dT.zA hT l h hi g j c f hl a) λvs=>kk vs.1 vs.2
def AK.swap(i j:Nat){H1 H2:ah->(Nat->Option Obj)->Prop}{c:Code}(M:i≠j)(hi:σ[i]?=aa (.b8 H1))(hj:σ[j]?=aa (.b8 H2))(h1:∀v ch,H1 v ch->v=.nilFunc)(h2:∀v ch,H2 v ch->v=.nilFunc)(kk:AK X N Qf (.code c::K) .normal φ ((σ.set i (.b8 H2)).set j (.b8 H1))):AK X N Qf (.code c::K) .normal φ σ:=by
 refine AK.ghost (λs a E hh=>?_) kk;have H:i<σ.length:=(bY.1 hi).1;have I:j<σ.length:=(bY.1 hj).1;have z:i<s.β.length:=by rw[hh.len];grind
 have w:j<s.β.length:=by rw[hh.len];grind
 obtain⟨m,A⟩:∃L,s.β[i]?=aa L:=⟨_,br z⟩;obtain⟨p,t⟩:∃L,s.β[j]?=aa L:=⟨_,br w⟩;have J:=hh.box i _ m hi A;have G:=hh.box j _ p hj t;have S:m.v=.nilFunc:=by obtain⟨ch,O,_⟩:=J;grind
 have Q:p.v=.nilFunc:=by obtain⟨ch,O,_⟩:=G;grind
 let s':St:={s with β:=(s.β.set i p).set j m}
 have y:∀l,((σ.set i (.b8 H2)).set j (.b8 H1))[l]?=if l=j then aa (.b8 H1)else if l=i then aa (.b8 H2)else σ[l]?:=λl=>by grind
 have r:∀l,s'.β[l]?=if l=j then aa m else if l=i then aa p else s.β[l]?:=λl=>by grind
 have F:∀L∈s'.β,L∈s.β:=λL f=>by grind
 have ex:Ext σ s ((σ.set i (.b8 H2)).set j (.b8 H1)) s':=by
  refine⟨λ_ _ _ h=>h,λl B L hB f=>?_⟩;rw[y,r];by_cases e:l=j
  .subst e;rw[hj]at hB;cases hB;rw[t]at f;cases f;exact⟨.b8 H1,m,by simp,by simp,by show m.v=_;grind⟩
  .by_cases x:l=i
   .subst x;rw[hi]at hB;cases hB;rw[A]at f;cases f;exact⟨.b8 H2,p,by simp[e],by simp[e],by show p.v=_;grind⟩
   .exact⟨B,L,by grind,by grind,.refl _ _⟩
 have st:Step σ s ((σ.set i (.b8 H2)).set j (.b8 H1)) s':=by exact⟨bh _,λ_ _ _=>rfl,λ_ _ _ h=>h,λ_ _ _ _=>rfl,λL h b g=>.inr ⟨L,F L h,g⟩,ex.box,rfl,rfl,rfl,rfl⟩
 refine⟨s',rfl,⟨E.size,E.defers.imp λ_ h1=>h1.mono ex,λu=>(E.slot u).mono ex hh.len⟩,⟨hh.mem,by simp[s',hh.len],?_,?_,λL f b g=>hh.lt L (F L f) b g,λb g=>⟨(hh.own b g).1,λL f=>(hh.own b g).2 L (F L f)⟩⟩,st⟩
 .intro l B L hB f;rw[y]at hB;rw[r]at f;split at hB
  .rename_i e;rw[bm e]at f;cases hB;cases f;exact J
  .rename_i e;rw[aZ e]at f;split at hB
   .rename_i x;rw[bm x]at f;cases hB;cases f;exact G
   .rename_i x;rw[aZ x]at f;exact(hh.box l B L hB f).carry ex hh.len λb g=>⟨rfl,λ_=>rfl⟩
 .intro l l' L1 L2 q1 q2 b g D;rw[r]at q1 q2;have key:∀l L,(if l=j then aa m else if l=i then aa p else s.β[l]?)=aa L->s.β[if l=j then i else if l=i then j else l]?=aa L:=λl L q=>by grind
  have:=hh.eB _ _ L1 L2 (key l L1 q1) (key l' L2 q2) b g D;by_cases e1:l=j<;>by_cases e2:l'=j<;>by_cases e3:l=i<;>by_cases R:l'=i<;>simp_all
def AK.Jf{T:List (Nat×TI)}(hT:cN P T){t:aj}{x y:ak}{i p:TI}{E:aj}{n:Nat}{L R:IntKind}(h:o.op=.makeSlice t x y)(hi:bD T t=aa i)(hd:i.desc=.slice E)(hE:bD T E=aa p)(hx:bM φ x=.e (.one (.c (.int L n))))(hy:bM φ y=.e (.one (.c (.int R n))))(G:n*p.bytes<=140737488355328)(Y:n<=140737488355328)(hg:o.guard=ae)(hN:fR N o.dst=ab)(kk:∀b xs,AK X N Qf (.ops all rest::K) .normal (kl o.dst (.e (.one (.v (k9 (.row b n) n)))) φ) (σ++[.b8 (fQ E p.size (.row b n) n xs)])):AK X N Qf (.ops all (o::rest)::K) .normal φ σ:=by
 refine AK.hand (ι:=Nat×List ah) (λq=>.e (.one (.v (k9 (.row q.1 n) n)))) (λq=>σ++[.b8 (fQ E p.size (.row q.1 n) n q.2)]) hg hN (λs a hf hh=>?_) λq=>kk q.1 q.2;have m:=cX hf x;rw[hx]at m;have m:=eT m;generalize H:a.eval x=vx at m;cases m;have j:=cX hf y;rw[hy]at j;have j:=eT j;generalize F:a.eval y=vy at j;cases j;have l:=(hT t i hi).TG;rw[hd]at l;obtain⟨g,z,I,z2,z3,Z,W,z6,z7⟩:=(hT E p hE).info;have f:(g.bytes:Int)*(n:Int)<=281474976710656:=by grind
 have r:=run_make (P:=P) (w:=s.w) t E g z l I Z L R n n (by omega) (Int.le_refl _) f (by omega);simp only[b9]at r;let xs:=(madeCells z.cells (n*g.size)).toList;have V:xs.length=n*p.size:=by grind[size_madeCells]
 have hzc:∀v∈z.cells.toList,cE v=ab:=dX.cE (kJ (σ:=σ) (s:=s) W);have W2:z.cells.toList.length=p.size:=by have:=dA List.length W;grind
 have S:∀v∈xs,cE v=ab:=by intro v hv;simp only[xs,madeCells,Array.toList_map,kB]at hv;grind[Nat.mod_lt]
 have hB:et (σ++[.b8 (fQ E p.size (.row s.w.heap.size n) n xs)]) {s with w:=s.w.alloc (.cells xs.toArray E),β:=s.β++[⟨.nilFunc,[s.w.heap.size]⟩]} (.b8 (fQ E p.size (.row s.w.heap.size n) n xs)) ⟨.nilFunc,[s.w.heap.size]⟩:=by
  refine⟨λB=>if B=s.w.heap.size then aa (.cells (xs++[]).toArray E (0,0))else ae,⟨rfl,S,V,bh _,by omega,[],by grind,rfl⟩,λB o f=>?_,λB=>?_,λB f o=>?_⟩
  .by_cases e:B=s.w.heap.size
   .subst e;simp only[cj]at f;grind[dG]
   grind
  .by_cases e:B=s.w.heap.size<;>simp[e]
  .simp at f;subst f;cases U:s.M s.w.heap.size o with
   |none=>rfl
   |some v=>have:=hh.block U;omega
 have D:aF σ {s with w:=s.w.alloc (.cells xs.toArray E)}/\Step σ s σ {s with w:=s.w.alloc (.cells xs.toArray E)} :=
  hh.grow (by simp) (λb G=>cJ s.w _ G) (λb G o=>rfl) (λb G o v U=>by have:=hh.block U;omega) rfl rfl rfl
 obtain⟨g1,g2⟩:=D.1.hO D.2 rfl hh hB (λb G=>by simp_all)
 refine⟨(s.w.heap.size,xs),.value (.slice (aa ⟨s.w.heap.size,0,ae⟩) n n),_,_,?_,.inl rfl,Rd.val rfl,g1,g2,?_⟩
 .simp[aw,h,H,F,r,xs]
 .have e:aw a.eval o=(do pure (.value (<-Instr.makeSlice t (.int L n) (.int R n)))):=by simp[aw,h,H,F]
  rw[e];refine eH ?_;intro e A;have hu:∀u,(underlying t).run P u=.ok (.slice E) u:=λu=>by simp[underlying,l]
  have J:∀u,(typeInfo E).run P u=.ok g u:=λu=>by simp[typeInfo,I]
  have Q:∀u,(zeroValue E).run P u=.ok z u:=λu=>by simp[zeroValue,typeInfo,I,Z]
  have O:∀u,(sizeOf E).run P u=.ok g.size u:=λu=>by simp[sizeOf,typeInfo,I]
  have wl:IntKind.i64.wrap (n:Int)=n:=by grind[IntKind.wrap_i64]
  have n1:¬(n:Int)<0:=by omega
  have n2:¬(281474976710656<(g.bytes:Int)*n):=by omega
  simp[Instr.makeSlice,hu,J,O,asInt,asIntOf,wl,n1,n2]at A;rw[Q]at A;simp only[aO,(cZ.newRow (P:=P)) _ _,ite_self]at A;unfold askRoom at A;split at A
  .have:e=⟨.mark .noRoom,af,ab⟩:=by simpa using A
   rw[this];exact .inl rfl
  .simp at A
end
section
variable {σ σ':List aP}{s s':St}{k n d:Nat}{es:Nat->List C}{u:ah}
end
def uL{α:Type}{xs vs:List α}{a:Nat}(h:a+vs.length<=xs.length)(p:Nat):(xs.take a++vs++xs.drop (a+vs.length))[p]?=if a<=p/\p<a+vs.length then vs[p-a]? else xs[p]?:=by
 have b:(xs.take a).length=a:=by grind
 grind
def gi.fj{k n:Nat}{es es':Nat->List C}{xs vs:List ah}{new:List A}(h:gi k n es xs)(i j:Nat)(hi:i<n)(p:mW vs new)(r:j+new.length<=k)(x:∀a,a<n->a≠i->es' a=es a)(hl:(es' i).length=k)(B:∀(q:Nat) (c:C),(es' i)[q]?=aa c->(j<=q/\q<j+new.length/\new[q-j]?=aa (A.c c))∨(¬(j<=q/\q<j+new.length)/\(es i)[q]?=aa c)):gi k n es' (xs.take (i*k+j)++vs++xs.drop (i*k+j+vs.length)):=by
 have z:i*k+k<=n*k:=by rw[<-lj];exact eC _ hi
 have t:=p.1;have y:=h.len;have f:i*k+j+vs.length<=xs.length:=by omega
 refine⟨by grind,λa b=>?_,λa b q c v=>?_⟩
 .by_cases e:a=i
  .grind
  .rw[x a b e];exact h.wid a b
 .rw[uL f];by_cases e:a=i
  .subst e;rcases B q c v with⟨h1,h2,D⟩|⟨h1,h2⟩
   .rw[bm (by omega),show a*k+q-(a*k+j)=q-j by omega];exact p.2 _ c D
   .rw[aZ (by omega)];exact h.at' a b q c h2
  .have l:(es a)[q]?=aa c:=by grind
   have w:q<k:=by rw[<-h.wid a b];grind
   rw[aZ ?_]
   .exact h.at' a b q c l
   .rcases Nat.lt_or_gt_of_ne e with m|g
    .have:a*k+k<=i*k:=by rw[<-lj];exact eC _ m
     omega
    .have:i*k+k<=a*k:=by rw[<-lj];exact eC _ g
     omega
def gi.snoc{k n:Nat}{es es':Nat->List C}{xs vs:List ah}(h:gi k n es xs)(j:∀i,i<n->es' i=es i)(hl:(es' n).length=k)(f:vs.length=k)(m:∀(q:Nat)(c:C),(es' n)[q]?=aa c->∃v,vs[q]?=aa v/\∀M,Rd M v c):gi k (n+1) es' (xs++vs):=by
 have l:=h.len;refine⟨by grind,λi hi=>?_,λi hi q c p=>?_⟩
 .by_cases e:i=n
  .grind
  .rw[j i (by omega)];exact h.wid i (by omega)
 .by_cases e:i=n
  .grind
  .have a:i<n:=by omega
   have b:(es i)[q]?=aa c:=by grind
   have g:q<k:=by rw[<-h.wid i a];grind
   have:i*k+k<=n*k:=by rw[<-lj];exact eC _ a
   rw[jy (by omega)];exact h.at' i a q c b
def zH(T:List (Nat×TI))(φ:Fr):List ResultVar->Option (List D)
 |[]=>aa []
 |.tmp t::r=>match zH T φ r with
  |some q=>aa (look φ t::q)
  |none=>ae
 |.cell ad t::r=>match zH T φ r with
  |some q=>match look φ ad with
   |.e (.one (.c (.rp cs)))=>match bD T t with
    |some i=>match kN i (cs.map A.c)with
     |some e=>aa (.e e::q)
     |none=>ae
    |none=>ae
   |_=>ae
  |none=>ae
def zI{P:aq}{T:List (Nat×TI)}(hT:cN P T){N:Nat}{σ:List aP}{s:St}{φ:Fr}{a:Act}(f:cm N σ s φ a):∀{rs:List ResultVar}{ds:List D},zH T φ rs=aa ds ->
  ∃vs,cg σ s vs ds/\∀w,(∀b o u,s.M b o=aa u->w.cell? ⟨b,o,ae⟩=aa u)->(rs.mapM (ga a)).run P w=Result.ok vs w/\∀es,∀e∈(rs.mapM (ga a)).events P w es,e∈es∨∃b o u,e=⟨.cell ⟨b,o,ae⟩,af,af⟩/\s.M b o=aa u
 |[],ds,h=>by cases h;exact⟨[],ay,λw _=>⟨by simp,λes e l=>.inl (by simpa using l)⟩⟩
 |.tmp t::r,ds,h=>by
  simp only[zH]at h;cases L:zH T φ r with
  |none=>grind
  |some q =>
   simp[L]at h;subst h;obtain⟨vs,h1,R⟩:=zI hT f L;refine⟨a.tmps.getD t ai::vs,⟨f.slot t,h1⟩,λw p=>?_⟩;obtain⟨k1,Z⟩:=R w p;refine⟨by simp only[n3,bL,ga,dn,bU,k1],λes e l=>Z es e ?_⟩;simpa[n3,ga,k1]using l
 |.cell ad t::r,ds,h=>by
  simp only[zH]at h;cases L:zH T φ r with
  |none=>grind
  |some q =>
   simp only[L]at h;have hs:=f.slot ad;generalize look φ ad=x at h hs;split at h
   case h_2=>cases h
   rename_i cs;cases hi:bD T t with
   |none=>grind
   |some i =>
    simp only[hi]at h;cases k:kN i (cs.map A.c)with
    |none=>grind
    |some e0 =>
     simp[k]at h;subst h;obtain⟨vs,h1,R⟩:=zI hT f L;have B:=eT hs;generalize V:a.tmps.getD ad ai=vx at B;cases B;rename_i b off g Y MW;let y:=(bg cs.length).map g;have O:dX σ s y (cs.map A.c):=by
      have key:∀(n:Nat) (ds:List C),(∀j c,ds[j]?=aa c->Rd s.M (g (n+j)) c)->dX σ s ((bg ds.length).map λj=>g (n+j)) (ds.map A.c):=by
       intro n ds;induction ds generalizing n with
       |nil=>intro _;trivial
       |cons d ds ih =>
        intro hd;rw[eU,uX];refine⟨hd 0 d rfl,?_⟩;have:=ih (n+1) (λj c m=>by have:=hd (j+1) c (by grind);grind);grind[Function.comp_def]
      have:=key 0 cs (by grind);grind
     have E:∀(j:Nat) (v:ah),y[j]?=aa v->s.M b (off+j)=aa v:=λj v m=>by
      simp only[y,mU]at m;by_cases H:j<cs.length
      .simp[H]at m;subst m;exact Y j cs[j] (br H)
      grind
     let w0:aA:={s.w with heap:=s.w.heap}
     have G:∃v,m7 σ s v e0/\∀w,(∀b o u,s.M b o=aa u->w.cell? ⟨b,o,ae⟩=aa u)->(loadVar t ⟨b,off,ae⟩).run P w=.ok v w:=by
      have U:=hT t i hi;cases ha:i.agg<;>simp only[kN,ha]at k
      .cases F:dt 0 (cs.map A.c)with
       |none=>grind
       |some a0 =>
        simp[F]at k;subst k;obtain⟨v,hv,W⟩:=O.get (b5 F);refine⟨v,W,λw p=>?_⟩;have:=p _ _ _ (E 0 v hv);simp only[loadVar,bL,U.ki,bU,ha];grind[run_load]
      .cases F:oC i.size (cs.map A.c)with
       |none=>grind
       |some r0 =>
        simp[F]at k;subst k;obtain⟨q1,q2⟩:=nk F;have J:=O.take i.size;rw[<-q1]at J;have hl:(y.take i.size).length=i.size:=by grind
        refine⟨.agg (y.take i.size).toArray,⟨y.take i.size,rfl,J⟩,λw p=>?_⟩
        have I:=run_loadCells_list (P:=P) w ⟨b,off,ae⟩ (y.take i.size) (λj v m=>by grind[dk])
        rw[hl]at I;simp only[loadVar,bL,U.ki,bU,ha];simp[U.run_sizeOf,I]
     obtain⟨v,S,Q⟩:=G;refine⟨v::vs,⟨S,h1⟩,λw p=>?_⟩;obtain⟨k1,Z⟩:=R w p;have z:(ga a (.cell ad t))=loadVar t ⟨b,off,ae⟩:=by simp[ga,V,asAddr]
     refine⟨by grind[Go.Sem.run_bind,Go.Sem.run_pure,Go.Result.andThen_ok],λes e l=>?_⟩;rw[n3,z]at l;simp only[aM,Q w p,aO,k1,Sem.events_pure]at l;rcases Z _ e l with l|l
     .rcases DD l with l|l
      .grind
      .obtain⟨j,m,rfl⟩:=fZ (hT t i hi) (w:=w) (n:=cs.length) (λj m=>⟨g j,p _ _ _ (Y j cs[j] (br m))⟩) (by have:=kO k;grind) e l;exact .inr ⟨b,off+j,g j,rfl,Y j cs[j] (br m)⟩
     grind
theorem zG.Uo{P:aq}{T:List (Nat×TI)}(hT:cN P T){fn:Func}{φ:Fr}{ds:List D}{d:D}(h:zH T φ fn.results.toList=aa ds)(hj:rU ds=aa d):zG P fn φ d:=by
 intro N σ s a f;obtain⟨vs,h1,h2⟩:=zI hT f h;refine⟨_,BC hj h1,λw i=>?_⟩;obtain⟨k1,g⟩:=h2 w i;have e1:(fn.results.mapM (ga a)).run P w=Result.ok vs.toArray w:=by grind[Array.mapM_eq_mapM_toList,Sem.run_map,Go.Result.andThen_ok]
 have e2:∀es,∀e∈(fn.results.mapM (ga a)).events P w es,e∈es∨∃b o u,e=⟨.cell ⟨b,o,ae⟩,af,af⟩/\s.M b o=aa u:=by rw[qK];intro es e c;exact g es e (by simpa using c)
 constructor
 .unfold results;rw[bL];refine(dA (λr=>Result.andThen r _) (Eq.trans ?_ e1)).trans ?_
  .congr 2
  .simp
 .intro e c;have j:e∈(fn.results.mapM (ga a)).events P w #[]:=by unfold results at c;rw[aM]at c;change e∈((fn.results.mapM (ga a)).run P w).evThen ((fn.results.mapM (ga a)).events P w #[]) _ at c;rw[e1]at c;simpa using c
  grind
section
variable {P:aq}{X:Cx P}{N:Nat}{K:List It}{φ:Fr}{σ:List aP}
def He(T:List (Nat×TI))(rs:List ResultVar)(ks:List Nat)(φ:Fr)(res:D):Option (List Prop) :=
 match zH T φ rs with
 |some ds=>match rU ds with
  |some d=>match vP ks.length res with
   |true=>Du d (hZ ks res)
   |false=>ae
  |none=>ae
 |none=>ae
def AK.Q6{T:List (Nat×TI)}(hT:cN P T){fn:Func}{a:Nat}{res:D}{σ':List aP}(ks:List Nat){ps:List Prop}(h:He T fn.results.toList ks φ res=aa ps)(c:az ps)(d:jJ ks σ=aa σ')(b:kn σ'=ab)(e:dw ks=ab)(hk:∀j,j<a->ks[j]?=aa j):
  AK X N (qR P fn a res σ') (.code .ret::K) .normal φ σ:=by refine AK.ret ⟨.inl rfl,ks,?_⟩;unfold He at h;grind[zG.Uo]
def Ev.rW{f:aJ}{fn:Func}{c:Code}{args:List D}{σ σ':List aP}{res:D}(d:P.funcs[f]?=aa fn)(a:(fn.name== "runtime.NumGoroutine")=af)(e:fn.body=aa c)(b:bu args.length fn.ntmps=ab)(h:Fits args σ->AK X fn.ntmps (qR P fn σ.length res σ') [.code c] .normal (iY 0 args) σ):Ev X f args σ res σ':=by refine⟨⟨fn,d,a,by grind⟩,λs vs hr hh=>?_⟩;have:=eb.Ji (X:=X) (ι:=Unit) (σ':=λ_=>σ') (res:=λ_=>res) d a e (cV b) (AW.mono (AK.of_code (h ⟨s,vs,hr,hh⟩)) λ_ _ _ q=>⟨(),q⟩);exact this.DL.2 s vs hr hh
def cp.mk{fn:Func}{a:Nat}{res:D}{σ':List aP}(ks:List Nat){ps:List Prop}(h:zJ fn.results.toList ks φ res=aa ps)(c:az ps)(d:jJ ks σ=aa σ')(b:kn σ'=ab)(e:dw ks=ab)(hk:∀j,j<a->ks[j]?=aa j):cp fn a res σ' .ret φ σ:=by refine⟨.inl rfl,ks,?_⟩;unfold zJ at h;grind
end
def Ga{α:Type}{l:Nat}{x:α}:∀{ks:List Nat}{a r:List α},jJ ks a=aa r->l∉ks->jJ ks (a.set l x)=aa r
 |[],a,r,h,_=>h
 |k::ks,a,r,h,c=>by
  simp only[eE,not_or]at c;simp only[jJ,fg]at h⊢;rw[j6 c.1];cases hk:a[k]? with
  |none=>simp[hk]at h
  |some y =>
   simp only[hk]at h⊢;cases b:jJ ks a with
   |none=>simp[b]at h
   |some q=>rw[Ga b c.2];simp only[b]at h;exact h
def B9{k:Nat}{l:List Nat}(h:ia k l=af):k∉l:=λhk=>by rw[vf hk]at h;cases h
def oR:Option (Tmp×E1)->List ResultVar
 |none=>[]
 |some q=>[.tmp q.1]
def oD(cs:List A):Option (Tmp×E1)->D
 |none=>.e (.agg cs)
 |some q=>.eX [.agg cs,q.2]
def Ki(T:List (Nat×TI))(fn:Func)(a:Nat)(res:D)(σ':List aP):Post:=λe φ σ1 =>
 (e=.ret∨e=.normal)/\∃ks l E cs t ty it ps,∃o:Option (Tmp×E1),(∀q,o=aa q->look φ q.1=.e q.2)/\fn.results.toList=.cell t ty::oR o/\bD T ty=aa it/\it.agg=ab/\cs.length=it.size/\look φ t=.e (.one (.ptr l 0))/\σ1[l]?=aa (.cells E cs)/\l∉ks /\
  Du (oD cs o) (hZ ks res)=aa ps/\az ps/\vP ks.length res=ab/\jJ ks σ1=aa σ'/\kn σ'=ab/\dw ks=ab/\(∀j,j<a->ks[j]?=aa j)
def eb.RS{P:aq}{ι:Type}{X:Cx P}{T:List (Nat×TI)}(hT:cN P T){f:aJ}{fn:Func}{c:Code}{args:List D}{σ:List aP}{σ':ι->List aP}{res:ι->D}(hf:P.funcs[f]?=aa fn)(Ht:(fn.name== "runtime.NumGoroutine")=af)(r:fn.body=aa c)(hlen:args.length<=fn.ntmps)(h:∀s a,cm fn.ntmps σ s (iY 0 args) a->aF σ s->∀(b:aR) (k:List Item) (cs:List aR) (S:av->St->Prop),b.kind≠.early->b.roundOf=ae ->
  (∀e φ' σ1 s' a',(∃j,Ki T fn σ.length (res j) (σ' j) e φ' σ1)->cm fn.ntmps σ1 s' φ' a'->aF σ1 s'->cR σ s σ1 s'->ends X S b k cs e a' s')->fA X S (G (b.aT a (.code c::k)) cs) s):eb X f args σ res σ':=by
 refine⟨⟨fn,hf,Ht,by rw[r];rfl⟩,λs vs hr hh S cs hS=>?_⟩;obtain⟨hl,hg⟩:=cg.get hr;let b:aR:={fn:=f,tmps:=#[],todo:=[],defers:=[],mode:=.run,kind:=.normal,roundOf:=ae}
 have H:Frame.enter P f vs.toArray .normal=b.aT {tmps:=vs.toArray++Array.replicate (fn.ntmps-vs.toArray.size) ai,defers:=[]} [.code c]:=by simp[Frame.enter,Frame.aT,hf,r,b]
 rw[H];refine h s {tmps:=vs.toArray++Array.replicate (fn.ntmps-vs.toArray.size) ai,defers:=[]} ⟨by simp;omega,⟨[],ay⟩,λt=>?_⟩ hh b [] cs S (by simp[b]) rfl ?_
 .rw[oh];simp only[lk,cj,lG];have:=hg t;rcases cD t vs.length with s9|TM
  .have e:(vs.toArray++Array.replicate (fn.ntmps-vs.toArray.size) ai).getD t ai=(vs[t]?).getD ai:=by simp only[dO];grind
   rw[e];exact this
  .rw[rD (by omega)];trivial
 .rintro e φ' σ0 s0 a1 ⟨jj,he,ks,l,E,rcs,t,ty,it,ps,o,q0,q1,q2,q3,q4,q5,q6,q7,h3,h4,h5,h6',h7',h8,h9⟩ f0 h0 Yg;obtain⟨h7,h7n⟩:=yv h7';have F:=f0.slot t;rw[q5]at F;obtain⟨_,L,bb,p,Xn,YI⟩:=F;obtain⟨b2,d,Uu,O,Y,hM⟩:=h0.box l _ L q6 p;subst Uu;cases Xn;let M':Mem:=λm o=>if m=bb then d[o]? else s0.M m o;have Ul:∀o v,d[o]?=aa v->s0.w.cell? ⟨bb,o,ae⟩=aa v:=λo v ho=>by simpa[aV,O]using ho
  have T9:∀m o v,s0.M m o=aa v->M' m o=aa v:=λm o v hv=>by grind
  have W:∀m o v,M' m o=aa v->s0.w.cell? ⟨m,o,ae⟩=aa v:=λm o v hv=>by
   by_cases e:m=bb
   .grind
   .simp only[M',e,b7]at hv;exact h0.mem m o v hv
  obtain⟨h',I⟩:=h0.gz (M':=M') (w':=s0.w) (B':=.dead) (L':=⟨.pointer (aa ⟨bb,0,ae⟩),[]⟩) q6 p rfl (bh _) (λ_ _ _=>rfl) (λm _ U o=>by grind) T9 W (by simp) rfl rfl rfl ay
  have Xj:eu s0 ⟨s0.β.set l ⟨.pointer (aa ⟨bb,0,ae⟩),[]⟩,M',s0.w,s0.own⟩:=⟨rfl,T9,λm U o=>by
   have:m≠bb:=by rintro rfl;exact U _ (bH p) (by simp)
   simp only[M',this,b7],W,λm U=>by grind⟩
  have f':cm fn.ntmps (σ0.set l .dead) ⟨s0.β.set l ⟨.pointer (aa ⟨bb,0,ae⟩),[]⟩,M',s0.w,s0.own⟩ φ' a1:=⟨f0.size,f0.defers.imp λ_ h1=>h1.mono I.ext,λu=>(f0.slot u).mono I.ext h0.len⟩
  have h6:=Ga (x:=aP.dead) h6' q7;have YJ:dX (σ0.set l .dead) ⟨s0.β.set l ⟨.pointer (aa ⟨bb,0,ae⟩),[]⟩,M',s0.w,s0.own⟩ d rcs:=Y.mono I.ext h0.len;have st:=Yg.trans (I.m9 h0);let V:ah:=match o with|none=>.agg d.toArray|some q=>.tuple #[.agg d.toArray,a1.tmps.getD q.1 ai]
  have K:∀w,(∀b o u,M' b o=aa u->w.cell? ⟨b,o,ae⟩=aa u)->(results fn a1.tmps).run P w=.ok V w/\∀e∈(results fn a1.tmps).events P w #[],∃b o u,e=⟨.cell ⟨b,o,ae⟩,af,af⟩/\M' b o=aa u:=by
   intro w hw;have Q:=hT ty it q2;have hrl:d.length=it.size:=by rw[Y.length,q4]
   have TD:∀j v,d[j]?=aa v->w.cell? ⟨bb,0+j,ae⟩=aa v:=λj v hj=>hw _ _ _ (by grind);have W8:=run_loadCells_list (P:=P) w ⟨bb,0,ae⟩ d (λj v hj=>by rw[dk];exact TD j v hj);rw[hrl]at W8;have G7:(loadVar ty ⟨bb,0,ae⟩).run P w=.ok (.agg d.toArray) w:=by simp only[loadVar,bL,Q.ki,bU,q3];simp[Q.run_sizeOf,W8]
   have hra:fn.results=(ResultVar.cell t ty::oR o).toArray:=by apply Array.ext';simpa using q1
   have N:asAddr (a1.tmps[t]?.getD ai)=(pure ⟨bb,0,ae⟩:Sem Addr):=by rw[<-dO,YI];rfl
   refine⟨by cases o<;>simp[results,hra,N,G7,V,oR],λe he=>?_⟩;have QZ:e∈(loadVar ty ⟨bb,0,ae⟩).events P w #[]:=by cases o<;>simpa[results,hra,N,G7,oR]using he
   obtain⟨j,hj,rfl⟩:=fZ Q (w:=w) (n:=d.length) (λj hj=>⟨_,TD j d[j] (br hj)⟩) (by rw[q3,hrl];simp) e QZ;exact⟨bb,0+j,d[j],rfl,by grind⟩
  have fin:∀(fr:aR) s2,ck (⟨s0.β.set l ⟨.pointer (aa ⟨bb,0,ae⟩),[]⟩,M',s0.w,s0.own⟩:St) s2->fr.fn=f->fr.tmps=a1.tmps->fr.defers=a1.defers->fr.mode=.returning->fr.kind=.normal->fA X S (G fr cs) s2:=by
   intro fr s2 sW e1 e2 e3 e4 e5;have f2:=f'.rely sW h';have z:=h'.rely sW;have g:=st.trans sW.stepW;have r2:dj (σ0.set l .dead) s2 V (oD rcs o):=by
    have hr3:=YJ.mono sW.stepW.ext h'.len;cases o with
    |none=>exact⟨d,rfl,hr3⟩
    |some q =>
     have hx:=f2.slot q.1;rw[q0 q rfl]at hx;exact⟨[.agg d.toArray,a1.tmps.getD q.1 ai],rfl,⟨d,rfl,hr3⟩,hx,ay⟩
   obtain⟨i,J⟩:=vM (l':=s2.β) h6 z.len;have r4:=(oi h3 h4 r2).sub h6 J h5;obtain⟨c1,c2⟩:=iH h6;obtain⟨d1,d2⟩:=iH J;have R:∀L∈i,L∈s2.β:=zF J;have TO:aF (σ' jj) {s2 with β:=i}:=by obtain⟨Z,_⟩:=z.sub h6 J h7 h8;refine⟨Z.mem,Z.len,λj B L hB p=>?_,Z.eB,Z.lt,λb r=>⟨(z.own b r).1,λL p=>(z.own b r).2 L (R L p)⟩⟩;exact et.plain (σ:=σ' jj) (s:={s2 with β:=i,own:=vR s2 i}) (s':={s2 with β:=i}) rfl rfl (kK h7 B (bH hB)) (Z.box j B L hB p)
   have U9:cR σ s (σ' jj) {s2 with β:=i}:=by refine⟨g.size,g.fe,g.mem,g.iU,λL p b r=>g.vb _ (R L p) b r,λl B L hB p=>?_,g.os,g.tape,g.output,g.own⟩;have hl:l<σ.length:=(bY.1 hB).1;obtain⟨B',L',p1,p2,p3⟩:=g.box l B L hB p;grind
   obtain⟨ls,RF⟩:=f2.defers;refine qW ls fr s2 _ z.lI (by grind) e4 (by rw[e3];exact RF.taken z) λs3 A=>?_;have C:ck {s2 with β:=i} {s3 with β:=i}:=by
    refine⟨rfl,A.M,A.own,A.size,λb r=>A.fe b (r.imp id ?_),A.mem,A.os,A.tape,A.output⟩;rintro⟨L,p,r⟩;obtain⟨j,hj,rfl⟩:=dM p;have hj':j<ks.length:=by rw[<-d1];exact hj
    obtain⟨y,y1,y2⟩:=d2 j _ (br hj');obtain⟨x,x1,x2⟩:=c2 j _ (br hj');rw[br hj]at y1;cases y1;refine⟨_,_,y2,λhc=>?_,r⟩;rw[RF.BU _ hc]at x2;cases x2;exact nn h7n _ (bH x1) rfl
   have hG:eu s3 {s3 with β:=i}:=⟨rfl,λ_ _ _ h=>h,λ_ _ _=>rfl,λb o v hv=>A.mem b o v (by rw[<-A.M];exact hv),λb r=>r.imp id λ⟨L,p,r⟩=>⟨L,by rw[A.β];exact R L p,r⟩⟩
   have YK:s2.M=M':=sW.M;refine .ghost hG (hS jj _ V _ ⟨e1,e4,rfl,e5,fn,by grind,λw hw=>?_⟩ (r4.mono C.stepW.ext TO.len) (TO.rely C) (U9.trans C.stepW));show(results fn fr.tmps).run P w=_/\∀e∈(results fn fr.tmps).events P w #[],_;rw[e2];have hw':∀b o u,M' b o=aa u->w.cell? ⟨b,o,ae⟩=aa u:=λb o u h=>hw b o u (by show s3.M b o=aa u;rw[A.M,YK];exact h);refine⟨(K w hw').1,λe he=>?_⟩;obtain⟨b,o,u,q1,q2⟩:=(K w hw').2 e he;exact⟨b,o,u,q1,by show s3.M b o=aa u;rw[A.M,YK];exact q2⟩
  rcases he with rfl|rfl
  .intro pre;exact .ghost Xj (.ctl h' rfl (λ_=>DF rfl) λs2 sW=>fin _ s2 sW rfl rfl (iO _) rfl rfl)
  .exact .ghost Xj (.ctl h' rfl (λ_=>DG rfl) λs2 sW=>fin _ s2 sW rfl rfl (iO _) rfl rfl)
def eb.rW{P:aq}{ι:Type}{X:Cx P}{T:List (Nat×TI)}(hT:cN P T){f:aJ}{fn:Func}{c:Code}{args:List D}{σ:List aP}{σ':ι->List aP}{res:ι->D}(l:P.funcs[f]?=aa fn)(d:(fn.name== "runtime.NumGoroutine")=af)(i:fn.body=aa c)(g:bu args.length fn.ntmps=ab)(h:Fits args σ->AK X fn.ntmps (λe φ σ1=>∃j,Ki T fn σ.length (res j) (σ' j) e φ σ1) [.code c] .normal (iY 0 args) σ):eb X f args σ res σ':=by refine⟨⟨fn,l,d,by rw[i];rfl⟩,λs0 vs hr Ja=>?_⟩;have:=eb.RS (X:=X) (σ':=σ') (res:=res) hT l d i (cV g) λs a f hh b k cs S hk _ m=>(show AW X fn.ntmps c _ (iY 0 args) σ from AK.of_code (h ⟨s0,vs,hr,Ja⟩)) s a f hh b k cs S hk m;exact this.2 s0 vs hr Ja
def dX.set{σ:List aP}{s:St}{a:A}{v:ah}:∀{vs:List ah}{cs:List A}{j:Nat},dX σ s vs cs->vs[j]?=aa v->gn σ s v a->dX σ s vs (cs.set j a)
 |[],[],_,_,h,_=>by grind
 |[],_::_,_,h,_,_=>h.elim
 |_::_,[],_,h,_,_=>h.elim
 |u::vs,c::cs,0,h,d,b=>by simp at d;subst d;exact⟨b,h.2⟩
 |u::vs,c::cs,j+1,h,d,b=>⟨h.1,dX.set h.2 (by grind) b⟩
section
variable {P:aq}{X:Cx P}{N:Nat}{Qf:Post}{K:List It}{φ:Fr}{σ:List aP}{c:Code}
def AK.g7(l j:Nat)(E k:Nat)(es':Nat->List C){E0:aj}{cs:List A}{k':Nat}{z:Nat->List C}(hl:dt l σ=aa (.cells E0 cs))(hj:dt j cs=aa (.c (.sl ab k' 0 z)))(kk:AK X N Qf (.code c::K) .normal φ ((σ++[aP.vec E k 0 es']).set l (.cells E0 (cs.set j (.vec σ.length k 0 es'))))):AK X N Qf (.code c::K) .normal φ σ:=by
 refine AK.ghost (λs a t hh=>?_) kk;have hB:=b5 hl;have Q:=b5 hj;have F:l<σ.length:=(bY.1 hB).1;have m:l<s.β.length:=by rw[hh.len];grind
 have q:=br m;generalize s.β[l]=L at q;obtain⟨b,vs,p,d,f,O⟩:=hh.box l _ L hB q;obtain⟨v,S,J⟩:=f.get Q;have h1:Rd s.M v (.sl ab k 0 es'):=(Rd.u9 (k:=k') (k':=k) (.inr rfl) J).Dz λi hi=>by omega
 have y:et (σ++[aP.vec E k 0 es']) {s with β:=s.β++[⟨v,[]⟩]} (.vec E k 0 es') ⟨v,[]⟩:=⟨h1.loose,.inl ⟨⟨rfl,rfl⟩,h1⟩⟩;obtain⟨G,H⟩:=hh.hO (.refl _ _) rfl hh y (by simp)
 have r:(σ++[aP.vec E k 0 es'])[l]?=aa (.cells E0 cs):=by grind
 have x:(s.β++[(⟨v,[]⟩:Loc)])[l]?=aa L:=by grind
 have o:(s.β++[(⟨v,[]⟩:Loc)]).set l L=s.β++[⟨v,[]⟩]:=by apply iM;grind
 have D:gy (.cells E0 cs) L (.cells E0 (cs.set j (.vec σ.length k 0 es'))) L:=rfl;have R:σ.length≠l:=by omega
 have g:et ((σ++[aP.vec E k 0 es']).set l (.cells E0 (cs.set j (.vec σ.length k 0 es')))) ⟨(s.β++[(⟨v,[]⟩:Loc)]).set l L,s.M,s.w,s.own⟩ (.cells E0 (cs.set j (.vec σ.length k 0 es'))) L:=by
  rw[o];refine⟨b,vs,p,d,?_,O⟩;have ex:Ext (σ++[aP.vec E k 0 es']) {s with β:=s.β++[⟨v,[]⟩]} ((σ++[aP.vec E k 0 es']).set l (.cells E0 (cs.set j (.vec σ.length k 0 es')))) {s with β:=s.β++[⟨v,[]⟩]}:=by
   refine⟨λ_ _ _ h=>h,λi B L' j0 ff=>?_⟩;by_cases e:l=i
   .grind
   .exact⟨B,L',by grind,ff,.refl _ _⟩
  have n:dX (σ++[aP.vec E k 0 es']) {s with β:=s.β++[⟨v,[]⟩]} vs cs:=f.mono H.ext hh.len;refine dX.set (n.mono ex G.len) S ?_;refine⟨h1.loose,by simp,λE2 k2 n2 zt h=>?_⟩;rw[j6 (by omega),gw (by omega),Nat.sub_self]at h;cases h;refine⟨bh _,λ_=>⟨⟨v,[]⟩,?_,rfl⟩⟩;simp[<-hh.len]
 obtain⟨T,q2⟩:=G.gz (M':=s.M) (w':=s.w) (L':=L) r x D (bh _) (λ_ _ _=>rfl) (λ_ _ _ _=>rfl) (λ_ _ _ h=>h) hh.mem (λb I=>⟨.inl I,hh.lt L (bH q) b I⟩) rfl rfl rfl g;have st:=H.trans q2;exact⟨⟨(s.β++[(⟨v,[]⟩:Loc)]).set l L,s.M,s.w,s.own⟩,rfl,⟨t.size,t.defers.imp λ_ h1=>h1.mono st.ext,λu=>(t.slot u).mono st.ext hh.len⟩,T,st⟩
end
section
variable {P:aq}{X:Cx P}{N:Nat}{Qf:Post}{K:List It}{φ:Fr}{σ:List aP}{c:Code}
def AK.Vg(t:Nat)(E k:Nat)(es':Nat->List C){k':Nat}{f:Nat->List C}(j:look φ t=.e (.one (.c (.sl ab k' 0 f))))(kk:AK X N Qf (.code c::K) .normal ((t,.e (.one (.bp σ.length (.sl 0 k 0 0))))::φ) (σ++[.buf E k 0 es'])):AK X N Qf (.code c::K) .normal φ σ:=by
 refine AK.ghost (λs a b hh=>?_) kk;have g:=b.slot t;rw[j]at g;obtain⟨i,d⟩:=hh.hO (B:=.buf E k 0 es') (L:=⟨.slice ae 0 0,[]⟩) (.refl _ _) rfl hh (.inl ⟨rfl,rfl⟩) (by simp);refine⟨{s with β:=s.β++[⟨.slice ae 0 0,[]⟩]},rfl,⟨b.size,b.defers.imp λ_ h1=>h1.mono d.ext,λu=>?_⟩,i,d⟩;simp only[look];cases h:aB t u with
 |false=>exact(b.slot u).mono d.ext hh.len
 |true =>
  have e:=bP h;subst e;exact va (E:=E) (es:=es') (eT g) (by simp) (by simp[<-hh.len])
def AK.su(l j:Nat)(E k:Nat)(es':Nat->List C){E0:aj}{cs:List A}{k':Nat}{F:Nat->List C}(hl:dt l σ=aa (.cells E0 cs))(hj:dt j cs=aa (.c (.sl ab k' 0 F)))(kk:AK X N Qf (.code c::K) .normal φ ((σ++[aP.buf E k 0 es']).set l (.cells E0 (cs.set j (.bp σ.length (.sl 0 k 0 0)))))):AK X N Qf (.code c::K) .normal φ σ:=by
 refine AK.ghost (λs a z hh=>?_) kk;have hB:=b5 hl;have S:=b5 hj;have H:l<σ.length:=(bY.1 hB).1;have o:l<s.β.length:=by rw[hh.len];grind
 have t:=br o;generalize s.β[l]=L at t;obtain⟨b,vs,r,f,g,R⟩:=hh.box l _ L hB t;obtain⟨v,U,Q⟩:=g.get S;let d:Loc:=⟨.slice ae 0 0,[]⟩
 obtain⟨I,J⟩:=hh.hO (B:=.buf E k 0 es') (L:=d) (.refl _ _) rfl hh (.inl ⟨rfl,rfl⟩) (by grind);have y:(σ++[aP.buf E k 0 es'])[l]?=aa (.cells E0 cs):=by grind
 have D:(s.β++[d])[l]?=aa L:=by grind
 have q:(s.β++[d]).set l L=s.β++[d]:=by apply iM;grind
 have G:gy (.cells E0 cs) L (.cells E0 (cs.set j (.bp σ.length (.sl 0 k 0 0)))) L:=rfl;have m:et ((σ++[aP.buf E k 0 es']).set l (.cells E0 (cs.set j (.bp σ.length (.sl 0 k 0 0))))) ⟨(s.β++[d]).set l L,s.M,s.w,s.own⟩ (.cells E0 (cs.set j (.bp σ.length (.sl 0 k 0 0)))) L:=by
  rw[q];refine⟨b,vs,r,f,?_,R⟩;have ex:Ext (σ++[aP.buf E k 0 es']) {s with β:=s.β++[d]} ((σ++[aP.buf E k 0 es']).set l (.cells E0 (cs.set j (.bp σ.length (.sl 0 k 0 0))))) {s with β:=s.β++[d]}:=by
   refine⟨λ_ _ _ h=>h,λi B L T x=>?_⟩;by_cases e:l=i
   .grind
   .exact⟨B,L,by grind,x,.refl _ _⟩
  have p:dX (σ++[aP.buf E k 0 es']) {s with β:=s.β++[d]} vs cs:=g.mono J.ext hh.len;exact dX.set (p.mono ex I.len) U (va (E:=E) (es:=es') Q (by grind) (by simp[<-hh.len,d]))
 obtain⟨V,q2⟩:=I.gz (M':=s.M) (w':=s.w) (L':=L) y D G (bh _) (λ_ _ _=>rfl) (λ_ _ _ _=>rfl) (λ_ _ _ h=>h) hh.mem (λb O=>⟨.inl O,hh.lt L (bH t) b O⟩) rfl rfl rfl m;have st:=J.trans q2;exact⟨⟨(s.β++[d]).set l L,s.M,s.w,s.own⟩,rfl,⟨z.size,z.defers.imp λ_ h1=>h1.mono st.ext,λu=>(z.slot u).mono st.ext hh.len⟩,V,st⟩
end
def qT:Nat->(Nat->List C)->Nat->List C
 |0,es=>es
 |o+1,es=>lZ (o+1) es
def vh(o:Nat)(es:Nat->List C)(i:Nat):qT o es i=es (o+i):=by cases o<;>simp[qT,lZ]
def Al(l k n:Nat)(es:Nat->List C)(a:A):Option (A×List Prop):=match Hc l a with
 |true=>aa (a,[])
 |false=>match a with
  |.bp l' (.sl g k' o m)=>match aB l' l,aB k' k with
   |true,ab=>aa (.c (.sl af k m (qT o es)),[g=n,o+m<=n])
   |_,_=>ae
  |_=>ae
def Am(l k n:Nat)(es:Nat->List C):List A->Option (List A×List Prop)
 |[]=>aa ([],[])
 |a::r=>match Al l k n es a with
  |some (a',p)=>match Am l k n es r with
   |some (r',q)=>aa (a'::r',kM p q)
   |none=>ae
  |none=>ae
def wY(l k n:Nat)(es:Nat->List C):E1->Option (E1×List Prop)
 |.one a=>match Al l k n es a with|some (a,p)=>aa (.one a,p)|none=>ae
 |.agg cs=>match Am l k n es cs with|some (cs,p)=>aa (.agg cs,p)|none=>ae
def vt(l k n:Nat)(es:Nat->List C):List E1->Option (List E1×List Prop)
 |[]=>aa ([],[])
 |a::r=>match wY l k n es a with
  |some (a',p)=>match vt l k n es r with
   |some (r',q)=>aa (a'::r',kM p q)
   |none=>ae
  |none=>ae
def wZ(l k n:Nat)(es:Nat->List C):D->Option (D×List Prop)
 |.e x=>match wY l k n es x with|some (x,p)=>aa (.e x,p)|none=>ae
 |.eX xs=>match vt l k n es xs with|some (xs,p)=>aa (.eX xs,p)|none=>ae
 |.any=>aa (.any,[])
section
variable {σ1:List aP}{s s2:St}{E k n:Nat}{es:Nat->List C}
structure l6(σ1:List aP)(E k n:Nat)(es:Nat->List C)(s s2:St):Prop where
 fe:∀v a,gn (σ1++[.buf E k n es]) s v a->Hc σ1.length a=ab->gn σ1 s2 v a
 Jk:∀v k' o m,gn (σ1++[.buf E k n es]) s v (.bp σ1.length (.sl n k' o m))->k'=k->o+m<=n->Rd s2.M v (.sl af k m (qT o es))
def l6.a(h:l6 σ1 E k n es s s2){v:ah}{a a':A}{ps:List Prop}(b:Al σ1.length k n es a=aa (a',ps))(e:az ps)(r:gn (σ1++[.buf E k n es]) s v a):gn σ1 s2 v a':=by
 unfold Al at b;split at b
 .rename_i d;cases b;exact h.fe v a r d
 .split at b
  .rename_i l' g k' o m _;split at b
   .rename_i e1 e2;cases b;have e1:=bP e1;have e2:=bP e2;subst e1 e2;obtain⟨rfl,h2⟩:g=n/\o+m<=n:=e;exact h.Jk v _ _ _ r rfl h2
   grind
  grind
def l6.l(h:l6 σ1 E k n es s s2):∀{vs:List ah}{cs na:List A}{ps:List Prop},Am σ1.length k n es cs=aa (na,ps)->az ps->dX (σ1++[.buf E k n es]) s vs cs->dX σ1 s2 vs na
 |[],[],_,_,b,_,_=>by cases b;trivial
 |[],_::_,_,_,_,_,r=>r.elim
 |_::_,[],_,_,_,_,r=>r.elim
 |v::vs,c::cs,na,ps,b,d,r=>by
  simp only[Am]at b;split at b
  .rename_i a' p h1;split at b
   .rename_i r' q h2;cases b;rw[az.cat]at d;exact⟨h.a h1 d.1 r.1,h.l h2 d.2 r.2⟩
   grind
  grind
def l6.e(h:l6 σ1 E k n es s s2){v:ah}{x f:E1}{ps:List Prop}(b:wY σ1.length k n es x=aa (f,ps))(d:az ps)(r:m7 (σ1++[.buf E k n es]) s v x):m7 σ1 s2 v f:=by
 cases x with
 |one a =>
  simp only[wY]at b;split at b
  .rename_i a' p h1;cases b;exact h.a h1 d r
  grind
 |agg cs =>
  simp only[wY]at b;split at b
  .rename_i a' p h1;cases b;obtain⟨vs,g,i⟩:=r;exact⟨vs,g,h.l h1 d i⟩
  grind
def l6.es'(h:l6 σ1 E k n es s s2):∀{vs:List ah}{cs na:List E1}{ps:List Prop},vt σ1.length k n es cs=aa (na,ps)->az ps->gZ (σ1++[.buf E k n es]) s vs cs->gZ σ1 s2 vs na
 |[],[],_,_,a,_,_=>by cases a;trivial
 |[],_::_,_,_,_,_,r=>r.elim
 |_::_,[],_,_,_,_,r=>r.elim
 |v::vs,c::cs,na,ps,a,b,r=>by
  simp only[vt]at a;split at a
  .rename_i a' p h1;split at a
   .rename_i r' q h2;cases a;rw[az.cat]at b;exact⟨h.e h1 b.1 r.1,h.es' h2 b.2 r.2⟩
   grind
  grind
def l6.d(h:l6 σ1 E k n es s s2){v:ah}{x f:D}{ps:List Prop}(a:wZ σ1.length k n es x=aa (f,ps))(b:az ps)(r:dj (σ1++[.buf E k n es]) s v x):dj σ1 s2 v f:=by
 cases x with
 |e x =>
  simp only[wZ]at a;split at a
  .rename_i a' p h1;cases a;exact h.e h1 b r
  grind
 |eX xs =>
  simp only[wZ]at a;split at a
  .rename_i a' p h1;cases a;obtain⟨vs,g,i⟩:=r;exact⟨vs,g,h.es' h1 b i⟩
  grind
 |any=>cases a;trivial
def aF.Jk(hh:aF (σ1++[.buf E k n es]) s)(D:rX σ1.length σ1=ab):
  ∃s2:St,aF σ1 s2/\eu s s2/\l6 σ1 E k n es s s2/\∀{σ0:List aP} {s0:St},cR σ0 s0 (σ1++[.buf E k n es]) s->σ0.length<=σ1.length->cR σ0 s0 σ1 s2:=by
 have hB:(σ1++[aP.buf E k n es])[σ1.length]?=aa (.buf E k n es):=by simp
 have O:s.β.length=σ1.length+1:=by rw[hh.len];simp
 have t:s.β[σ1.length]?=aa s.β[σ1.length]:=br (by omega);generalize s.β[σ1.length]=L at t;have q:=hh.box _ _ L hB t;obtain⟨M',J,F,I,T⟩:∃M':Mem,(∀b o v,s.M b o=aa v->M' b o=aa v)/\(∀b,b∉L.bs->∀o,M' b o=s.M b o)/\(∀b o v,M' b o=aa v->s.w.cell? ⟨b,o,ae⟩=aa v) /\
   (∀v k' o m,gn (σ1++[.buf E k n es]) s v (.bp σ1.length (.sl n k' o m))->k'=k->o+m<=n->Rd M' v (.sl af k m (qT o es))):=by
  rcases q with⟨rfl,rfl⟩|⟨b,c0,vs,zs,rfl,U,Y,W,S,Q,hM⟩
  .refine⟨s.M,λ_ _ _ h=>h,λ_ _ _=>rfl,hh.mem,λv k' o m r e l=>?_⟩;obtain⟨lv,⟨a,a0,cap,c0,p,h1,h2,h3,y,Z⟩,_,H⟩:=r;grind[Rd.jF]
  .let M':Mem:=λd o=>if d=b then vs[o]? else s.M d o;have G:∀d o v,s.M d o=aa v->M' d o=aa v:=λd o v p=>by grind
   refine⟨M',G,λd V o=>?_,λd o v p=>?_,λv k' o m r e l=>?_⟩
   .grind
   .by_cases e:d=b
    .subst e;simp only[M',cj]at p;simp only[aV,U];grind
    .simp only[M',e,b7]at p;exact hh.mem d o v p
   .subst e;obtain⟨lv,⟨a,a0,cap,c1,p,h1,h2,h3,y,Z⟩,_,H⟩:=r;obtain⟨L',f,A⟩:=(H _ _ _ _ hB).2 rfl;rw[t]at f;cases f;rw[y]at A;cases A;rw[p];have x:∀i,i<m->∀j c,(qT o es i)[j]?=aa c->∃u,vs[(o+i)*k'+j]?=aa u/\Rd s.M u c:=λi hi j c hj=>by rw[vh]at hj;exact Q.rd (o+i) (by omega) j c hj
    refine .sl b (o*k') (λi j=>(vs[(o+i)*k'+j]?).getD ai) h1 (by omega) (by simp) (λi hi=>by rw[vh];exact Q.width _ (by omega)) (λhm=>?_) (λi hi j c hj=>?_) (λi hi j c hj=>?_)
    .grind
    .grind
    .obtain⟨u,u1,u2⟩:=x i hi j c hj;rw[u1];exact u2.mono G
 have B:(σ1++[aP.buf E k n es]).set σ1.length .dead=σ1++[.dead]:=by simp
 obtain⟨R,q2⟩:=hh.gz (M':=M') (w':=s.w) (B':=.dead) (L':=⟨L.v,[]⟩) hB t ay (bh _) (λ_ _ _=>rfl) (λb _ g o=>F b g o) J I (by simp) rfl rfl rfl ay;rw[B]at R q2;have q3:=R.drop (rest:=[.dead]) D;refine⟨_,q3,⟨rfl,J,λb g o=>F b (g L (bH t)) o,I,λb g=>?_⟩,⟨λv a r z=>?_,λv k' o m r e l=>T v k' o m r e l⟩,λ{σ0 s0} st hle=>(st.trans (q2.m9 hh)).drop (rest:=[.dead]) hle⟩
 .rcases g with g|⟨L',f,g⟩
  .exact .inl g
  .have:=fV f;grind
 .exact(r.mono q2.ext hh.len).drop (rest:=[.dead]) z
end
def eb.Kr{P:aq}{ι:Type}{X:Cx P}{f:aJ}{args:List D}{σ:List aP}{res tw:ι->D}{σ1:ι->List aP}{E k:Nat}{n:ι->Nat}{es:ι->Nat->List C}(h:eb X f args σ res (λi=>σ1 i++[.buf E k (n i) (es i)])){ps:ι->List Prop}(g:∀i,wZ (σ1 i).length k (n i) (es i) (res i)=aa (tw i,ps i))(e:∀i,az (ps i))(b:∀i,rX (σ1 i).length (σ1 i)=ab)(a:∀i,σ.length<=(σ1 i).length):eb X f args σ tw σ1:=by refine⟨h.1,λs vs hr hh S cs hS=>h.2 s vs hr hh S cs λi fr v s' hl mh iX st=>?_⟩;obtain⟨s2,c1,c2,c3,c4⟩:=iX.Jk (b i);exact .ghost c2 (hS i fr v s2 (hl.mono c2.mem) (c3.d (g i) (e i) mh) c1 (c4 st (a i)))
def Ev.Kr{P:aq}{X:Cx P}{f:aJ}{args:List D}{σ:List aP}{res tw:D}{σ1:List aP}{E k n:Nat}{es:Nat->List C}(h:Ev X f args σ res (σ1++[.buf E k n es])){ps:List Prop}(e:wZ σ1.length k n es res=aa (tw,ps))(d:az ps)(b:rX σ1.length σ1=ab)(a:σ.length<=σ1.length):Ev X f args σ tw σ1 :=
 (eb.Kr (ι:=Unit) h.tc (λ_=>e) (λ_=>d) (λ_=>b) (λ_=>a)).DL
section
variable {P:aq}{T:List (Nat×TI)}{o:au}{d:ak->D}{σ:List aP}
def zL{x:ak}{t:aj}(h:o.op=.call {callee:=.builtin .clear,args:=#[x],argTypes:=#[t]})(a:ak->ah):
  aw a o=(do pure (.value (<-Builtin.clear_ #[t] o.type #[a x]))):=by simp[aw,h,resolve,invoke,builtin]
def Jj{M:Mem}{z:ah}{f:List C}{m k:Nat}(n:z.cells.toList.map qS=f.map aa)(hk:f.length=k):Flat M k m (λ_=>f) (Builtin.zeroCells z.cells m).toList:=by
 have e:z.cells.size=k:=by have:=dA List.length n;grind
 have l:dX [] ⟨[],M,default,λ_=>False⟩ z.cells.toList (f.map A.c):=kJ n;refine⟨by simp[Builtin.zeroCells,e],λ_ _=>hk,λi hi j c t=>?_⟩;have r:j<k:=by grind
 obtain⟨v,v1,q⟩:=l.get (j:=j) (a:=A.c c) (by grind);refine⟨v,?_,q⟩;have h:i*k+j<m*k:=by
  have:i*k+k<=m*k:=by rw[<-lj];exact eC k hi
  omega
 have b:(i*k+j) % k=j:=by grind[Nat.add_mul_mod_self_right,Nat.mod_eq_of_lt]
 have p:j<z.cells.size:=by omega
 have s:z.cells[j]=v:=by grind
 have g:z.cells[j]! = v:=by grind
 simp[Builtin.zeroCells,e,h,b,g]
def bF.Q7(hT:cN P T){x:ak}{t:aj}(h:o.op=.call {callee:=.builtin .clear,args:=#[x],argTypes:=#[t]}){i c:TI}{E:aj}(hi:bD T t=aa i)(hd:i.desc=.slice E)(hE:bD T E=aa c){l n q m:Nat}{J:aj}{es:Nat->List C}(hx:d x=.e (.one (.bp l (.sl n c.size q m))))(hl:σ[l]?=aa (.buf J c.size n es))(I:q+m<=n):
  bF P o d σ .any (σ.set l (.buf J c.size n (th q (q+m) c.zero es))):=by
 intro s ρ hh hr;have h1:=hr x;rw[hx]at h1;change gn σ s (ρ x) (.bp l _)at h1;obtain⟨lv,⟨a,a0,cap,c0,hv,W3,TC,Xv,U,W⟩,_,V⟩:=h1;obtain⟨L,Q,y⟩:=(V _ _ _ _ hl).2 rfl;rw[U]at y;have f:=(hT t i hi).TG;rw[hd]at f;rw[zL h,hv];by_cases hm:m=0
 .subst hm;have hz:th q (q+0) c.zero es=es:=by funext j;simp only[th];grind
  have hs:σ.set l (.buf J c.size n es)=σ:=by apply iM;grind
  rw[hz,hs];refine⟨.value (.tuple #[]),s,?_,ay,hh,.refl _ _,?_⟩
  .cases a<;>simp[Builtin.clear_,run_underlying f]
  .intro R p;cases a<;>simp[Builtin.clear_,run_underlying f,aM]at p
 .obtain⟨b,rfl,rfl⟩:=W (by omega);rcases hh.box l _ L hl Q with⟨_,rfl⟩|⟨b',c1,vs,H,rfl,g,N,O,S,hF,Y⟩
  .cases y
  .cases y;obtain⟨inf,z,z1,z2,z3,Z,z5,z6,z7⟩:=(hT E c hE).info;have A:=Jj (M:=s.M) (m:=m) z5 z7;have hlen:(Builtin.zeroCells z.cells m).toList.length=m*c.size:=A.len;have PK:=hF.len;have hb:q*c.size+m*c.size<=n*c.size:=by rw[<-ir];exact eC _ I
   have q2:=hF.T2 A I;have he:(λi=>if q<=i/\i<q+m then(λ_=>c.zero) (i-q)else es i)=th q (q+m) c.zero es:=rfl;rw[he]at q2;obtain⟨t1,t2⟩:=hh.dH hl Q N O S g q2 (by grind) Y;have k:∀v∈(Builtin.zeroCells z.cells m).toList,v.oneCell'=ab:=A.cell;have r:=run_storeCells_at P b (q*c.size) J (Builtin.zeroCells z.cells m).toList 0 (vs++H).toArray s.w g (by grind) k;have B:((vs++H).toArray.toList.take (q*c.size+0)++(Builtin.zeroCells z.cells m).toList++(vs++H).toArray.toList.drop (q*c.size+0+(Builtin.zeroCells z.cells m).toList.length))=vs.take (q*c.size)++(Builtin.zeroCells z.cells m).toList++vs.drop (q*c.size+(Builtin.zeroCells z.cells m).toList.length)++H:=by grind
   rw[B]at r;have F:∀u,(zeroValue E).run P u=.ok z u:=λu=>by simp[zeroValue,typeInfo,z1,Z]
   have X:∀u es,(zeroValue E).events P u es=es:=λu es=>by simp[zeroValue,typeInfo,z1,Z,aM]
   obtain⟨K,rfl⟩:∃K,m=K+1:=⟨m-1,by omega⟩
   refine⟨.value (.tuple #[]),_,?_,ay,t1,t2,?_⟩
   .simp[Builtin.clear_,run_underlying f,F,r]
   .intro R p;have G:R∈(storeCells ⟨b,q*c.size,ae⟩ (Builtin.zeroCells z.cells (K+1)).toList).events P s.w #[]:=by simp only[Builtin.clear_,aM,ik,la]at p;simpa[run_underlying f,F,X,r]using p
    rcases dE (Builtin.zeroCells z.cells (K+1)).toList 0 (vs++H).toArray s.w #[] g (by grind) k R G with Ja|⟨j,_,_,rfl⟩
    .grind
    .exact jE (bH Q) (by simp) (Y _)
end
section
variable {P:aq}{X:Cx P}{N:Nat}{Qf:Post}{K:List It}{φ:Fr}{σ:List aP}{all rest:List au}{o:au}
theorem AK.J2{φ':Fr}{σ':List aP}(h:∀s a,cm N σ s φ a->aF σ s->∃s':St,s'.w=s.w/\cm N σ' s' φ' a/\aF σ' s'/\Step σ s σ' s')(k:AK X N Qf (.ops all rest::K) .normal φ' σ'):AK X N Qf (.ops all rest::K) .normal φ σ:=by intro s a j hh b kk cs S idx hb jk hQ;obtain⟨s',g,e,c,st⟩:=h s a j hh;have d:=st.m9 hh;refine .ghost (.of hh c g d) ?_;exact k s' a e c b kk cs S idx hb jk λf σ2 s2 a2 q i h2 mf=>hQ f σ2 s2 a2 q i h2 (d.trans mf)
def AK.F0(t:Nat)(E k:Nat)(es':Nat->List C){k':Nat}{f:Nat->List C}(j:look φ t=.e (.one (.c (.sl ab k' 0 f))))(kk:AK X N Qf (.ops all rest::K) .normal ((t,.e (.one (.bp σ.length (.sl 0 k 0 0))))::φ) (σ++[.buf E k 0 es'])):AK X N Qf (.ops all rest::K) .normal φ σ:=by
 refine AK.J2 (λs a b hh=>?_) kk;have g:=b.slot t;rw[j]at g;obtain⟨i,d⟩:=hh.hO (B:=.buf E k 0 es') (L:=⟨.slice ae 0 0,[]⟩) (.refl _ _) rfl hh (.inl ⟨rfl,rfl⟩) (by simp);refine⟨{s with β:=s.β++[⟨.slice ae 0 0,[]⟩]},rfl,⟨b.size,b.defers.imp λ_ h1=>h1.mono d.ext,λu=>?_⟩,i,d⟩;simp only[look];cases h:aB t u with
 |false=>exact(b.slot u).mono d.ext hh.len
 |true =>
  have e:=bP h;subst e;exact va (E:=E) (es:=es') (eT g) (by simp) (by simp[<-hh.len])
def AK.F1{T:List (Nat×TI)}(hT:cN P T){t ty:aj}{x:ak}{j g:Nat}(h:o.op=.binOp .eql t x (.const (.slice ae j g)) ty){i:TI}{E:aj}(hi:bD T t=aa i)(F:i.desc=.slice E){tt:Bool}{k n:Nat}{es:Nat->List C}(v:bM φ x=.e (.one (.c (.sl tt k n es))))(D:o.guard=ae)(B:fR N o.dst=ab)(kk:∀b:Bool,(b=ab->n=0)->AK X N Qf (.ops all rest::K) .normal (kl o.dst (.e (.one (.c (.bool b)))) φ) σ):AK X N Qf (.ops all (o::rest)::K) .normal φ σ:=by
 refine AK.hand (ι:={b:Bool // b=ab->n=0}) (λb=>.e (.one (.c (.bool b.1)))) (λ_=>σ) D B (λs a z hh=>?_) λb=>kk b.1 b.2;have m:=cX z x;rw[v]at m;obtain⟨ad,cap,vs,m,_,_,_,_,G⟩:=(eT m).flat;have d:=(hT t i hi).TG;rw[F]at d;have q:=eT (by have:=cX z x;rw[v]at this;exact this);have r:ad.isNone=ab->n=0:=by
  intro M;rw[m]at q;cases q with
  |sl b off f A J L hk ha G u =>
   grind
 refine⟨⟨ad.isNone,r⟩,.value (.bool ad.isNone),s,.bool ad.isNone,?_,.inl rfl,Rd.bool,hh,.refl _ _,?_⟩
 .have u:(binOp .eql t (.slice ad n cap) (.slice ae j g)).run P s.w=.ok (.bool ad.isNone) s.w:=Go.Lib.run_eql_slice_nil s.w t E ad n cap j g d;have l:∀y,eqGuard .eql t x y (.slice ad n cap) (.slice ae j g)=pure ():=λy=>by simp[eqGuard]
  have e1:a.eval (.const (.slice ae j g))=.slice ae j g:=rfl;simp only[aw,h,m,e1,l];simp[u]
 .have H:∀es,(Op.equal t (.slice ad n cap) (.slice ae j g)).events P s.w es=es:=λes=>by show(aY (9999+1) t _ _).events P s.w es=es;unfold aY;cases ad<;>simp[underlying,d]
  have u:(Op.equal t (.slice ad n cap) (.slice ae j g)).run P s.w=.ok ad.isNone s.w:=by show(aY (9999+1) t _ _).run P s.w=_;grind[Go.Lib.run_equalIn_slice_nil]
  have l:∀y,eqGuard .eql t x y (.slice ad n cap) (.slice ae j g)=pure ():=λy=>by simp[eqGuard]
  have e1:a.eval (.const (.slice ae j g))=.slice ae j g:=rfl;intro I p;exfalso;simp only[aw,h,m,e1,l,binOp]at p;simp[u,H,aM]at p
end
def ey{P:aq}{t:aj}{i:TypeInfo}(h:P.types[t]?=aa i):P.info? t=aa i:=by unfold Tables.info?;rw[bm (ij.1 h).1];exact h
def cN.nil{P:aq}:cN P []:=λ_ _ h=>by cases h
def cN.cons{P:aq}{t:aj}{i:TI}{T:List (Nat×TI)}(h:dx P t i)(r:cN P T):cN P ((t,i)::T):=by
 intro b i2 h2;simp only[bD]at h2;cases a:aB t b with
 |true=>rw[a]at h2;cases h2;rw[<-bP a];exact h
 |false=>rw[a]at h2;exact r b i2 h2
def dx.mk1{P:aq}{t:aj}{i:TI}{n:TypeInfo}(h:P.underlying t=aa i.desc)(k:P.types[t]?=aa n)(a:(Ah i.desc==i.agg&&n.size==i.size&&n.bytes==i.bytes&&(!i.agg||n.zero.any λz=>match z with|.agg _=>ab|_=>af)&&i.zero.length==i.size&&i.eq.isEmpty)=ab:=by rfl)(b:n.zero.map (λz=>z.cells.toList.map qS)=aa (i.zero.map aa):=by rfl):dx P t i:=by
 simp only[bR,hI,List.isEmpty_iff]at a;obtain⟨⟨⟨⟨⟨a1,a2⟩,a3⟩,a4⟩,a5⟩,a6⟩:=a;cases c:n.zero with
 |none=>rw[c]at b;cases b
 |some z =>
  rw[c]at b a4;refine⟨h,a1,⟨n,z,ey k,a2,a3,c,rK b,?_,a5⟩,λh=>absurd a6 h⟩;cases d:i.agg with
  |false=>exact⟨#[],rfl⟩
  |true =>
   rw[d]at a4;cases z<;>first|exact⟨_,rfl⟩|cases a4
def cN.c1{P:aq}{t:aj}{i:TI}{n:TypeInfo}{T:List (Nat×TI)}(h:P.underlying t=aa i.desc)(k:P.types[t]?=aa n)(r:cN P T)(a:(Ah i.desc==i.agg&&n.size==i.size&&n.bytes==i.bytes&&(!i.agg||n.zero.any λz=>match z with|.agg _=>ab|_=>af)&&i.zero.length==i.size&&i.eq.isEmpty)=ab:=by rfl)(b:n.zero.map (λz=>z.cells.toList.map qS)=aa (i.zero.map aa):=by rfl):cN P ((t,i)::T):=cN.cons (dx.mk1 h k a b) r
namespace R1
abbrev pI:= "loop.example/depositary/impl"
abbrev pS:= "loop.example/depositary/spec"
abbrev f0(a:String)(b c:Nat)(d:String)(e:Nat)(f:Bool:=af):Field:={name:=a,type:=b,offset:=c,embedded:=f,tag:= "",pkgPath:=d,byteOffset:=e}
abbrev zS:C:=.sl ab 0 0 (λ_=>[])
@[simp] def E5(n:aj):TI:=⟨1,24,af,.slice n,[zS],[]⟩
@[simp] def I0(n:aj):TI:=⟨1,8,af,.pointer n,[.hY],[]⟩
@[simp] def CV(b:Nat)(k:IntKind):TI:=⟨1,b,af,.int k,[.int k 0],[]⟩
@[simp] def uS(s b:Nat)(f:Array Field)(z:List C)(e:List TypeDesc:=[]):TI:=⟨s,b,ab,.struct f,z,e⟩
def i2:TI:=CV 8 .i64
def i3:TI:=CV 8 .i64
def i4:TI:=⟨1,1,af,TypeDesc.bool,[.bool af],[]⟩
def i5:TI:=CV 1 .u8
def i6:TI:=CV 1 .u8
def i8:TI:=uS 4 24 #[f0 "x" 2 0 "runtime" 0,f0 "y" 3 1 "runtime" 8,f0 "signed" 4 2 "runtime" 16,f0 "code" 6 3 "runtime" 17] [.int .i64 0,.int .i64 0,.bool af,.int .u8 0]
def i9:TI:=⟨1,16,af,TypeDesc.string,[.str []],[]⟩
def i12:TI:=CV 8 .u64
def i16:TI:=I0 313
def i17:TI:=I0 320
def i20:TI:=⟨1,16,af,TypeDesc.interface #[],[.iw],[]⟩
def i21:TI:=CV 4 .i32
def i22:TI:=E5 5
def i23:TI:=E5 37
def i24:TI:=E5 41
def i25:TI:=E5 106
def i27:TI:=uS 3 72 #[f0 "Packs" 23 0 "" 0,f0 "Snaps" 24 1 "" 24,f0 "Log" 25 2 "" 48] [zS,zS,zS]
def i28:TI:=E5 76
def i35:TI:=E5 66
def i37:TI:=uS 2 32 #[f0 "No" 3 0 "" 0,f0 "Item" 35 1 "" 8] [.int .i64 0,zS]
def i39:TI:=E5 69
def i41:TI:=uS 2 32 #[f0 "No" 3 0 "" 0,f0 "All" 39 1 "" 8] [.int .i64 0,zS]
def i43:TI:=E5 9
def i45:TI:=E5 81
def i48:TI:=I0 90
def i57:TI:=⟨1,16,af,TypeDesc.interface #[("Error",252)],[.iw],[]⟩
def i60:TI:=I0 115
def i62:TI:=I0 60
def i66:TI:=uS 2 24 #[f0 "Name" 3 0 "" 0,f0 "Body" 9 1 "" 8] [.int .i64 0,.str []] [.int .i64,.string]
def g66:dx ag 66 i66:=⟨Tryz.underlying66,rfl,⟨_,_,ey Tryz.type66,rfl,rfl,rfl,rfl,⟨_,rfl⟩,rfl⟩,λ_=>kV (fs:=[f0 "Name" 3 0 "" 0,f0 "Body" 9 1 "" 8]) Tryz.underlying66 (by decide +kernel) Tryz.eqGuardType66 ⟨by decide,rfl,Tryz.underlying3,ay,by decide,rfl,Tryz.underlying9,ay,ay⟩⟩
def i67:TI:=E5 3
def i69:TI:=uS 2 40 #[f0 "Path" 9 0 "" 0,f0 "Names" 67 1 "" 16] [.str [],zS]
def i73:TI:=I0 142
def i76:TI:=uS 2 32 #[f0 "Path" 9 0 "" 0,f0 "Text" 9 1 "" 16] [.str [],.str []] [.string,.string]
def g76:dx ag 76 i76:=⟨Tryz.underlying76,rfl,⟨_,_,ey Tryz.type76,rfl,rfl,rfl,rfl,⟨_,rfl⟩,rfl⟩,λ_=>kV (fs:=[f0 "Path" 9 0 "" 0,f0 "Text" 9 1 "" 16]) Tryz.underlying76 (by decide +kernel) Tryz.eqGuardType76 ⟨by decide,rfl,Tryz.underlying9,ay,by decide,rfl,Tryz.underlying9,ay,ay⟩⟩
def i81:TI:=uS 2 16 #[f0 "Name" 3 0 "" 0,f0 "Pack" 3 1 "" 8] [.int .i64 0,.int .i64 0] [.int .i64,.int .i64]
def g81:dx ag 81 i81:=⟨Tryz.underlying81,rfl,⟨_,_,ey Tryz.type81,rfl,rfl,rfl,rfl,⟨_,rfl⟩,rfl⟩,λ_=>kV (fs:=[f0 "Name" 3 0 "" 0,f0 "Pack" 3 1 "" 8]) Tryz.underlying81 (by decide +kernel) Tryz.eqGuardType81 ⟨by decide,rfl,Tryz.underlying3,ay,by decide,rfl,Tryz.underlying3,ay,ay⟩⟩
def i84:TI:=E5 37
def i86:TI:=uS 3 72 #[f0 "packed" 84 0 pI 0 ab,f0 "snaps" 24 1 pI 24,f0 "log" 25 2 pI 48] [zS,zS,zS]
def i90:TI:=uS 2 32 #[f0 "b" 22 0 pS 0,f0 "p" 3 1 pS 24] [zS,.int .i64 0]
def i106:TI:=uS 2 16 #[f0 "By" 3 0 "" 0,f0 "Snap" 3 1 "" 8] [.int .i64 0,.int .i64 0] [.int .i64,.int .i64]
def Zi:dx ag 106 i106:=⟨Tryz.underlying106,rfl,⟨_,_,ey Tryz.type106,rfl,rfl,rfl,rfl,⟨_,rfl⟩,rfl⟩,λ_=>kV (fs:=[f0 "By" 3 0 "" 0,f0 "Snap" 3 1 "" 8]) Tryz.underlying106 (by decide +kernel) Tryz.eqGuardType106 ⟨by decide,rfl,Tryz.underlying3,ay,by decide,rfl,Tryz.underlying3,ay,ay⟩⟩
def i115:TI:=uS 1 16 #[f0 "what" 9 0 pI 0] [.str []] [.string]
def Zj:dx ag 115 i115:=⟨Tryz.underlying115,rfl,⟨_,_,ey Tryz.type115,rfl,rfl,rfl,rfl,⟨_,rfl⟩,rfl⟩,λ_=>kV (fs:=[f0 "what" 9 0 pI 0]) Tryz.underlying115 (by decide +kernel) Tryz.eqGuardType115 ⟨by decide,rfl,Tryz.underlying9,ay,ay⟩⟩
def i120:TI:=⟨1,8,af,TypeDesc.unsafePointer,[.hY],[]⟩
def i121:TI:=CV 8 .u64
def i123:TI:=uS 3 24 #[f0 "typ_" 17 0 "internal/reflectlite" 0,f0 "ptr" 120 1 "internal/reflectlite" 8,f0 "flag" 121 2 "internal/reflectlite" 16 ab] [.hY,.hY,.int .u64 0]
def i126:TI:=⟨1,16,af,TypeDesc.interface #[("AssignableTo",131),("Comparable",130),("Elem",127),("Implements",131),("Kind",129),("Name",252),("PkgPath",252),("Size",321),("String",252),("internal/reflectlite.common",314),("internal/reflectlite.uncommon",322)],[.iw],[]⟩
def i128:TI:=CV 1 .u8
def i136:TI:=E5 45
def i142:TI:=uS 4 32 #[f0 "spot" 81 0 pI 0,f0 "left" 73 2 pI 16,f0 "right" 73 3 pI 24] [.int .i64 0,.int .i64 0,.hY,.hY]
def i143:TI:=CV 8 .i64
def i169:TI:=I0 170
def i170:TI:=E5 66
def i179:TI:=⟨1,16,af,TypeDesc.interface #[("As",181)],[.iw],[]⟩
def i182:TI:=⟨1,16,af,TypeDesc.interface #[("Unwrap",183)],[.iw],[]⟩
def i184:TI:=⟨1,16,af,TypeDesc.interface #[("Unwrap",186)],[.iw],[]⟩
def i185:TI:=E5 57
def i200:TI:=CV 8 .u64
def i205:TI:=⟨1,16,af,TypeDesc.interface #[("Len",167),("Less",188),("Pop",210),("Push",206),("Swap",208)],[.iw],[]⟩
def i212:TI:=⟨1,16,af,TypeDesc.interface #[("Is",214)],[.iw],[]⟩
def i219:TI:=CV 8 .i64
def i227:TI:=CV 4 .u32
def i229:TI:=CV 8 .u64
def i230:TI:=E5 241
def i232:TI:=uS 0 0 #[] []
def i233:TI:=uS 0 0 #[] []
def i234:TI:=uS 0 0 #[] []
def i236:TI:=uS 1 8 #[f0 "_" 233 0 "sync/atomic" 0,f0 "_" 234 0 "sync/atomic" 0,f0 "v" 229 0 "sync/atomic" 0] [.int .u64 0]
def i238:TI:=uS 2 16 #[f0 "noCopy" 232 0 "sync" 0,f0 "state" 236 0 "sync" 0,f0 "sema" 227 1 "sync" 8] [.int .u64 0,.int .u32 0]
def i241:TI:=uS 2 24 #[f0 "piece" 9 0 pI 0,f0 "ok" 4 1 pI 16] [.str [],.bool af] [.string,.bool]
def Zk:dx ag 241 i241:=⟨Tryz.underlying241,rfl,⟨_,_,ey Tryz.type241,rfl,rfl,rfl,rfl,⟨_,rfl⟩,rfl⟩,λ_=>kV (fs:=[f0 "piece" 9 0 pI 0,f0 "ok" 4 1 pI 16]) Tryz.underlying241 (by decide +kernel) Tryz.eqGuardType241 ⟨by decide,rfl,Tryz.underlying9,ay,by decide,rfl,Tryz.underlying4,ay,ay⟩⟩
def i247:TI:=I0 249
def i249:TI:=uS 2 32 #[f0 "addr" 247 0 "strings" 0,f0 "buf" 22 1 "strings" 8] [.hY,zS]
def i254:TI:=CV 8 .u64
def i258:TI:=I0 3
def i278:TI:=I0 5
def i285:TI:=I0 281
def i306:TI:=uS 2 2 #[f0 "lo" 5 0 "unicode/utf8" 0,f0 "hi" 5 1 "unicode/utf8" 1] [.int .u8 0,.int .u8 0] [.int .u8,.int .u8]
def Zl:dx ag 306 i306:=⟨Tryz.underlying306,rfl,⟨_,_,ey Tryz.type306,rfl,rfl,rfl,rfl,⟨_,rfl⟩,rfl⟩,λ_=>kV (fs:=[f0 "lo" 5 0 "unicode/utf8" 0,f0 "hi" 5 1 "unicode/utf8" 1]) Tryz.underlying306 (by decide +kernel) Tryz.eqGuardType306 ⟨by decide,rfl,Tryz.underlying5,ay,by decide,rfl,Tryz.underlying5,ay,ay⟩⟩
def i307:TI:=⟨32,32,ab,TypeDesc.array 16 306,[.int .u8 0,.int .u8 0,.int .u8 0,.int .u8 0,.int .u8 0,.int .u8 0,.int .u8 0,.int .u8 0,.int .u8 0,.int .u8 0,.int .u8 0,.int .u8 0,.int .u8 0,.int .u8 0,.int .u8 0,.int .u8 0,.int .u8 0,.int .u8 0,.int .u8 0,.int .u8 0,.int .u8 0,.int .u8 0,.int .u8 0,.int .u8 0,.int .u8 0,.int .u8 0,.int .u8 0,.int .u8 0,.int .u8 0,.int .u8 0,.int .u8 0,.int .u8 0],[]⟩
def i308:TI:=I0 326
def i311:TI:=⟨0,0,ab,TypeDesc.array 0 16,[],[]⟩
def i313:TI:=uS 0 0 #[f0 "_" 311 0 "runtime" 0] []
def i315:TI:=CV 1 .u8
def i317:TI:=CV 4 .i32
def i318:TI:=CV 4 .i32
def i320:TI:=uS 11 48 #[f0 "Size_" 12 0 "" 0,f0 "PtrBytes" 12 1 "" 8,f0 "Hash" 227 2 "" 16,f0 "TFlag" 315 3 "" 20,f0 "Align_" 5 4 "" 21,f0 "FieldAlign_" 5 5 "" 22,f0 "Kind_" 128 6 "" 23,f0 "Equal" 316 7 "" 24,f0 "GCData" 278 8 "" 32,f0 "Str" 317 9 "" 40,f0 "PtrToThis" 318 10 "" 44] [.int .u64 0,.int .u64 0,.int .u32 0,.int .u8 0,.int .u8 0,.int .u8 0,.int .u8 0,.xZ,.hY,.int .i32 0,.int .i32 0]
def i326:TI:=uS 1 16 #[f0 "s" 9 0 "errors" 0] [.str []] [.string]
def Zm:dx ag 326 i326:=⟨Tryz.underlying326,rfl,⟨_,_,ey Tryz.type326,rfl,rfl,rfl,rfl,⟨_,rfl⟩,rfl⟩,λ_=>kV (fs:=[f0 "s" 9 0 "errors" 0]) Tryz.underlying326 (by decide +kernel) Tryz.eqGuardType326 ⟨by decide,rfl,Tryz.underlying9,ay,ay⟩⟩
def tt:List (Nat×TI):=[(2,i2),(3,i3),(4,i4),(5,i5),(6,i6),(8,i8),(9,i9),(12,i12),(16,i16),(17,i17),(20,i20),(21,i21),(22,i22),(23,i23),(24,i24),(25,i25),(27,i27),(28,i28),(35,i35),(37,i37),(39,i39),(41,i41),(43,i43),(45,i45),(48,i48),(57,i57),(60,i60),(62,i62),(66,i66),(67,i67),(69,i69),(73,i73),(76,i76),(81,i81),(84,i84),(86,i86),(90,i90),(106,i106),(115,i115),(120,i120),(121,i121),(123,i123),(126,i126),(128,i128),(136,i136),(142,i142),(143,i143),(169,i169),(170,i170),(179,i179),(182,i182),(184,i184),(185,i185),(200,i200),(205,i205),(212,i212),(219,i219),(227,i227),(229,i229),(230,i230),(232,i232),(233,i233),(234,i234),(236,i236),(238,i238),(241,i241),(247,i247),(249,i249),(254,i254),(258,i258),(278,i278),(285,i285),(306,i306),(307,i307),(308,i308),(311,i311),(313,i313),(315,i315),(317,i317),(318,i318),(320,i320),(326,i326)]
def tok:cN ag tt:=cN.c1 Tryz.underlying2 Tryz.type2 ( cN.c1 Tryz.underlying3 Tryz.type3 ( cN.c1 Tryz.underlying4 Tryz.type4 ( cN.c1 Tryz.underlying5 Tryz.type5 ( cN.c1 Tryz.underlying6 Tryz.type6 ( cN.c1 Tryz.underlying8 Tryz.type8 ( cN.c1 Tryz.underlying9 Tryz.type9 ( cN.c1 Tryz.underlying12 Tryz.type12 ( cN.c1 Tryz.underlying16 Tryz.type16 ( cN.c1 Tryz.underlying17 Tryz.type17 ( cN.c1 Tryz.underlying20 Tryz.type20 ( cN.c1 Tryz.underlying21 Tryz.type21 ( cN.c1 Tryz.underlying22 Tryz.type22 ( cN.c1 Tryz.underlying23 Tryz.type23 ( cN.c1 Tryz.underlying24 Tryz.type24 ( cN.c1 Tryz.underlying25 Tryz.type25 ( cN.c1 Tryz.underlying27 Tryz.type27 ( cN.c1 Tryz.underlying28 Tryz.type28 ( cN.c1 Tryz.underlying35 Tryz.type35 ( cN.c1 Tryz.underlying37 Tryz.type37 ( cN.c1 Tryz.underlying39 Tryz.type39 ( cN.c1 Tryz.underlying41 Tryz.type41 ( cN.c1 Tryz.underlying43 Tryz.type43 ( cN.c1 Tryz.underlying45 Tryz.type45 ( cN.c1 Tryz.underlying48 Tryz.type48 ( cN.c1 Tryz.underlying57 Tryz.type57 ( cN.c1 Tryz.underlying60 Tryz.type60 ( cN.c1 Tryz.underlying62 Tryz.type62 ( cN.cons g66 ( cN.c1 Tryz.underlying67 Tryz.type67 ( cN.c1 Tryz.underlying69 Tryz.type69 ( cN.c1 Tryz.underlying73 Tryz.type73 ( cN.cons g76 ( cN.cons g81 ( cN.c1 Tryz.underlying84 Tryz.type84 ( cN.c1 Tryz.underlying86 Tryz.type86 ( cN.c1 Tryz.underlying90 Tryz.type90 ( cN.cons Zi ( cN.cons Zj ( cN.c1 Tryz.underlying120 Tryz.type120 ( cN.c1 Tryz.underlying121 Tryz.type121 ( cN.c1 Tryz.underlying123 Tryz.type123 ( cN.c1 Tryz.underlying126 Tryz.type126 ( cN.c1 Tryz.underlying128 Tryz.type128 ( cN.c1 Tryz.underlying136 Tryz.type136 ( cN.c1 Tryz.underlying142 Tryz.type142 ( cN.c1 Tryz.underlying143 Tryz.type143 ( cN.c1 Tryz.underlying169 Tryz.type169 ( cN.c1 Tryz.underlying170 Tryz.type170 ( cN.c1 Tryz.underlying179 Tryz.type179 ( cN.c1 Tryz.underlying182 Tryz.type182 ( cN.c1 Tryz.underlying184 Tryz.type184 ( cN.c1 Tryz.underlying185 Tryz.type185 ( cN.c1 Tryz.underlying200 Tryz.type200 ( cN.c1 Tryz.underlying205 Tryz.type205 ( cN.c1 Tryz.underlying212 Tryz.type212 ( cN.c1 Tryz.underlying219 Tryz.type219 ( cN.c1 Tryz.underlying227 Tryz.type227 ( cN.c1 Tryz.underlying229 Tryz.type229 ( cN.c1 Tryz.underlying230 Tryz.type230 ( cN.c1 Tryz.underlying232 Tryz.type232 ( cN.c1 Tryz.underlying233 Tryz.type233 ( cN.c1 Tryz.underlying234 Tryz.type234 ( cN.c1 Tryz.underlying236 Tryz.type236 ( cN.c1 Tryz.underlying238 Tryz.type238 ( cN.cons Zk ( cN.c1 Tryz.underlying247 Tryz.type247 ( cN.c1 Tryz.underlying249 Tryz.type249 ( cN.c1 Tryz.underlying254 Tryz.type254 ( cN.c1 Tryz.underlying258 Tryz.type258 ( cN.c1 Tryz.underlying278 Tryz.type278 ( cN.c1 Tryz.underlying285 Tryz.type285 ( cN.cons Zl ( cN.c1 Tryz.underlying307 Tryz.type307 ( cN.c1 Tryz.underlying308 Tryz.type308 ( cN.c1 Tryz.underlying311 Tryz.type311 ( cN.c1 Tryz.underlying313 Tryz.type313 ( cN.c1 Tryz.underlying315 Tryz.type315 ( cN.c1 Tryz.underlying317 Tryz.type317 ( cN.c1 Tryz.underlying318 Tryz.type318 ( cN.c1 Tryz.underlying320 Tryz.type320 ( cN.cons Zm (cN.nil))))))))))))))))))))))))))))))))))))))))))))))))))))))))))))))))))))))))))))))))))
end R1
abbrev Bs:=List UInt8
abbrev dS(s:Bs):D:=.e (.one (.c (.str s)))
abbrev dI(n:Int):D:=.e (.one (.c (.int .i64 n)))
abbrev dU(n:Int):D:=.e (.one (.c (.int .u8 n)))
abbrev dB(b:Bool):D:=.e (.one (.c (.bool b)))
def ky{s:Bs}{i:Nat}:iR s i=s.getD i 0:=rfl
namespace R1
variable {X:Cx ag}
def iZ:Tryz.prog.follows Departure.mixedOrders=ab:=rfl
def Zn{X:Cx ag}{CT:List (Nat×dr)}(c:bE X CT)(ds:List (Nat×Bool)){N:Nat}{Qf:Post}(n:Nat){K b:List It}{φ φ':Fr}{σ σ':List aP}{a:List Prop}(h:AM.kW tt CT ds N n K φ σ []=aa (b,φ',σ',a))(d:az a)(k:AK X N Qf b .normal φ' σ'):AK X N Qf K .normal φ σ:=AK.kW iZ tok c ds n h d k
def qz{X:Cx ag}(ds:List (Nat×Bool)){N:Nat}{Qf:Post}(n:Nat){K b:List It}{φ φ':Fr}{σ σ':List aP}{a:List Prop}(h:AM.kW tt [] ds N n K φ σ []=aa (b,φ',σ',a))(c:az a)(k:AK X N Qf b .normal φ' σ'):AK X N Qf K .normal φ σ:=AK.kW iZ tok bE.nil ds n h c k
def bt{X:Cx ag}{N:Nat}{Qf:Post}{K b:List It}{φ φ':Fr}{σ σ':List aP}{a:List Prop}(h:AM.kW tt [] [] N 100 K φ σ []=aa (b,φ',σ',a))(c:az a)(k:AK X N Qf b .normal φ' σ'):AK X N Qf K .normal φ σ:=AK.kW iZ tok bE.nil [] 100 h c k
def dc{X:Cx ag}{N:Nat}{Qf:Post}{K b:List It}{φ φ':Fr}{σ σ':List aP}{a:List Prop}(h:AM.kW tt [] [] N 200 K φ σ []=aa (b,φ',σ',a))(c:az a)(k:AK X N Qf b .normal φ' σ'):AK X N Qf K .normal φ σ:=AK.kW iZ tok bE.nil [] 200 h c k
def aW{X:Cx ag}{CT:List (Nat×dr)}(c:bE X CT)(ds:List (Nat×Bool)){N:Nat}{Qf:Post}{K b:List It}{φ φ':Fr}{σ σ':List aP}{a:List Prop}(h:AM.kW tt CT ds N 100 K φ σ []=aa (b,φ',σ',a))(d:az a)(k:AK X N Qf b .normal φ' σ'):AK X N Qf K .normal φ σ:=AK.kW iZ tok c ds 100 h d k
def bl{X:Cx ag}{CT:List (Nat×dr)}(c:bE X CT)(ds:List (Nat×Bool)){N:Nat}{Qf:Post}{K b:List It}{φ φ':Fr}{σ σ':List aP}{a:List Prop}(h:AM.kW tt CT ds N 200 K φ σ []=aa (b,φ',σ',a))(d:az a)(k:AK X N Qf b .normal φ' σ'):AK X N Qf K .normal φ σ:=AK.kW iZ tok c ds 200 h d k
def aX{X:Cx ag}(ds:List (Nat×Bool)){N:Nat}{Qf:Post}{K b:List It}{φ φ':Fr}{σ σ':List aP}{a:List Prop}(h:AM.kW tt [] ds N 100 K φ σ []=aa (b,φ',σ',a))(c:az a)(k:AK X N Qf b .normal φ' σ'):AK X N Qf K .normal φ σ:=AK.kW iZ tok bE.nil ds 100 h c k
def bJ{X:Cx ag}(ds:List (Nat×Bool)){N:Nat}{Qf:Post}{K b:List It}{φ φ':Fr}{σ σ':List aP}{a:List Prop}(h:AM.kW tt [] ds N 200 K φ σ []=aa (b,φ',σ',a))(c:az a)(k:AK X N Qf b .normal φ' σ'):AK X N Qf K .normal φ σ:=AK.kW iZ tok bE.nil ds 200 h c k
def cf{X:Cx ag}{CT:List (Nat×dr)}(c:bE X CT){N:Nat}{Qf:Post}{K b:List It}{φ φ':Fr}{σ σ':List aP}{a:List Prop}(h:AM.kW tt CT [] N 100 K φ σ []=aa (b,φ',σ',a))(d:az a)(k:AK X N Qf b .normal φ' σ'):AK X N Qf K .normal φ σ:=AK.kW iZ tok c [] 100 h d k
def cw{X:Cx ag}{CT:List (Nat×dr)}(c:bE X CT){N:Nat}{Qf:Post}{K b:List It}{φ φ':Fr}{σ σ':List aP}{a:List Prop}(h:AM.kW tt CT [] N 200 K φ σ []=aa (b,φ',σ',a))(d:az a)(k:AK X N Qf b .normal φ' σ'):AK X N Qf K .normal φ σ:=AK.kW iZ tok c [] 200 h d k
def l9(b:Int):Bool:=decide (97<=b)&&decide (b<=101)
theorem OZ(b:Int):Ev X 94 [dU b] [] (dB (l9 b)) []:=by
 refine Ev.bQ Tryz.func94 rfl λ_=>?_;by_cases h:97<=b
 .refine aX [(4,ab)] rfl ?_ (AK.bw rfl ?_)<;>simp[h,l9]
 .refine aX [(4,af)] rfl ?_ (AK.bw rfl ?_)<;>simp[h,l9]
def eP(b:UInt8):Bool:=decide (97<=b.toNat)&&decide (b.toNat<=122)
def b6(s:Bs):Bool:=s.all eP
def sO{s:Bs}(h:∀j,j<s.length->eP (s.getD j 0)=ab):b6 s=ab:=by simp only[b6,List.all_eq_true];grind[List.getElem_of_mem]
def kG{s:Bs}{j:Nat}(h:j<s.length)(b:eP (s.getD j 0)=af):b6 s=af:=by
 cases a:b6 s with
 |false=>rfl
 |true =>
  simp only[b6,List.all_eq_true]at a;grind
theorem E6(s:Bs):Ev X 95 [dS s] [] (dB (b6 s)) []:=by
 refine Ev.bQ Tryz.func95 rfl λe=>?_;have g:=e.str 0 rfl;refine bt rfl ay ?_;refine AK.wI (λi=>i<=s.length/\∀j,j<i->eP (s.getD j 0)=ab) (λi:Nat=>[(0,dS s),(3,dI i)]) (λ_=>[]) (λi=>s.length-i) 0 rfl (by simp) ⟨by omega,by omega⟩ rfl ?_;rintro i ⟨hi,c⟩;by_cases h:i<s.length
 .generalize a:s.getD i 0=b;by_cases k:b.toNat<97
  .refine aX [(7,ab),(13,ab)] rfl ?_ (AK.iC (cp.zero rfl ?_))
   .simp only[az,ky,ba,a];omega
   .rw[az,kG h (by rw[a];simp only[eP,pK,bO];omega)]
  .by_cases f:b.toNat>122
   .refine aX [(7,ab),(13,af),(18,ab)] rfl ?_ (AK.iC (cp.zero rfl ?_))
    .simp only[az,ky,ba,bO,a];omega
    .rw[az,kG h (by rw[a];simp only[eP,pK,bO];omega)]
   .refine aX [(7,ab),(13,af),(18,af)] rfl ?_ (AK.again (i+1) rfl ?_ ?_ ?_ rfl)
    .simp only[az,ky,ba,bO,a,bA];omega
    .simp
    .refine⟨by omega,λj d=>?_⟩;rcases zl.1 d with d|rfl
     .grind
     .rw[a];simp only[eP,bR,ba];omega
    .omega
 .refine aX [(7,af)] rfl (by simp;omega) (AK.leave rfl rfl ?_);refine bt rfl ay (AK.bw rfl ?_);rw[az,sO (λj d=>c j (by omega))]
end R1
def Ev.args{P:aq}{X:Cx P}{f:aJ}{args CW:List D}{σ σ':List aP}{res:D}(h:Ev X f CW σ res σ')(hl:∀s vs,cg σ s vs args->cg σ s vs CW):Ev X f args σ res σ' :=
 ⟨h.1,λs vs hr hh=>h.2 s vs (hl s vs hr) hh⟩
def kX(a:Nat):D->Option (Nat×(Nat->List C))
 |.e (.one (.c (.sl _ k n es)))=>match aB k a with
  |true=>aa (n,es)
  |false=>match aB n 0 with
   |true=>aa (0,λ_=>[])
   |false=>ae
 |_=>ae
def LI{g:Nat}{d:D}{n:Nat}{es:Nat->List C}(h:kX g d=aa (n,es)){σ:List aP}{s:St}{v:ah}(r:dj σ s v d):Rd s.M v (.sl af g n es):=by
 unfold kX at h;split at h
 .rename_i t k m es';split at h
  .rename_i hk;have e:=bP hk;subst e;cases h;exact(eT r).loose
  .split at h
   .rename_i j;have e:=bP j;subst e;cases h;have r':=eT r;cases r' with
    |sl b off f a i l hk ha hm hr=>exact Rd.sl b off f a i (by simp) (by omega) (by omega) (by omega) (by omega)
   grind
 grind
def AE{α:Type}(enc:α->List C)(bZ:α)(l:List α):Nat->List C:=λi=>enc (l.getD i bZ)
structure mg(α:Type) where
 k:Nat
 enc:α->List C
 dec:List C->α
 bZ:α
 inv:∀a,dec (enc a)=a
 len:∀a,(enc a).length=k
namespace mg
variable {α:Type}(c:mg α)
def list(n:Nat)(es:Nat->List C):List α:=(bg n).map λi=>c.dec (es i)
def fn(l:List α):Nat->List C:=AE c.enc c.bZ l
def fits(n:Nat)(es:Nat->List C):Prop:=∀i,i<n->es i=c.enc (c.dec (es i))
def sl(l:List α):D:=.e (.one (.c (.sl af c.k l.length (c.fn l))))
def CX{n:Nat}{es:Nat->List C}:(c.list n es).length=n:=by simp[list]
def list_fn(l:List α):c.list l.length (c.fn l)=l:=by
 apply rI
 .simp[list]
 .intro i b a;simp[list,fn,AE,ar,br a,c.inv]
def aU(l:List α){n:Nat}:c.fits n (c.fn l):=λi _=>by simp[fn,AE,c.inv]
def O0{n:Nat}{es:Nat->List C}(h:c.fits n es):cv n es (c.fn (c.list n es)):=by intro i hi;rw[h i hi];simp[fn,AE,list,ar,hi]
def jS{d:D}{n:Nat}{es:Nat->List C}(h:kX c.k d=aa (n,es))(b:c.fits n es){σ:List aP}{s:St}{v:ah}(r:dj σ s v d):dj σ s v (c.sl (c.list n es)):=by have e:=LI h r;have a:=e.Dz (c.O0 b);show Rd s.M v (.sl af c.k (c.list n es).length _);rw[c.CX];exact a
end mg
def cK(s:Bs)(i:Nat):Int:=(s.getD i 0).toNat
theorem cM(s:Bs)(j:Int):((iR s j).toNat:Int)=cK s j.toNat:=rfl
abbrev bz:=Bs×Bs
def Ck(cs:List C)(j:Nat):Bs:=match dt j cs with|some (.str s)=>s|_=>[]
def xc(cs:List C)(j:Nat):Int:=match dt j cs with|some (.int _ s)=>s|_=>0
def cF:mg bz:={k:=2,enc:=λf=>[.str f.1,.str f.2],dec:=λcs=>(Ck cs 0,Ck cs 1),bZ:=([],[]),inv:=λ_=>rfl,len:=λ_=>rfl}
namespace R1
variable {X:Cx ag}
def Zo:dr:=λargs σ=>match args,σ with
 |[.e (.one (.c (.int .u8 b)))],[]=>aa (dB (l9 b),[],[])
 |_,_=>ae
def t94:ee X 94 Zo:=by intro args σ res σ' obs h _;unfold Zo at h;grind[OZ]
def Xq:dr:=λargs σ=>match args,σ with
 |[.e (.one (.c (.str b)))],[]=>aa (dB (b6 b),[],[])
 |_,_=>ae
def t95:ee X 95 Xq:=by intro args σ res σ' obs h _;unfold Xq at h;grind[E6]
def ct1:List (Nat×dr):=[(94,Zo),(95,Xq)]
def CY:bE X ct1:=bE.cons t94 (bE.cons t95 bE.nil)
def dD(s:Bs):Bool:=if s.length=1 then l9 (cK s 0)else if s.length=3 then l9 (cK s 0)&&(cK s 1==47)&&l9 (cK s 2)else af
theorem Ip(s:Bs):Ev X 50 [dS s] [] (dB (dD s)) []:=by
 refine Ev.bQ Tryz.func50 rfl λf=>?_;by_cases e:s.length=1
 .refine aW CY [(6,ab)] rfl ?_ (AK.bw rfl ?_)
  .simp[e]
  .simp[dD,e,cM]
 .by_cases a:s.length=3
  .by_cases b:l9 (cK s 0)=ab
   .by_cases d:cK s 1=47
    .refine aW CY [(6,af),(11,ab),(14,ab),(18,ab)] rfl ?_ (AK.bw rfl ?_)
     .simp[a,cM,b,d]
     .simp[dD,a,b,d,cM]
    .refine aW CY [(6,af),(11,ab),(14,ab),(18,af)] rfl ?_ (AK.bw rfl ?_)
     .simp[a,cM,b,d]
     .simp[dD,a,b,d]
   .refine aW CY [(6,af),(11,ab),(14,af)] rfl ?_ (AK.bw rfl ?_)
    .simp[a,cM,b]
    .simp[dD,a,b]
  .refine aW CY [(6,af),(11,af)] rfl ?_ (AK.bw rfl ?_)
   .simp;omega
   .simp[dD,e,a]
def ef(s:Bs):Bool:=decide (s.length<=40)&&b6 s
theorem Iq(s:Bs):Ev X 51 [dS s] [] (dB (ef s)) []:=by
 refine Ev.bQ Tryz.func51 rfl λb=>?_;by_cases a:s.length<=40
 .refine aW CY [(5,ab)] rfl ?_ (AK.bw rfl ?_)
  .simp;omega
  .simp[ef,a]
 .refine aW CY [(5,af)] rfl ?_ (AK.bw rfl ?_)
  .simp;omega
  .simp[ef,a]
def clash(a b:Bs):Bool:=(a.length != b.length)&&(cK a 0==cK b 0)
def LJ(a b:Bs)(h:a≠[])(g:b≠[]):Ev X 52 [dS a,dS b] [] (dB (clash a b)) []:=by
 have d:=List.length_pos_iff.2 h;have e:=List.length_pos_iff.2 g;refine Ev.bQ Tryz.func52 rfl λi=>?_;by_cases f:a.length=b.length
 .refine aX [(9,af)] rfl ?_ (AK.bw rfl ?_)
  .simp[f]
  .simp[clash,f]
 .refine aX [(9,ab)] rfl ?_ (AK.bw rfl ?_)
  .simp[d,e];omega
  .simp[clash,f,cM]
end R1
section
variable {P:aq}{X:Cx P}
def Yields{ι:Type}(X:Cx P)(d:Nat)(ds:List D)(σ:List aP)(res:Bool)(σ':ι->List aP):Prop :=
 ∀s (vs:List ah) (l:Nat),cg σ s vs ds->aF σ s->(∃L,s.β[d]?=aa L/\L.v=.func (.yield l) #[] #[]) ->
  ∃fn tmps assign body,(Instr.yield l vs.toArray).run P s.w=.ok (.round l fn tmps assign body) s.w/\(Instr.yield l vs.toArray).events P s.w #[]=#[⟨.obj l,af,af⟩] /\
  ∀(S:av->St->Prop) (c:aR) (cs:List aR),(∀i s',aF (σ' i) s'->cR σ s (σ' i) s'->fA X S (G (c.finish (.bool res)) cs) s') ->
   fA X S (G (Frame.round l fn tmps assign body .normal) (c::cs)) s
def mE{w:aA}{l:Nat}{r:Loop}(h:w.heap[l]?=aa (.loop r)):(Instr.getLoop l).run P w=.ok r w/\∀es,(Instr.getLoop l).events P w es=es.push ⟨.obj l,af,af⟩:=by
 have c:(getObj l).run P w=.ok (.loop r) w:=by simp only[getObj,Sem.run,h]
 have d:∀es,(getObj l).events P w es=es.push ⟨.obj l,af,af⟩:=λes=>by simp only[getObj,Sem.events,Sem.runT,h];rfl
 constructor
 .simp[Instr.getLoop,c]
 .intro es;simp[Instr.getLoop,c,d]
def po{w:aA}{l:Nat}{r r':Loop}(h:w.heap[l]?=aa (.loop r)):(setObj l (.loop r')).run P w=.ok () {w with heap:=w.heap.setIfInBounds l (.loop r')}/\∀es,(setObj l (.loop r')).events P w es=es.push ⟨.obj l,ab,af⟩:=by
 constructor
 .simp only[setObj,Sem.run,h]
 .intro es;simp only[setObj,Sem.events,Sem.runT,h];rfl
def Hr{w:aA}{l:Nat}{r:Loop}{args:Array ah}(h:w.heap[l]?=aa (.loop r))(c:args.size=r.params.size):
  (Instr.yield l args).run P w=.ok (.round l r.fn ((r.params.zip args).foldl (λtmps (t,a)=>tmps.setIfInBounds t a) r.tmps) r.assign r.body) w/\(Instr.yield l args).events P w #[]=#[⟨.obj l,af,af⟩]:=by
 obtain⟨d,e⟩:=mE (P:=P) h;constructor
 .simp[Instr.yield,d,c]
 .simp[Instr.yield,d,e,c]
def Hs{w:aA}{l:Nat}{r:Loop}(h:w.heap[l]?=aa (.loop r))(c:r.state=.ready):
  (Instr.beginRound l).run P w=.ok () {w with heap:=w.heap.setIfInBounds l (.loop {r with state:=.busy})}/\(Instr.beginRound l).events P w #[]=#[⟨.obj l,af,af⟩,⟨.obj l,ab,af⟩]:=by
 obtain⟨d,g⟩:=mE (P:=P) h;obtain⟨e,f⟩:=po (P:=P) (r':={r with state:=.busy}) h;constructor
 .simp[Instr.beginRound,d,e,c]
 .simp[Instr.beginRound,d,g,e,f,c]
def zY{w:aA}{l:Nat}{r:Loop}(h:w.heap[l]?=aa (.loop r))(j:Option Code):
  (Instr.endRound l j).run P w=.ok (.bool j.isNone) {w with heap:=w.heap.setIfInBounds l (.loop {r with state:=if j.isNone then .ready else .done,pending:=j})}/\(Instr.endRound l j).events P w #[]=#[⟨.obj l,af,af⟩,⟨.obj l,ab,af⟩]:=by
 obtain⟨d,e⟩:=mE (P:=P) h;obtain⟨c,f⟩:=po (P:=P) (r':={r with state:=if j.isNone then .ready else .done,pending:=j}) h;constructor
 .simp only[Instr.endRound,bL,d,c,bU,dn]
 .simp only[Instr.endRound,aM,d,e,c,f,aO,Sem.events_pure];rfl
def BQ{w:aA}{l:Nat}{r:Loop}(h:w.heap[l]?=aa (.loop r))(c:r.state≠.busy):
  (Instr.endLoop l).run P w=.ok r.pending {w with heap:=w.heap.setIfInBounds l (.loop {r with state:=.exhausted})}/\(Instr.endLoop l).events P w #[]=#[⟨.obj l,af,af⟩,⟨.obj l,ab,af⟩]:=by
 obtain⟨d,f⟩:=mE (P:=P) h;obtain⟨g,e⟩:=po (P:=P) (r':={r with state:=.exhausted}) h;have i:(r.state==.busy)=af:=by cases j:r.state<;>simp_all
 constructor
 .simp[Instr.endLoop,d,g,c]
 .simp[Instr.endLoop,d,f,e,c]
section steps
variable {b:aR}{a:Act}{k:List Item}{cs:List aR}{w:aA}{main:Bool}
def BR{o:au}{f:ak}{xs:Array ak}{c:Array aj}{l:Nat}(g:o.op=.call {callee:=.value f,args:=xs,argTypes:=c})(e:a.eval f=.func (.yield l) #[] #[]):
  (aw a.eval o).run P w=(Instr.yield l (xs.toList.map a.eval).toArray).run P w/\(aw a.eval o).events P w #[]=(Instr.yield l (xs.toList.map a.eval).toArray).events P w #[]:=by
 have d:xs.map a.eval=(xs.toList.map a.eval).toArray:=by grind
 constructor
 .simp[aw,g,resolve,e,Deferred.ofValue,invoke,d]
 .simp[aw,g,resolve,e,Deferred.ofValue,invoke,d]
def JW{ops:Array au}{i:Nat}{rest:List Nat}{o:au}{l:Nat}{fn:aJ}{tmps:Array ah}{assign body:Code}{w':aA}(g:ops[i]?=aa o)(f:bd o (yielded ops a.tmps)=ab)(hk:b.kind≠.early)(e:(aw a.eval o).run P w=.ok (.round l fn tmps assign body) w'):
  aH P main (G (b.aT a (.inRegion ops (i::rest)::k)) cs) w=.go (G (Frame.round l fn tmps assign body .normal) (b.aT a (.inRegion ops (i::rest)::k)::cs)) w' (Go.Conc.listed P b.fn a o w):=by
 have d:(b.kind==CallKind.early)=af:=by grind
 rw[vd g f (λc h=>by grind[rR])];simp[stepG.apply,e,G,Frame.aT,d,GStep.after,Go.Conc.listed]
def JX{l:Nat}{r:Loop}(e:b.roundOf=aa l)(hk:b.kind≠.early)(h:w.heap[l]?=aa (.loop r))(d:r.state=.ready):
  aH P main (G (b.aT a (.beginRound::k)) cs) w=.go (G (b.aT a k) cs) {w with heap:=w.heap.setIfInBounds l (.loop {r with state:=.busy})} (seen P b.fn #[⟨.obj l,af,af⟩,⟨.obj l,ab,af⟩]):=by
 obtain⟨g,f⟩:=Hs (P:=P) h d;have c:(b.kind==CallKind.early)=af:=by grind
 simp[G,aH,stepG.exec,stepG.apply,Frame.aT,e,c,g,f,GStep.after,Frame.finish]
def BS{l:Nat}{r:Loop}{j:Option Code}{e:List Item}{c:aR}(f:b.roundOf=aa l)(hk:b.kind=.normal)(h:w.heap[l]?=aa (.loop r))(m:(j=ae/\e=[])∨(j=aa .ret/\∃k1,e=.code .ret::k1)∨(∃id k1,j=aa (.exit id)/\e=.code (.exit id)::k1/\exitTo id k1=ae)):
  aH P main (G (b.aT a e) (c::cs)) w=.go (G (c.finish (.bool j.isNone)) cs) {w with heap:=w.heap.setIfInBounds l (.loop {r with state:=if j.isNone then .ready else .done,pending:=j})} (seen P b.fn #[⟨.obj l,af,af⟩,⟨.obj l,ab,af⟩]):=by
 obtain⟨d,g⟩:=zY (P:=P) h j;rcases m with⟨rfl,rfl⟩|⟨rfl,k1,rfl⟩|⟨id,k1,rfl,rfl,i⟩
 .simp only[Option.isNone_none,cj]at d;simp[G,aH,stepG.exec,Frame.aT,f,d,g,GStep.after,doReturn,hk]
 .simp only[Option.isNone_some,b7,jz]at d;simp[G,aH,stepG.exec,Frame.aT,f,d,g,GStep.after,doReturn,hk]
 .simp only[Option.isNone_some,b7,jz]at d;simp[G,aH,stepG.exec,Frame.aT,f,d,g,GStep.after,doReturn,hk,i]
def D4{l:Nat}{r:Loop}(h:w.heap[l]?=aa (.loop r))(c:r.state≠.busy):
  aH P main (G (b.aT a (.endRangeFunc l::k)) cs) w=.go (G (b.aT a ((r.pending.map Item.code).toList++k)) cs) {w with heap:=w.heap.setIfInBounds l (.loop {r with state:=.exhausted})} (seen P b.fn #[⟨.obj l,af,af⟩,⟨.obj l,ab,af⟩]):=by obtain⟨e,d⟩:=BQ (P:=P) h c;simp[G,aH,stepG.exec,Frame.aT,e,d,GStep.after]
def ya{fn:aJ}{tmps:Array ah}{params:Array Tmp}{assign body:Code}:
  (Instr.enterLoop fn tmps params assign body ae).run P w=.ok (w.heap.size+1,[{target:=.collected w.heap.size,args:=#[]}]) {w with heap:=(w.heap.push (.deferred (aa []))).push (.loop {state:=.ready,pending:=ae,fn,tmps,params,assign,body,defers:=w.heap.size})} /\
  (Instr.enterLoop fn tmps params assign body ae).events P w #[]=#[]:=by
 have c:∀(o:Obj) (w:aA),(newObj o).run P w=.ok w.heap.size {w with heap:=w.heap.push o}:=λo w=>by simp only[newObj,Sem.run]
 have d:∀(o:Obj) (w:aA) es,(newObj o).events P w es=es:=λo w es=>by simp only[newObj,Sem.events,Sem.runT]
 constructor
 .simp[Instr.enterLoop,c];rfl
 .simp[Instr.enterLoop,c,d]
def zZ{f:ak}{ps:Array Tmp}{assign body:Code}{F:aJ}{fn:Func}{c:List ah}(p:b.roundOf=ae)(hk:b.kind≠.early)(i:P.funcs[F]?=aa fn)(l:(fn.name== "runtime.NumGoroutine")=af)(j:fn.body.isNone=af)(o:a.eval f=.func (.func F) #[] c.toArray):
  aH P main (G (b.aT a (.code (.rangeFunc f ps assign body)::k)) cs) w =
   .go (G (Frame.enter P F (Value.func (.yield (w.heap.size+1)) #[] #[]::c).toArray .normal) (b.aT {a with defers:={target:=.collected w.heap.size,args:=#[]}::a.defers} (.inRangeFunc (w.heap.size+1)::k)::cs))
    {w with heap:=(w.heap.push (.deferred (aa []))).push (.loop {state:=.ready,pending:=ae,fn:=b.fn,tmps:=a.tmps,params:=ps,assign,body,defers:=w.heap.size})} #[]:=by
 obtain⟨r,q⟩:=ya (P:=P) (w:=w) (fn:=b.fn) (tmps:=a.tmps) (params:=ps) (assign:=assign) (body:=body);have h:(b.kind==CallKind.early)=af:=by grind
 have g:fn.name≠ "runtime.NumGoroutine":=by grind
 have e:fn.body≠ae:=by grind
 have n:∀(d:List Deferred) (t:List Item) (m:FrameMode),({fn:=b.fn,tmps:=a.tmps,todo:=t,defers:=d,mode:=m,kind:=b.kind,roundOf:=b.roundOf}:aR).eval f=.func (.func F) #[] c.toArray:=by intro d t m;rw[<-o];cases f<;>rfl
 simp only[G,aH,stepG.exec,Frame.aT,p]at n⊢;simp[r,q,GStep.after,stepG.apply,resolve,n,Deferred.ofValue,invoke,callFunc,i,g,e,h,seen];rfl
end steps
end
section
variable {P:aq}{X:Cx P}
def aF.z0{σ:List aP}{s:St}(hh:aF σ s){a N:Nat}{φ0:Fr}{r:Loop}(hB:σ[a]?=aa (.loop N φ0 r)){l:Nat}(hl:∃L,s.β[a]?=aa L/\L.v=.func (.yield l) #[] #[]):
  ∃tmps fn df,s.β[a]?=aa ⟨.func (.yield l) #[] #[],[l]⟩/\s.w.heap[l]?=aa (.loop {r with tmps:=tmps,fn:=fn,defers:=df})/\tmps.size=N/\(∀t,dj σ s (tmps.getD t ai) (look φ0 t))/\(∀o,s.M l o=ae):=by obtain⟨L,h1,h2⟩:=hl;obtain⟨l',tmps,fn,df,f,d,c,b,e⟩:=hh.box a _ L hB h1;grind
def aF.z8{σ:List aP}{s:St}(hh:aF σ s){a N:Nat}{φ0:Fr}{r r':Loop}{B':aP}(hB:σ[a]?=aa (.loop N φ0 r)){l:Nat}{tmps:Array ah}{fn df:Nat}(k:s.β[a]?=aa ⟨.func (.yield l) #[] #[],[l]⟩)(A:s.w.heap[l]?=aa (.loop {r with tmps:=tmps,fn:=fn,defers:=df}))(u:tmps.size=N)(g:∀t,dj σ s (tmps.getD t ai) (look φ0 t))(x:∀o,s.M l o=ae)(c:B'=.dead∨B'=.loop N φ0 r'):
  aF (σ.set a B') {s with w:={s.w with heap:=s.w.heap.setIfInBounds l (.loop {r' with tmps:=tmps,fn:=fn,defers:=df})}}/\Step σ s (σ.set a B') {s with w:={s.w with heap:=s.w.heap.setIfInBounds l (.loop {r' with tmps:=tmps,fn:=fn,defers:=df})}}:=by
 have y:l<s.w.heap.size:=hh.lt _ (bH k) l (by simp);have hk:∀b,b≠l->(s.w.heap.setIfInBounds l (.loop {r' with tmps:=tmps,fn:=fn,defers:=df}))[b]?=s.w.heap[b]?:=λb j=>by grind
 have z:s.β.set a ⟨.func (.yield l) #[] #[],[l]⟩=s.β:=by apply iM;grind
 have m:a<σ.length:=(bY.1 hB).1;have d:gy (.loop N φ0 r) ⟨.func (.yield l) #[] #[],[l]⟩ B' ⟨.func (.yield l) #[] #[],[l]⟩:=by rcases c with rfl|rfl<;>rfl
 have ex:Ext σ s (σ.set a B') {s with w:={s.w with heap:=s.w.heap.setIfInBounds l (.loop {r' with tmps:=tmps,fn:=fn,defers:=df})}}:=by
  refine⟨λ_ _ _ h=>h,λi B L p f=>?_⟩;by_cases e:a=i
  .grind
  .exact⟨B,L,by grind,f,.refl _ _⟩
 have:=hh.gz (M':=s.M) (w':={s.w with heap:=s.w.heap.setIfInBounds l (.loop {r' with tmps:=tmps,fn:=fn,defers:=df})}) (B':=B') (L':=⟨.func (.yield l) #[] #[],[l]⟩) hB k d (by simp) (λb _ j=>hk b (by grind)) (λ_ _ _ _=>rfl) (λ_ _ _ h=>h)
  (λb o v q=>by
   have n:b≠l:=by grind
   rw[<-hh.mem b o v q];simp only[aV]
   grind) (λb j=>by grind) rfl rfl rfl (by
   rcases c with rfl|rfl
   .trivial
   .refine⟨l,tmps,fn,df,rfl,?_,u,λt=>?_,x⟩
    .grind
    .have:=(g t).mono ex hh.len
     grind)
 grind
def AK.yield{ι:Type}{N:Nat}{Qf:Post}{K:List It}{φ:Fr}{σ:List aP}{σ':ι->List aP}{all rest:List au}{o:au}{E:ak}{xs:Array ak}{n:Array aj}{h:Nat}{ds:List D}{res:Bool}(O:Yields X h ds σ res σ')(J:o.guard=ae)(I:fR N o.dst=ab)(Y:o.op=.call {callee:=.value E,args:=xs,argTypes:=n}){N0:Nat}{φ0:Fr}{r:Loop}(A:σ[h]?=aa (.loop N0 φ0 r))(Q:bM φ E=.e (.one (.ref h)))(x:xs.toList.map (bM φ)=ds)(k:∀j,AK X N Qf (.ops all rest::K) .normal (kl o.dst (.e (.one (.c (.bool res)))) φ) (σ' j)):AK X N Qf (.ops all (o::rest)::K) .normal φ σ:=by
 intro s a f hh b kk cs S idx hb jk hQ;cases idx with
 |nil=>exact jk.elim
 |cons j idx =>
 refine .next rfl λi p=>?_;have m:=X.iv p;have d:=hh.rely m;have C:=f.rely m hh;have G:=cX C E;rw[Q]at G;obtain⟨_,L,u,B,_⟩:=(show gn _ i _ (.ref h)from G)
 obtain⟨l,tmps,fn,df,V,h4,h5,h6,h7⟩:=d.box h _ L A u;subst V;have v:cg σ i (xs.toList.map a.eval) ds:=by grind[lJ,cX]
 obtain⟨U,z,assign,body,H,y2,R⟩:=O i (xs.toList.map a.eval) l v d ⟨_,u,rfl⟩;obtain⟨W,Z⟩:=BR (P:=P) (w:=i.w) (a:=a) Y B;refine⟨_,i,_,JW jk.1 (dC J) hb (W.trans H),⟨⟨σ,σ,d,d,.refl _ _⟩,eY.seen ?_⟩,R S _ _ λF s' iX st=>?_⟩
 .rw[Z,y2];exact .one (o8 (L:=⟨.func (.yield l) #[] #[],[l]⟩) (bH u) (by simp))
 have g:=kh (b:=b) (a:=a) (k:=kk) all.toArray j idx (.bool res);rw[jk.1]at g;simp only[nY]at g;rw[g];refine k F s' _ ?_ iX b kk cs S idx hb jk.2 λy σ2 s2 a2 q M h2 mf=>hQ y σ2 s2 a2 q M h2 ((m.stepW.trans st).trans mf);cases T:o.dst with
 |none=>exact C.mono st d.len
 |some t=>exact(C.mono st d.len).put (gA I t T) (show dj (σ' F) s' (.bool res) (.e (.one (.c (.bool res))))from Rd.bool)
def q8:List Tmp->List D->Fr->Fr
 |t::ts,d::ds,φ=>q8 ts ds ((t,d)::φ)
 |_,_,φ=>φ
def NZ(N:Nat):List Tmp->Bool
 |[]=>ab
 |t::ts=>match bu (t+1) N with|true=>NZ N ts|false=>af
def FY{N:Nat}{σ:List aP}{s:St}:∀{ps:List Tmp}{ds:List D}{vs:List ah}{φ:Fr}{a:Act},cm N σ s φ a->cg σ s vs ds->NZ N ps=ab->cm N σ s (q8 ps ds φ) {a with tmps:=(ps.zip vs).foldl (λtmps (t,v)=>tmps.setIfInBounds t v) a.tmps}
 |[],ds,vs,φ,a,h,_,_=>by simpa[q8]using h
 |_::_,[],[],φ,a,h,_,_=>by simpa[q8]using h
 |_::_,[],_::_,φ,a,h,b,_=>b.elim
 |_::_,_::_,[],φ,a,h,b,_=>b.elim
 |t::ts,d::ds,v::vs,φ,a,h,b,c=>by
  simp only[NZ]at c;split at c
  .rename_i e;have:=FY (h.put (d:=t) (cV e) b.1) b.2 c;simpa[q8,Act.put]using this
  grind
def RD:Exit->Option (Option Code)
 |.normal=>aa ae
 |.ret=>aa (aa .ret)
 |.exit id=>aa (aa (.exit id))
 |_=>ae
def Yields.intro{ι:Type}{g N:Nat}{φ0:Fr}{r:Loop}{ds:List D}{σ:List aP}{σ':ι->List aP}{j:Option Code}(o:σ[g]?=aa (.loop N φ0 r))(U:r.state=.ready)(hlen:ds.length=r.params.size)(V:NZ N r.params.toList=ab)(h:AW X N r.assign (λe A σ1=>e=.normal/\σ1[g]?=aa (.loop N φ0 r)/\AW X N r.body (λe φ2 σ2=>RD e=aa j/\σ2[g]?=aa (.loop N φ0 {r with state:=.busy}) /\
   ∃i,D5 (σ2.set g (.loop N φ0 {r with state:=if j.isNone then .ready else .done,pending:=j})) (σ' i)) A (σ1.set g (.loop N φ0 {r with state:=.busy}))) (q8 r.params.toList ds φ0) σ):Yields X g ds σ j.isNone σ':=by
 intro s vs l O hh hl;obtain⟨tmps,fn,df,h1,h2,h3,h4,h5⟩:=hh.z0 o hl;have PK:vs.length=r.params.size:=by grind[cg.get]
 obtain⟨y1,y2⟩:=Hr (P:=P) (args:=vs.toArray) h2 (by grind);refine⟨_,_,_,_,y1,y2,λS c cs hS=>?_⟩;let b:aR:={fn:=fn,tmps:=#[],todo:=[],defers:=[],mode:=.run,kind:=.normal,roundOf:=aa l}
 have M:b.kind≠.early:=by simp[b]
 have hf:cm N σ s (q8 r.params.toList ds φ0) {tmps:=(r.params.zip vs.toArray).foldl (λtmps (t,a)=>tmps.setIfInBounds t a) tmps,defers:=[]}:=by
  have:=FY (a:={tmps:=tmps,defers:=[]}) (φ:=φ0) ⟨h3,⟨[],ay⟩,h4⟩ O V;have e:(r.params.zip vs.toArray).foldl (λtmps (x:Tmp×ah)=>tmps.setIfInBounds x.1 x.2) tmps=(r.params.toList.zip vs).foldl (λtmps (x:Tmp×ah)=>tmps.setIfInBounds x.1 x.2) tmps:=by rw[<-Array.foldl_toList];simp
  grind
 show fA X S (G (b.aT {tmps:=(r.params.zip vs.toArray).foldl (λtmps (t,a)=>tmps.setIfInBounds t a) tmps,defers:=[]} [.code r.assign,.beginRound,.code r.body]) (c::cs)) s;refine h s _ hf hh b [.beginRound,.code r.body] (c::cs) S M ?_;rintro e A σ1 s1 a1 ⟨rfl,p,q⟩ f1 F E;refine .next rfl λs2 sW=>?_;have J:=X.iv sW;have k:=F.rely J;have f2:=f1.rely J F;have hlL:∃L,s2.β[g]?=aa L/\L.v=.func (.yield l) #[] #[]:=by obtain⟨B',L',k1,Z,R⟩:=(E.trans J.stepW).box g _ _ o h1;rw[p]at k1;cases k1;exact⟨L',Z,R⟩
 obtain⟨Y,fn2,Xg,g1,g2,g3,g4,g5⟩:=k.z0 p hlL;have K:=k.z8 (r':={r with state:=.busy}) p g1 g2 g3 g4 g5 (.inr rfl);have z:∀{s:St} {σ:List aP} {L:Loc},s.β[g]?=aa L->L.bs=[l]->eY s #[⟨.obj l,af,af⟩,⟨.obj l,ab,af⟩]:=λ{s σ L} hL M =>
  .two (o8 (bH hL) (by grind)) (o8 (bH hL) (by grind))
 refine⟨_,_,_,JX (l:=l) rfl M g2 U,⟨⟨_,_,k,K.1,K.2⟩,eY.seen (z (σ:=σ1) g1 rfl)⟩,?_⟩;have H:=K.2.m9 k;have T:=K.1;refine q _ a1 (f2.mono H k.len) T b [] (c::cs) S M ?_;rintro e φ3 σ3 s3 a3 ⟨hj,n,ii,y⟩ f3 C Q;have stA:=((E.trans J.stepW).trans H).trans Q;have fin:∀I f,ck s3 f->((j=ae/\I=[])∨(j=aa .ret/\∃k1,I=.code .ret::k1)∨(∃id k1,j=aa (.exit id)/\I=.code (.exit id)::k1/\exitTo id k1=ae)) ->
   ∃g' s' es,aH P X.main (G (b.aT a3 I) (c::cs)) f.w=.go g' s'.w es/\qO f s' es/\fA X S g' s':=by
  intro I f d XF;have m:=C.rely d;have u:∃L,f.β[g]?=aa L/\L.v=.func (.yield l) #[] #[]:=by obtain⟨B',L',k1,Z,R⟩:=(stA.trans d.stepW).box g _ _ o h1;rw[n]at k1;cases k1;exact⟨L',Z,R⟩
  obtain⟨W,fn5,df5,p1,p2,p3,p4,p5⟩:=m.z0 n u;have B:=m.z8 (r':={r with state:=if j.isNone then .ready else .done,pending:=j}) n p1 p2 p3 p4 p5 (.inr rfl);obtain⟨p7,p8,_⟩:=y _ B.1;exact⟨_,_,_,BS (l:=l) rfl rfl p2 XF,⟨⟨_,_,m,B.1,B.2⟩,eY.seen (z (σ:=σ3) p1 rfl)⟩,hS ii _ p7 (((stA.trans d.stepW).trans (B.2.m9 m)).trans (p8.m9 B.1))⟩
 cases e with
 |normal =>
  cases hj;exact .next rfl λf d=>fin [] f (X.iv d) (.inl ⟨rfl,rfl⟩)
 |ret =>
  cases hj;intro pre;exact .next rfl λf d=>fin _ f (X.iv d) (.inr (.inl ⟨rfl,pre,rfl⟩))
 |exit id =>
  cases hj;intro pre hp;refine .next rfl λf d=>fin _ f (X.iv d) (.inr (.inr ⟨id,_,rfl,rfl,?_⟩));have:=hp [];simpa[exitTo]using this
 |_=>cases hj
end
def kT{P:aq}(X:Cx P)(N:Nat)(c:Code)(Q:Post)(φ:Fr)(σ:List aP):Prop :=
 ∀s a,cm N σ s φ a->aF σ s->∀(b:aR) (k:List Item) (cs:List aR) (S:av->St->Prop),b.kind≠.early->b.roundOf=ae ->
  (∀e φ' σ' s' a',Q e φ' σ'->cm N σ' s' φ' a'->aF σ' s'->cR σ s σ' s'->ends X S b k cs e a' s')->fA X S (G (b.aT a (.code c::k)) cs) s
section
variable {P:aq}{X:Cx P}{N:Nat}{Q:Post}{φ:Fr}{σ:List aP}
def AW.top{c:Code}(h:AW X N c Q φ σ):kT X N c Q φ σ:=λs a f hh b k cs S d _ e=>h s a f hh b k cs S d e
theorem kT.seq{x y:Code}(h:kT X N x (BT (kT X N y Q) Q) φ σ):kT X N (.seq x y) Q φ σ:=by
 intro s a n hh b k cs S l c g;refine .ctl hh rfl (λ_=>oc) λm h1=>?_;refine h m a (n.rely h1 hh) (hh.rely h1) b (.code y::k) cs S l c ?_;intro e φ' σ' s' a' q j i st;have d:=h1.stepW.trans st;cases e with
 |normal=>exact q s' a' j i b k cs S l c λe f σ2 s2 a2 q2 f2 h2 mf=>g e f σ2 s2 a2 q2 f2 h2 (d.trans mf)
 |_=>exact ends.cons (λ_ _=>rfl) (by simp) (g _ _ _ _ _ q j i d)
theorem kT.block{id:Nat}{c:Code}(h:kT X N c (wG id Q) φ σ):kT X N (.block id c) Q φ σ:=by
 intro s a p hh b k cs S o j g;refine .ctl hh rfl (λ_=>rQ) λn h1=>?_;refine h n a (p.rely h1 hh) (hh.rely h1) b (.inBlock id::k) cs S o j ?_;intro e φ' σ' s' a' q i f st;have d:=h1.stepW.trans st;cases e with
 |normal =>
  exact .ctl f rfl (λ_=>qQ) λs2 h2=>g .normal φ' σ' s2 a' q (i.rely h2 f) (f.rely h2) (d.trans h2.stepW)
 |exit IX =>
  simp only[wG]at q;split at q
  .rename_i e;subst e;intro pre hp;refine .ctl f rfl (λ_=>zw (k':=k) (by rw[hp];simp[exitTo])) λs2 h2=>?_;exact g .normal φ' σ' s2 a' q (i.rely h2 f) (f.rely h2) (d.trans h2.stepW)
  .rename_i m
   intro pre hp;have:=g (.exit IX) φ' σ' s' a' q i f d (pre++[.inBlock id]) (λk'=>by
    rw[lS,hp];have:(id==IX)=af:=by grind
    simp[exitTo,this])
   grind
 |ret=>exact g _ _ _ _ _ q i f d
 |panic ch=>exact g _ _ _ _ _ q i f d
 |goto l=>exact g _ _ _ _ _ q i f d
 |outgrown=>exact g _ _ _ _ _ q i f d
def aF.RE{s:St}(h:aF σ s){o:Nat->Prop}(a:∀b,o b->b<s.w.heap.size/\∀L∈s.β,b∉L.bs):aF σ {s with own:=o} :=
 ⟨h.mem,h.len,λl B L hB hL=>et.carry (σ:=σ) (s:=s) (σ':=σ) (s':={s with own:=o}) ⟨λ_ _ _ h=>h,λ_ B L h c=>⟨B,L,h,c,.refl _ _⟩⟩ h.len (λ_ _=>⟨rfl,λ_=>rfl⟩) (h.box l B L hB hL),h.eB,h.lt,a⟩
def aF.iB{s:St}(h:aF σ s){r:Nat}{o:Nat->Prop}(e:s.own r)(k:∀b,o b->s.own b)(g:¬o r)(j:∀i,s.M r i=ae)(f:s.w.heap[r]?=aa (.deferred (aa []))):
  aF (σ++[.qP]) {s with β:=s.β++[⟨.int .i64 r,[r]⟩],own:=o}/\eu s {s with β:=s.β++[⟨.int .i64 r,[r]⟩],own:=o}:=by
 obtain⟨n,q⟩:=h.own r e;have ex:Ext σ s (σ++[.qP]) {s with β:=s.β++[⟨.int .i64 r,[r]⟩],own:=o}:=by
  refine⟨λ_ _ _ h=>h,λl B L hB hL=>⟨B,L,?_,?_,.refl _ _⟩⟩
  .grind
  grind
 refine⟨⟨h.mem,by simp[h.len],?_,?_,?_,?_⟩,⟨rfl,λ_ _ _ h=>h,λ_ _ _=>rfl,h.mem,?_⟩⟩
 .intro l B L hB hL;rcases fY hL with d|⟨hl,rfl⟩
  .have hl:l<σ.length:=by rw[<-h.len];grind
   rw[jy hl]at hB;exact(h.box l B L hB d).carry ex h.len λ_ _=>⟨rfl,λ_=>rfl⟩
  .rw[hl,h.len,gw (bh _)]at hB;simp at hB;subst hB;exact⟨r,rfl,f,j⟩
 .intro l l' L L' hL ff b a c;rcases fY hL with k1|⟨e1,rfl⟩<;>rcases fY ff with m|⟨e2,rfl⟩
  .exact h.eB l l' L L' k1 m b a c
  .grind
  .grind
  grind
 .intro L hL b a;simp only[fX,fW]at hL;rcases hL with hL|rfl
  .exact h.lt L hL b a
  grind
 .intro b a;obtain⟨p,p2⟩:=h.own b (k b a);grind
 grind
def FX:Option Code->Option Exit
 |none=>aa .normal
 |some .ret=>aa .ret
 |some (.exit id)=>aa (.exit id)
 |_=>ae
def kT.rangeFunc{ι:Type}{f:ak}{ps:Array Tmp}{assign body:Code}{F:aJ}{capD:List D}{res:ι->D}{σ':ι->List aP}{r':ι->Loop}(IM:∀s a,cm N σ s φ a->aF σ s->∃n:List ah,a.eval f=.func (.func F) #[] n.toArray/\cg σ s n capD)(G8:eb X F (.e (.one (.ref σ.length))::capD) (σ++[.loop N φ {state:=.ready,pending:=ae,fn:=0,tmps:=#[],params:=ps,assign:=assign,body:=body,defers:=0}]) res σ')(hl:∀i,(σ' i)[σ.length]?=aa (.loop N φ (r' i))/\(r' i).state≠.busy)(k:∀i,∃e,FX (r' i).pending=aa e/\Q e φ ((σ' i).set σ.length .dead++[.qP])):kT X N (.rangeFunc f ps assign body) Q φ σ:=by
 intro s a fr hh b kk cs S m UQ hQ;obtain⟨⟨fn,UR,Ht,C⟩,J⟩:=G8;refine .next rfl λd Yt=>?_;have hr:=X.iv Yt;have g:=hh.rely hr;have f1:=fr.rely hr hh;obtain⟨n,hv,K⟩:=IM d a f1 g;generalize WU:d.w.heap.size=r;have q:=λmain=>zZ (P:=P) (main:=main) (k:=kk) (cs:=cs) (ps:=ps) (assign:=assign) (body:=body) (b:=b) (w:=d.w) UQ m UR Ht C hv;rw[WU]at q;let w1:aA:={d.w with heap:=d.w.heap.push (.deferred (aa []))}
 let lo:Loop:={state:=.ready,pending:=ae,fn:=b.fn,tmps:=a.tmps,params:=ps,assign:=assign,body:=body,defers:=r}
 let w2:aA:={d.w with heap:=(d.w.heap.push (.deferred (aa []))).push (.loop lo)}
 have Nh:w2.heap.size=r+2:=by grind
 have acL:w1.heap.size=r+1:=by grind
 have hk1:∀b,b<d.w.heap.size->w1.heap[b]?=d.w.heap[b]?:=λb m=>by grind
 have O:∀b,b<w1.heap.size->w2.heap[b]?=w1.heap[b]?:=λb m=>by grind
 have R:∀b,b<d.w.heap.size->w2.heap[b]?=d.w.heap[b]?:=λb m=>by grind
 have Z:w2.heap[r]?=aa (.deferred (aa [])):=by grind
 have Yu:w2.heap[r+1]?=aa (.loop lo):=by grind
 have nM:∀b,d.w.heap.size<=b->∀o,d.M b o=ae:=λb m o=>by
  cases y:d.M b o with
  |none=>rfl
  |some v=>have:=g.block y;omega
 let L1:Loc:=⟨.func (.yield (r+1)) #[] #[],[r+1]⟩
 let L2:Loc:=⟨.int .i64 r,[r]⟩
 let rr:Loop:={state:=.ready,pending:=ae,fn:=0,tmps:=#[],params:=ps,assign:=assign,body:=body,defers:=0}
 obtain⟨g1,g2⟩:=g.grow (M':=d.M) (w':=w2) (by omega) R (λ_ _ _=>rfl) (λb m o v y=>by grind) rfl rfl rfl;have H:Ext σ d (σ++[.loop N φ rr]) ⟨d.β++[L1],d.M,w2,d.own⟩:=by
  refine⟨λ_ _ _ h=>h,λl B L hB hL=>⟨B,L,?_,?_,.refl _ _⟩⟩
  .grind
  grind
 obtain⟨a1,a2⟩:=g1.hO (B:=.loop N φ rr) (L:=L1) g2 rfl g ⟨r+1,a.tmps,b.fn,r,rfl,Yu,f1.size,λt=>(f1.slot t).mono H g.len,λo=>nM _ (by omega) o⟩ (λb m=>by grind)
 have hD:=a1.RE (o:=λb=>d.own b∨b=r) (by
  rintro b (m|rfl)
  .exact a1.own b m
  .refine⟨by grind,λL hL=>?_⟩;simp only[fX,fW]at hL;rcases hL with hL|rfl
   .intro T;have:=g.lt L hL b T;omega
   grind)
 have d1:=g.lI;obtain⟨e1,e2⟩:=d1.grow (M':=d.M) (w':=w1) (by omega) hk1 (λ_ _ _=>rfl) (λb m o v y=>by grind) rfl rfl rfl;obtain⟨e3,e4⟩:=e1.hO (B:=.dead) (L:=L2) e2 rfl d1 ay (λb m=>by grind)
 obtain⟨e5,e6⟩:=e3.grow (M':=d.M) (w':=w2) (by grind) O (λ_ _ _=>rfl) (λb m o v y=>by grind) rfl rfl rfl
 obtain⟨e7,e8⟩:=e5.hO (B:=.dead) (L:=L1) e6 rfl e3 ay (λb m=>by grind);have Xj:eu ⟨d.β++[L2]++[L1],d.M,w2,d.own⟩ ⟨d.β++[L1],d.M,w2,λb=>d.own b∨b=r⟩:=by
  refine⟨rfl,λ_ _ _ h=>h,λ_ _ _=>rfl,a1.mem,?_⟩;rintro b ((m|rfl)|⟨L,hL,m⟩)
  .grind
  .exact .inr ⟨L2,by simp,by grind⟩
  grind
 refine⟨_,⟨d.β++[L2]++[L1],d.M,w2,d.own⟩,_,q X.main,⟨⟨_,_,d1,e7,e4.trans e8⟩,.nil⟩,.ghost Xj (J _ (Value.func (.yield (r+1)) #[] #[]::n) ?_ hD S _ λi TH v s4 E mh Y Yv=>?_)⟩
 .refine⟨⟨λB p=>?_,L1,?_,rfl,rfl⟩,?_⟩
  .rw[gw (bh _)]at p;simp at p;subst p;rfl
  .show (d.β++[L1])[σ.length]?=_;rw[<-g.len,gw (bh _)];simp
  .exact K.mono (σ:=σ) (s:=d) (σ':=σ++[.loop N φ rr]) (s':=⟨d.β++[L1],d.M,w2,λb=>d.own b∨b=r⟩) ⟨H.mem,H.box⟩ g.len
 have Yw:(b.aT {a with defers:={target:=.collected r,args:=#[]}::a.defers} (.inRangeFunc (r+1)::kk)).finish v=b.aT {a with defers:={target:=.collected r,args:=#[]}::a.defers} (.endRangeFunc (r+1)::kk):=by simp[Frame.finish,Frame.aT]
 refine pZ (cs:=cs) (c:=b.aT {a with defers:={target:=.collected r,args:=#[]}::a.defers} (.inRangeFunc (r+1)::kk)) Y E λs5 U=>?_;rw[Yw];refine .next rfl λs6 Yx=>?_;have W:=X.iv Yx;have x:=(Y.rely U).rely W;have V:=(Yv.trans U.stepW).trans W.stepW;obtain⟨I,US⟩:=hl i;have hLl:∃L,s6.β[σ.length]?=aa L/\L.v=.func (.yield (r+1)) #[] #[]:=by
  obtain⟨B',L',k1,k2,k3⟩:=V.box σ.length (.loop N φ rr) L1 (show(σ++[aP.loop N φ rr])[σ.length]?=_ from List.getElem?_concat_length) (by show(d.β++[L1])[σ.length]?=_;rw[<-g.len,gw (bh _)];simp)
  rw[I]at k1;cases k1;exact⟨L',k2,k3⟩
 obtain⟨z,fn6,df6,p1,p2,p3,p4,p5⟩:=x.z0 I hLl;obtain⟨q1,q2⟩:=x.z8 (r':={r' i with state:=.exhausted}) (B':=.dead) I p1 p2 p3 p4 p5 (.inl rfl);refine⟨_,_,_,D4 p2 US,⟨⟨_,_,x,q1,q2⟩,eY.seen (.two (o8 (bH p1) (by simp)) (o8 (bH p1) (by simp)))⟩,?_⟩;have j:=V.trans (q2.m9 x);generalize hs7:({s6 with w:={s6.w with heap:=s6.w.heap.setIfInBounds (r+1) (.loop {{r' i with state:=.exhausted}with tmps:=z,fn:=fn6,defers:=df6})}}:St)=s7 at q1 q2 j;have h7r:s7.own r:=by rw[j.own];grind
 have h7d:s7.w.heap[r]?=aa (.deferred (aa [])):=by rw[j.fe r (.inr rfl)];exact Z
 have h7M:∀o,s7.M r o=ae:=λo=>by rw[j.iU r (by grind) (λL hL=>(hD.own r (.inr rfl)).2 L hL)];grind
 obtain⟨t1,t2⟩:=q1.iB (r:=r) (o:=d.own) h7r (λb m=>by rw[j.own];grind) (λT=>by have:=(g.own r T).1;omega) h7M h7d;refine .ghost t2 ?_;have A:cR σ d ((σ' i).set σ.length .dead++[.qP]) {s7 with β:=s7.β++[⟨.int .i64 r,[r]⟩],own:=d.own}:=by
  refine⟨?_,λb m=>?_,λb o v y=>j.mem b o v y,λb m hn o=>?_,λL hL b m=>?_,λl B L hB hL=>?_,j.os,j.tape,j.output,rfl⟩
  .grind
  .show s7.w.heap[b]?=_;rw[j.fe b (.inl m)];exact R b (g.own b m).1
  .show s7.M b o=_;rw[j.iU b (by grind) (λL hL=>?_)];grind
  .simp only[fX,fW]at hL;rcases hL with hL|rfl
   .rcases j.vb L hL b m with h1|⟨L0,h1,h2⟩
    .grind
    grind
   grind
  .have QT:=(bY.1 hB).1;have QU:=(bY.1 hL).1;obtain⟨B',L',k1,k2,k3⟩:=j.box l B L (by grind) (by grind);grind
 have fF:cm N ((σ' i).set σ.length .dead++[.qP]) {s7 with β:=s7.β++[⟨.int .i64 r,[r]⟩],own:=d.own} φ {a with defers:={target:=.collected r,args:=#[]}::a.defers}:=by
  have y:=f1.mono A g.len;obtain⟨ls,RF⟩:=f1.defers;refine⟨y.size,⟨((σ' i).set σ.length .dead).length::ls,⟨⟨?_,⟨.int .i64 r,[r]⟩,r,?_,rfl,rfl⟩,λT=>?_,RF.mono A.ext⟩⟩,y.slot⟩
  .grind
  .show (s7.β++_)[_]?=_;rw[<-q1.len,gw (bh _)];simp
  .have h1:=RF.BU _ T;grind
 obtain⟨e,p,hq⟩:=k i;have u:=hQ e φ _ _ _ hq fF t1 (hr.stepW.trans A);revert p;show FX (r' i).pending=aa e->fA X S (G (b.aT _ (((r' i).pending.map Item.code).toList++kk)) cs) _;intro p;cases hp:(r' i).pending with
 |none=>rw[hp]at p;cases p;exact u
 |some c =>
  rw[hp]at p;cases c<;>simp only[FX,reduceCtorEq,dm]at p
  .subst p;exact u [] (λ_=>rfl)
  .subst p;exact u kk
def cm.callee{t:Nat}{F:aJ}{cap:List C}(hl:look φ t=.e (.one (.c (.fn (.func F) [] cap)))):∀s a,cm N σ s φ a->aF σ s->∃b:List ah,a.eval (.tmp t)=.func (.func F) #[] b.toArray/\cg σ s b (fJ cap):=by
 intro s a d _;have h:=d.slot t;rw[hl]at h;have h:=eT h;show ∃b:List ah,a.tmps.getD t ai=.func (.func F) #[] b.toArray/\_;generalize a.tmps.getD t ai=v at h;cases h with
 |fn fs cs hl Ds f1 f2 h1 h2 r1 r2 =>
  grind[nj]
def eb.D6{ι:Type}{f:aJ}{fn:Func}{c:Code}{args:List D}{σ':ι->List aP}{res:ι->D}(l:P.funcs[f]?=aa fn)(d:(fn.name== "runtime.NumGoroutine")=af)(m:fn.body=aa c)(g:bu args.length fn.ntmps=ab)(h:Fits args σ->kT X fn.ntmps c (λe φ σ1=>∃j,cp fn σ.length (res j) (σ' j) e φ σ1) (iY 0 args) σ):eb X f args σ res σ':=by refine⟨⟨fn,l,d,by grind⟩,λs0 vs hr hh=>?_⟩;exact(eb.P7 l d m (cV g) λs a f i b k cs S hk UQ hQ=>h ⟨s0,vs,hr,hh⟩ s a f i b k cs S hk UQ hQ).2 s0 vs hr hh
def Yy(fn:Func)(res:D)(σ':List aP):Post:=λe φ σ1 =>
 (e=.ret∨e=.normal)/\σ1=σ'/\lA σ'=ab/\∃ds d ps,x3 φ fn.results.toList=aa ds/\rU ds=aa d/\Du d res=aa ps/\az ps
def eb.JY{ι:Type}{f:aJ}{fn:Func}{c:Code}{args:List D}{σ':ι->List aP}{res:ι->D}(q:P.funcs[f]?=aa fn)(k:(fn.name== "runtime.NumGoroutine")=af)(F:fn.body=aa c)(g:bu args.length fn.ntmps=ab)(h:AW X fn.ntmps c (λe φ σ1=>∃j,Yy fn (res j) (σ' j) e φ σ1) (iY 0 args) σ):eb X f args σ res σ':=by
 refine⟨⟨fn,q,k,by grind⟩,λs vs hr hh S cs hS=>?_⟩;obtain⟨hl,z⟩:=cg.get hr;let b:aR:={fn:=f,tmps:=#[],todo:=[],defers:=[],mode:=.run,kind:=.normal,roundOf:=ae}
 have a:Frame.enter P f vs.toArray .normal=b.aT {tmps:=vs.toArray++Array.replicate (fn.ntmps-vs.toArray.size) ai,defers:=[]} [.code c]:=by simp[Frame.enter,Frame.aT,q,F,b]
 rw[a];have g:=cV g;refine h s {tmps:=vs.toArray++Array.replicate (fn.ntmps-vs.toArray.size) ai,defers:=[]} ⟨by grind,⟨[],ay⟩,λt=>?_⟩ hh b [] cs S (by simp[b]) ?_
 .rw[oh];simp only[lk,cj,lG];have:=z t;rcases cD t vs.length with A|x
  .have e:(vs.toArray++Array.replicate (fn.ntmps-vs.toArray.size) ai).getD t ai=(vs[t]?).getD ai:=by simp only[dO];grind
   grind
  .rw[rD (by omega)];trivial
 .rintro e φ' σ1 s1 a1 ⟨y,o,rfl,n,ds,d,ps,h1,h2,H,C⟩ r m st;have fin:∀(fr:aR) s2,ck s1 s2->fr.fn=f->fr.tmps=a1.tmps->fr.defers=a1.defers->fr.mode=.returning->fr.kind=.normal->fA X S (G fr cs) s2:=by
   intro fr s2 sW e1 e2 e3 e4 e5;have p:=r.rely sW m;obtain⟨v,I,J,B⟩:=uf (P:=P) p h1 h2;obtain⟨ls,i⟩:=p.defers;have u:a1.defers=[]:=by
    cases ls with
    |nil=>cases E:a1.defers with
     |nil=>rfl
     |cons d ds=>rw[E]at i;exact i.elim
    |cons l ls=>exact absurd rfl (nn n _ (bH (i.BU l (by simp))))
   refine hS y fr v _ ⟨e1,e4,by grind,e5,fn,by grind,λw _=>?_⟩ (oi H C J) (m.rely sW) (st.trans sW.stepW);rw[e2];exact⟨I w,λe o=>by rw[B w #[]]at o;grind⟩
  rcases o with rfl|rfl
  .intro pre;exact .ctl m rfl (λ_=>DF rfl) λs2 sW=>fin _ s2 sW rfl rfl (iO _) rfl rfl
  .exact .ctl m rfl (λ_=>DG rfl) λs2 sW=>fin _ s2 sW rfl rfl (iO _) rfl rfl
end
structure Kp{P:aq}(X:Cx P)(N:Nat)(ops:Array au)(φ:Fr)(σ:List aP)(x:Nat->D)(c:Nat->Fr)(idx:Nat->Option Nat)(last:Nat):Prop where
 back:∀i o,ops[i]?=aa o->∀e∈o.after,di e=ab->e.on<i
 Jn:∀i o d,ops[i]?=aa o->o.dst=aa d->idx d=aa i/\d<N
 x4:∀d i,idx d=aa i->∃o,ops[i]?=aa o/\o.dst=aa d
 one:∀i o,ops[i]?=aa o->i≠last->OA X N ops.toList o (c i) σ (x i) σ
 TH:∀i o,ops[i]?=aa o->i≠last->∀t σ s v,dj σ s v (match idx t with|some j=>(if ∃e∈o.after,di e=ab/\e.on=j then x j else .any)|none=>look φ t)->dj σ s v (look (c i) t)
 lst:∀o,ops[last]?=aa o->∀j,j<ops.size->j≠last->∃e∈o.after,di e=ab/\e.on=j
 has:last<ops.size
section
variable {P:aq}{X:Cx P}{N:Nat}{ops:Array au}{φ:Fr}{σ:List aP}{x:Nat->D}{c:Nat->Fr}{idx:Nat->Option Nat}{last:Nat}
theorem B8{a t:Nat}{L:Array Bool}(h:∀i,i<ops.size->L.getD i ab=ab):Region.linearise.go .any ops a t L []=[]:=by
 cases a with
 |zero=>exact wc t L
 |succ n =>
  have b:a9 .any ops L=[]:=by
   cases b:a9 .any ops L with
   |nil=>rfl
   |cons y e =>
    have d:y∈a9 .any ops L:=by grind
    grind[mem_ready]
  grind[pb]
def Kp.arr(h:Kp X N ops φ σ x c idx last){R:av->St->Prop}{b:aR}{kk:List Item}{cs:List aR}(M:b.kind≠.early){s0:St}(hQ:∀s a,a.tmps.size=N->(∀t,dj σ s (a.tmps.getD t ai) (match idx t with|some j=>if j=last then .any else x j|none=>look φ t))->a.defers=[]->aF σ s->cR σ s0 σ s->fA X R (G (b.aT a (.inRegion ops [last]::kk)) cs) s):
  ∀(f:Nat) (L:Array Bool),L.size=ops.size->(L.toList.filter (λb=>!b)).length<=f->¬L.getD last af=ab ->
   (∀i o,ops[i]?=aa o->L.getD i af=ab->∀e∈o.after,di e=ab->L.getD e.on af=ab) ->
   ∀(s:St) (a:Act),IP N σ s (gj φ x idx L) a->a.defers=[]->aF σ s->cR σ s0 σ s ->
   ∀t,fA X R (G (b.aT a (.inRegion ops (Region.linearise.go .any ops f t L [])::kk)) cs) s:=by
 intro f;induction f with
 |zero =>
  intro L hs hf m O s a g J hh st t;exfalso;have hm:L[last]'(by have:=h.has;omega)∈L.toList:=by simp
  have Q:=h.has;cases M:L[last]'(by omega)with
  |true=>exact m (by simp[dO,fT (by omega:last<L.size),M])
  |false =>
   have:L[last]'(by omega)∈L.toList.filter (λb=>!b):=lf.2 ⟨hm,by grind⟩;grind
 |succ f ih =>
  intro L hs hf m O s a g J hh st t;rw[pb];cases I:(a9 .any ops L)[t % (a9 .any ops L).length]? with
  |none =>
   exfalso;have hr:a9 .any ops L=[]:=by
    cases hr:a9 .any ops L with
    |nil=>rfl
    |cons y ys =>
     grind[Nat.mod_lt]
   have H:∀i,i<ops.size->L.getD i af=ab:=by
    intro i;induction i using Nat.strongRecOn with
    |_ i ihi =>
     intro hi;cases M:L.getD i af with
     |true=>rfl
     |false =>
      have hm:i∈a9 .any ops L:=mem_ready.2 ⟨ops[i],fT hi,by
       grind,λe U B=>by
       have:=h.back i _ (fT hi) e U B
       grind⟩
      grind
   exact m (H last h.has)
  |some i =>
   have hi:=bH I;obtain⟨o,E,W5,Q8⟩:=mem_ready.1 hi;have Q:i<ops.size:=(ij.1 E).1;have K:¬L.getD i af=ab:=by grind
   by_cases A:i=last
   .subst A;have z:Region.linearise.go .any ops f (t / (a9 .any ops L).length) (L.setIfInBounds i ab) []=[]:=by
     refine B8 λj hj=>?_;have hj2:(L.setIfInBounds i ab).getD j af=ab:=by
      rw[eJ (by omega)];by_cases e:j=i
      .grind
      .obtain⟨ed,U,B,rfl⟩:=h.lst o E j hj e;grind
     grind
    simp only[z];refine hQ s a g.size (λt=>?_) J hh st;have:=g.slot t;unfold gj at this;cases k:idx t with
    |none=>grind
    |some j =>
     simp only[k]at this⊢;obtain⟨oj,u,_⟩:=h.x4 _ _ k;by_cases e:j=i
     .rw[bm e];trivial
     .rw[aZ e];obtain⟨ed,U,B,rfl⟩:=h.lst o E j (ij.1 u).1 e;grind
   have q:(L.setIfInBounds i ab).size=ops.size:=by grind
   have p:((L.setIfInBounds i ab).toList.filter (λb=>!b)).length<=f:=by
    have h1:L.toList[i]?=aa af:=by rw[zo,fT (by omega:i<L.size)];simpa[dO,fT (by omega:i<L.size)]using K
    grind[count_set]
   have F:∀j o',ops[j]?=aa o'->(L.setIfInBounds i ab).getD j af=ab->∀e∈o'.after,di e=ab->(L.setIfInBounds i ab).getD e.on af=ab:=by grind[eJ]
   have r:¬(L.setIfInBounds i ab).getD last af=ab:=by grind[eJ]
   have W:cm N σ s (c i) a:=g.Jm λt σ s v C=>h.TH i o E A t σ s v (by
    unfold gj at C;cases k:idx t with
    |none=>grind
    |some j =>
     simp only[k]at C⊢;split
     .grind
     .trivial)
   have w:∀(s':St) (v:ah),cR σ s σ s'->dj σ s' v (x i)->IP N σ s' (gj φ x idx (L.setIfInBounds i ab)) (a.put o.dst v):=by
    intro s' v l C;cases J:o.dst with
    |none =>
     refine⟨g.size,g.defers.imp λ_ h1=>h1.mono l.ext,λt=>?_⟩;have n:=(g.slot t).mono l.ext hh.len;simp only[Act.put];unfold gj at n⊢;cases k:idx t with
     |none=>grind
     |some j =>
      simp only[k]at n⊢;obtain⟨oj,u,V⟩:=h.x4 _ _ k;grind[eJ]
    |some d =>
     obtain⟨S,T⟩:=h.Jn i o d E J;refine⟨by simp[Act.put,g.size],g.defers.imp λ_ h1=>h1.mono l.ext,λt=>?_⟩;simp only[Act.put];by_cases e:d=t
     .subst e;have Z:d<a.tmps.size:=by rw[g.size];exact T
      simp only[dO,vE Z,im];unfold gj;simp only[S];rw[bm ((eJ (by omega)).2 (.inl rfl))];exact C
     .have n:=(g.slot t).mono l.ext hh.len;simp only[dO]at n⊢;rw[vG e];unfold gj at n⊢;cases k:idx t with
      |none=>grind
      |some j =>
       simp only[k]at n⊢;obtain⟨oj,u,V⟩:=h.x4 _ _ k;grind[eJ]
   have:=h.one i o E A s a W hh b kk cs R i (Region.linearise.go .any ops f (t / (a9 .any ops L).length) (L.setIfInBounds i ab) []) M (by grind);simp only[oT]at this;exact this λv s' C Y l=>ih _ q p r F s' _ (w _ _ l C) (by cases o.dst<;>exact J) Y (st.trans l) _
theorem Kp.region(h:Kp X N ops φ σ x c idx last)(z:P.follows Departure.mixedOrders=ab){r:av->St->Prop}{b:aR}{kk:List Item}{cs:List aR}(v:b.kind≠.early){s0:St}{a0:Act}{id:Nat}(f0:cm N σ s0 φ a0)(p:a0.defers=[])(m:aF σ s0)(u:∀s a,a.tmps.size=N->(∀t,dj σ s (a.tmps.getD t ai) (match idx t with|some j=>if j=last then .any else x j|none=>look φ t))->a.defers=[]->aF σ s->cR σ s0 σ s->fA X r (G (b.aT a (.inRegion ops [last]::kk)) cs) s):
  fA X r (G (b.aT a0 (.code (.region id ops ab)::kk)) cs) s0:=by
 refine .next rfl λg f=>?_;have f:=X.iv f;have e:=m.rely f;have l:=f0.rely f m;have k:Step σ g σ {g with w:={g.w with drawn:=g.w.drawn+1}}:=Step.same rfl rfl rfl rfl;have n:aF σ {g with w:={g.w with drawn:=g.w.drawn+1}}:=e.same rfl;have q:=f.stepW.trans (k.m9 e);refine⟨_,{g with w:={g.w with drawn:=g.w.drawn+1}},#[],lV,⟨⟨σ,σ,e,n,k⟩,.nil⟩,?_⟩;simp only[Region.schedule,z,Bool.true_or,cj];refine h.arr v (s0:=s0) u ops.size _ (by simp) (by simp) ?_ ?_ _ a0 ?_ p n q _
 .simp[dO,mR];split<;>simp
 .intro i o A hi;simp[dO,mR]at hi;split at hi<;>simp at hi
 .have d:=l.mono (k.m9 e) e.len;refine⟨d.size,d.defers,λt=>?_⟩;unfold gj;cases y:idx t with
  |none=>exact d.slot t
  |some j =>
   simp only;rw[aZ]
   .exact d.slot t
   .simp[dO,mR];split<;>simp
end
def mD{P:aq}(X:Cx P)(N:Nat)(all:List au)(o:au)(φ:Fr)(σ:List aP){ι:Type}(x:ι->D)(σ':ι->List aP):Prop :=
 ∀s a,cm N σ s φ a->aF σ s->∀(b:aR) (k:List Item) (cs:List aR) (S:av->St->Prop) (i:Nat) (rest:List Nat),b.kind≠.early->all.toArray[i]?=aa o ->
  (∀j v s',dj (σ' j) s' v (x j)->aF (σ' j) s'->cR σ s (σ' j) s'->fA X S (G (b.aT (a.put o.dst v) (.inRegion all.toArray rest::k)) cs) s')->fA X S (G (b.aT a (.inRegion all.toArray (i::rest)::k)) cs) s
def Ad:List au->Nat->(Nat->D)->List (Option Nat×D)
 |[],_,_=>[]
 |o::r,i,x=>(o.dst,x i)::Ad r (i+1) x
def wK{x:Nat->D}:∀{l:List au}{k j:Nat},(Ad l k x)[j]?=(l[j]?).map λo=>(o.dst,x (k+j))
 |[],k,j=>by simp[Ad]
 |o::r,k,0=>by simp[Ad]
 |o::r,k,j+1=>by simp only[Ad,nT];rw[wK,show k+1+j=k+(j+1) by omega]
def jY(all:List au)(φ:Fr)(x:Nat->D)(i:Nat):Fr:=jm (λj=>ia j (bT (all.getD i jw).after.toList)) 0 (Ad all 0 x) (uM all φ)
def MV(all:List au)(φ:Fr)(x:Nat->D):Fr:=jm (λ_=>ab) 0 (Ad all 0 x) (uM all φ)
def om(N:Nat):List au->Bool
 |[]=>ab
 |o::r=>match fR N o.dst with|true=>om N r|false=>af
def yx{N:Nat}:∀{l:List au},om N l=ab->∀(i:Nat)(o:au),l[i]?=aa o->fR N o.dst=ab
 |[],_,i,o,h=>by grind
 |p::r,h,i,o,hi=>by
  simp only[om]at h;split at h
  .rename_i a;cases i with
   |zero=>grind
   |succ i=>exact yx h i o (by grind)
  grind
def rV:List au->Nat->Bool
 |[],_=>ab
 |o::r,i=>match TK i (bT o.after.toList)with|true=>rV r (i+1)|false=>af
def B4:∀{l:List au}{k:Nat},rV l k=ab->∀(i:Nat)(o:au),l[i]?=aa o->∀e∈bT o.after.toList,e<k+i
 |[],_,_,i,o,h=>by grind
 |p::r,k,h,i,o,hi=>by
  simp only[rV]at h;split at h
  .rename_i b;cases i with
   |zero=>simp at hi;subst hi;exact DO b
   |succ i=>intro e a;have:=B4 h i o (by grind) e a;omega
  grind
def Ae(pre:Nat->Bool):List Nat->Bool
 |[]=>af
 |e::r=>match pre e with|true=>Ae pre r|false=>ab
theorem yy{pre:Nat->Bool}:∀{l:List Nat},Ae pre l=ab->∃e∈l,pre e=af
 |[],h=>by cases h
 |e::r,h=>by
  simp only[Ae]at h;split at h
  .obtain⟨b,c,a⟩:=yy h;grind
  grind
def Af(pre:Nat->Bool)(m:Nat):List au->Nat->Bool
 |[],_=>ab
 |o::r,i=>match pre i with
  |true=>Af pre m r (i+1)
  |false=>match aB i m with
   |true=>Af pre m r (i+1)
   |false=>match Ae pre (bT o.after.toList)with|true=>Af pre m r (i+1)|false=>af
theorem F3{pre:Nat->Bool}{m:Nat}:∀{l:List au}{k:Nat},Af pre m l k=ab->∀(i:Nat)(o:au),l[i]?=aa o->pre (k+i)=af->k+i≠m->∃e∈bT o.after.toList,pre e=af
 |[],_,_,i,o,h=>by grind
 |p::r,k,h,i,o,hi=>by
  intro c b;simp only[Af]at h;cases i with
  |zero =>
   simp at hi;subst hi;simp only[iq]at c b;grind[Nat.eq_of_beq_eq_true,yy]
  |succ i =>
   have a:Af pre m r (k+1)=ab:=by grind
   exact F3 a i o (by grind) (by grind) (by omega)
section
variable {P:aq}{X:Cx P}{N:Nat}{ops:Array au}{φ:Fr}{σ:List aP}{idx:Nat->Option Nat}
def N2{x:Nat->D}{s:St}{a:Act}{L:Array Bool}{i:Nat}{o:au}(c:∀t σ s v,dj σ s v (match idx t with|some j=>(if ∃e∈o.after,di e=ab/\e.on=j then x j else .any)|none=>look φ t)->dj σ s v (look (jY ops.toList φ x i) t))(d:IP N σ s (gj φ x idx L) a)(g:∀e∈o.after,di e=ab->L.getD e.on af=ab):cm N σ s (jY ops.toList φ x i) a:=d.Jm λt σ s v f=>c t σ s v (by
 unfold gj at f;cases b:idx t with
 |none=>grind
 |some j =>
  simp only[b]at f⊢;split
  .grind
  .trivial)
def Hw{x y:Nat->D}{σ2:List aP}{s s':St}{a:Act}{v:ah}{L:Array Bool}{i:Nat}{o:au}(c:∀d,o.dst=aa d->idx d=aa i/\d<N)(p:∀d j,idx d=aa j->∃o,ops[j]?=aa o/\o.dst=aa d)(z:ops[i]?=aa o)(w:i<L.size)(u:∀j,L.getD j af=ab->y j=x j)(f:s.β.length=σ.length)(st:cR σ s σ2 s')(b:IP N σ s (gj φ x idx L) a)(q:dj σ2 s' v (y i)):IP N σ2 s' (gj φ y idx (L.setIfInBounds i ab)) (a.put o.dst v):=by
 have old:∀t,idx t≠aa i->dj σ2 s' (a.tmps.getD t ai) (gj φ y idx (L.setIfInBounds i ab) t):=by intro t A;have k:=(b.slot t).mono st.ext f;unfold gj at k⊢;grind[eJ]
 cases r:o.dst with
 |none =>
  refine⟨b.size,b.defers.imp λ_ n=>n.mono st.ext,λt=>?_⟩;refine old t λh=>?_;grind
 |some d =>
  obtain⟨l,g⟩:=c d r;refine⟨by simp[Act.put,b.size],b.defers.imp λ_ n=>n.mono st.ext,λt=>?_⟩;simp only[Act.put];by_cases e:d=t
  .subst e;have m:d<a.tmps.size:=by rw[b.size];exact g
   simp only[dO,vE m,im];unfold gj;simp only[l];rw[bm ((eJ w).2 (.inl rfl))];exact q
  .have:=old t (λh=>by grind)
   simp only[dO]at this⊢;grind
def J7{back:∀i o,ops[i]?=aa o->∀e∈o.after,di e=ab->e.on<i}{L:Array Bool}(h:L.size=ops.size)(c:a9 .any ops L=[]):∀i,i<ops.size->L.getD i af=ab:=by
 intro i;induction i using Nat.strongRecOn with
 |_ i a =>
  intro hi;cases d:L.getD i af with
  |true=>rfl
  |false =>
   have f:i∈a9 .any ops L:=mem_ready.2 ⟨ops[i],fT hi,by
    grind,λe g b=>by grind⟩
   grind
def Eb{L:Array Bool}{t:Nat}(a:(a9 .any ops L)[t % (a9 .any ops L).length]?=ae):a9 .any ops L=[]:=by
 cases b:a9 .any ops L with
 |nil=>rfl
 |cons y c =>
  grind[Nat.mod_lt]
theorem Ag{L:Array Bool}(e:L.size=ops.size)(d:(L.toList.filter (λb=>!b)).length<=0):∀i,i<ops.size->L.getD i af=ab:=by
 intro i hi;have a:L[i]'(by omega)∈L.toList:=by simp
 cases c:L[i]'(by omega)with
 |true=>simp[dO,fT (by omega:i<L.size),c]
 |false =>
  have:L[i]'(by omega)∈L.toList.filter (λb=>!b):=lf.2 ⟨a,by grind⟩;grind
end
def qB(xs:List UInt8):List ah:=xs.map λx=>.int .u8 x.toNat
theorem ve{xs:List UInt8}:(qB xs).length=xs.length:=by simp[qB]
def Ni{xs b:List UInt8}:qB (xs++b)=qB xs++qB b:=by simp[qB]
def oZ(bf:Option (Nat×Nat))(n:Nat):ah:=match bf with|none=>.slice ae 0 0|some (g,cap)=>.slice (aa ⟨g,0,ae⟩) n cap
def BB(T E:aj)(a:Bool)(v1:ah)(bf:Option (Nat×Nat))(xs:List UInt8)(f:Nat):ah->(Nat->Option Obj)->Prop:=λv d =>
 ∃b,v=.pointer (aa ⟨b,0,ae⟩)/\cE v1=ab/\d b=aa (.cells #[if a then v else .pointer ae,v1] T (0,0)) /\
 match bf with
 |none=>xs=[]/\∀c,(d c).isSome=ab↔c=b
 |some (g,cap)=>g≠b/\xs.length<=cap/\0<cap/\cap<=9223372036854775807/\f<=xs.length/\(∃e,(qB xs++e).length=cap/\d g=aa (.cells (qB xs++e).toArray E (0,f)))/\∀c,(d c).isSome=ab↔c=b∨c=g
section
variable {P:aq}{X:Cx P}{N:Nat}{m:List (Nat×TI)}{o:au}{k:ak->D}{σ:List aP}{l:Nat}{T E:aj}{a:Bool}{v1:ah}{bf:Option (Nat×Nat)}{xs:List UInt8}{f:Nat}{s:St}
structure vJ(P:aq)(σ:List aP)(s:St)(l:Nat)(T E:aj)(a:Bool)(v1:ah)(bf:Option (Nat×Nat))(xs:List UInt8)(f:Nat)(L:Loc)(b:Nat)(ch:Nat->Option Obj):Prop where
 β:s.β[l]?=aa L
 v:L.v=.pointer (aa ⟨b,0,ae⟩)
 bb:BB T E a v1 bf xs f L.v ch
 heap:∀(b:Nat) (o:Obj),ch b=aa o->s.w.heap[b]?=aa o
 bs:∀b,b∈L.bs↔(ch b).isSome=ab
 M:∀b∈L.bs,∀o,s.M b o=ae
 ch:ch b=aa (.cells #[if a then L.v else .pointer ae,v1] T (0,0))
 cell:cE v1=ab
def BB.row(hh:aF σ s)(hl:σ[l]?=aa (.b8 (BB T E a v1 bf xs f))):∃L b ch,vJ P σ s l T E a v1 bf xs f L b ch:=by
 have c:l<s.β.length:=by rw[hh.len];grind
 have e:=br c;generalize s.β[l]=L at e;obtain⟨ch,g,h1,h2,n⟩:=hh.box l _ L hl e;have d:=g;obtain⟨b,h,j,i,_⟩:=d;exact⟨L,b,ch,e,h,g,h1,h2,n,i,j⟩
def vJ.mem{L:Loc}{b:Nat}{ch:Nat->Option Obj}(r:vJ P σ s l T E a v1 bf xs f L b ch):b∈L.bs:=(r.bs b).2 (by rw[r.ch];rfl)
def vJ.ptr{L:Loc}{b:Nat}{ch:Nat->Option Obj}(r:vJ P σ s l T E a v1 bf xs f L b ch){v:ah}{off:Nat}(h:dj σ s v (.e (.one (.ptr l off)))):v=.pointer (aa ⟨b,off,ae⟩):=by obtain⟨_,d,c,h1,h2,rfl⟩:=(h:gn σ s v (.ptr l off));rw[r.β]at h1;cases h1;rw[r.v]at h2;grind
def I7(hT:cN P m){t:aj}{x:ak}{i:TI}(h:o.op=.load t x)(hi:bD m t=aa i)(J:i.agg=af)(H:σ[l]?=aa (.b8 (BB T E a v1 bf xs f))){off:Nat}{d:D}(C:k x=.e (.one (.ptr l off)))(G:∀s L b ch,aF σ s->vJ P σ s l T E a v1 bf xs f L b ch->∃v,(#[if a then L.v else .pointer ae,v1]:Array ah)[off]?=aa v/\dj σ s v d):bF P o k σ d σ:=by
 refine .od λs K z B=>?_;obtain⟨L,b,ch,r⟩:=BB.row (P:=P) z H;have y:=r.ptr (by have:=B x;rwa [C]at this);obtain⟨v,I,u⟩:=G s L b ch z r;have g:s.w.cell? ⟨b,off,ae⟩=aa v:=by simp only[aV,r.heap _ _ r.ch];grind
 have c:(loadVar t ⟨b,off,ae⟩).run P s.w=.ok v s.w:=by simp[loadVar,(hT t i hi).ki,J,run_load,g]
 refine⟨v,by simp[aw,h,y,Instr.loadAt,bq,c],u,λA q=>?_⟩;have p:A∈(loadVar t ⟨b,off,ae⟩).events P s.w #[]:=by
  have e:aw K o=(do pure (.value (<-loadVar t ⟨b,off,ae⟩))):=by simp[aw,h,y,Instr.loadAt,bq]
  rw[e]at q;simpa[c]using q
 obtain⟨j,F,rfl⟩:=fZ (hT t i hi) (n:=1) (λj F=>by grind) (by grind) A p
 exact jH (bH r.β) r.mem
def bF.fi(hT:cN P m){t:aj}{x:ak}{i:TI}(h:o.op=.load t x)(hi:bD m t=aa i)(d:i.agg=af)(hl:σ[l]?=aa (.b8 (BB T E a v1 bf xs f)))(c:k x=.e (.one (.ptr l 1))):bF P o k σ (.e (.one (.v v1))) σ :=
 I7 hT h hi d hl c λs L b ch hh r=>⟨v1,by simp,Rd.val r.cell⟩
def Nj{H:ah->(Nat->Option Obj)->Prop}(b:σ[l]?=aa (.b8 H)):∀B,σ[l]?=aa B->B.gr=af:=by intro B h;rw[b]at h;cases h;rfl
def bF.I8(hT:cN P m){t:aj}{x:ak}{i:TI}(h:o.op=.load t x)(hi:bD m t=aa i)(d:i.agg=af)(hl:σ[l]?=aa (.b8 (BB T E ab v1 bf xs f)))(c:k x=.e (.one (.ptr l 0))):bF P o k σ (.e (.one (.ptr l 0))) σ :=
 I7 hT h hi d hl c λs L b ch hh r=>⟨L.v,by simp,Nj hl,L,b,r.β,r.v,r.v⟩
def bF.QX(hT:cN P m){t:aj}{x:ak}{i:TI}(h:o.op=.load t x)(hi:bD m t=aa i)(g:i.agg=af)(hl:σ[l]?=aa (.b8 (BB T E af v1 bf xs f)))(d:k x=.e (.one (.ptr l 0))):bF P o k σ (.e (.one (.c .hY))) σ :=
 I7 hT h hi g hl d λs L b ch hh r=>⟨.pointer ae,by simp,Rd.hY⟩
def setRow_size(w:aA)(b:Nat)(row:Array ah):(w.setRow b row).heap.size=w.heap.size:=by simp[World.setRow]
def I9(hT:cN P m){t:aj}{x y:ak}{i:TI}(h:o.op=.store t x y)(hi:bD m t=aa i)(G:i.size=1)(hl:σ[l]?=aa (.b8 (BB T E a v1 bf xs f))){off:Nat}{c:Bool}{d:ah}(hx:k x=.e (.one (.ptr l off)))(ho:off<2)(hc:cE d=ab)(hd:∀s L b ch v,aF σ s->vJ P σ s l T E a v1 bf xs f L b ch->dj σ s v (k y)->cE v=ab/\(#[if a then L.v else .pointer ae,v1]:Array ah).setIfInBounds off v=#[if c then L.v else .pointer ae,d]):bF P o k σ .any (σ.set l (.b8 (BB T E c d bf xs f))):=by
 intro s u U V;obtain⟨L,b,ch,r⟩:=BB.row (P:=P) U hl;have J:=r.ptr (by have:=V x;rwa [hx]at this);obtain⟨O,F⟩:=hd s L b ch (u y) U r (V y);have q:(u y).cells=#[u y]:=by cases R:u y<;>simp[R,cE,Value.cells]at O⊢
 have A:∀v∈[u y],v.oneCell'=ab:=by intro v J;simp at J;subst J;cases R:u y<;>simp[R,cE,Value.oneCell']at O⊢
 have p:=r.heap _ _ r.ch;have H:=run_storeCells_at P b off T [u y] 0 _ s.w p (by grind) A;have C:((#[if a then L.v else .pointer ae,v1]:Array ah).toList.take (off+0)++[u y]++(#[if a then L.v else .pointer ae,v1]:Array ah).toList.drop (off+0+[u y].length)).toArray=#[if c then L.v else .pointer ae,d]:=by
  rw[<-F]
  match off,ho with
  |0,_=>grind
  |1,_=>grind
 rw[C]at H;have Z:(s.w.setRow b #[if c then L.v else .pointer ae,d]).heap[b]?=aa (.cells #[if c then L.v else .pointer ae,d] T (0,0)):=setRow_heap s.w b _ _ T _ p;have B:∀g,g≠b->(s.w.setRow b #[if c then L.v else .pointer ae,d]).heap[g]?=s.w.heap[g]?:=λg n=>setRow_other s.w b g _ n;obtain⟨W,t2⟩:=U.jv (l:=l) (H':=BB T E c d bf xs f) (L':=L) (w':=s.w.setRow b #[if c then L.v else .pointer ae,d]) hl r.β rfl (by rw[setRow_size];grind)
  (λg n hn=>B g (by rintro rfl;exact hn r.mem)) (λg n=>.inl n)
  ⟨λg=>if g=b then aa (.cells #[if c then L.v else .pointer ae,d] T (0,0))else ch g,by
   obtain⟨Q,q1,q2,q3,q4⟩:=r.bb;have:Q=b:=by rw[r.v]at q1;grind
   subst this;have S:∀g,(if g=Q then aa (Obj.cells #[if c then L.v else .pointer ae,d] T (0,0))else ch g).isSome=ab↔(ch g).isSome=ab:=by grind
   refine⟨Q,q1,hc,by simp,?_⟩;grind,λg o' n=>by
   by_cases e:g=b
   .grind
   .simp only[e,b7]at n;rw[B g e];exact r.heap _ _ n,λg=>by
   rw[r.bs g];by_cases e:g=b
   .subst e;simp[r.ch]
   grind⟩ rfl rfl rfl
 have K:s.β.set l L=s.β:=by
  apply iM;intro j;by_cases e:l=j
  .subst e;rw[fU (bY.1 r.β).1,r.β]
  grind
 rw[K]at W t2;refine⟨.skip,{s with w:=s.w.setRow b #[if c then L.v else .pointer ae,d]},?_,rfl,W,t2,?_⟩
 .simp[aw,h,J,Instr.storeAt,bq,storeVar,(hT t i hi).run_sizeOf,G,q,H]
 .intro Y z;have e:aw u o=(do storeVar t ⟨b,off,ae⟩ (u y);pure .skip):=by simp[aw,h,J,Instr.storeAt,bq]
  rw[e]at z;have I:Y∈(storeCells ⟨b,off,ae⟩ [u y]).events P s.w #[]:=by
   simp only[storeVar,aM,(hT t i hi).run_sizeOf,q,G,aO,events_sizeOf,dq,fb,b7,bL,bU,Sem.events_pure,List.size_toArray,jg]at z;generalize(storeCells ⟨b,off,ae⟩ [u y]).run P s.w=r at z;cases r with
   |ok v w'=>simpa using z
   |halt x w'=>simpa using z
  rcases dE [u y] 0 _ s.w #[] p (by grind) A Y I with Ja|⟨j,_,_,rfl⟩
  .grind
  .exact jE (bH r.β) r.mem (r.M _ r.mem _)
def bF.zx(hT:cN P m){t:aj}{x y:ak}{i:TI}(h:o.op=.store t x y)(hi:bD m t=aa i)(d:i.size=1)(hl:σ[l]?=aa (.b8 (BB T E a v1 bf xs f))){c:ah}(j:k x=.e (.one (.ptr l 1)))(n:k y=.e (.one (.v c)))(p:cE c=ab):bF P o k σ .any (σ.set l (.b8 (BB T E a c bf xs f))) :=
 I9 hT h hi d hl j (by omega) p λs L b ch v hh r g=>by rw[n]at g;have:=Rd.dZ g;grind
def bF.Nk(hT:cN P m){t:aj}{x y:ak}{i:TI}(h:o.op=.store t x y)(hi:bD m t=aa i)(c:i.size=1)(hl:σ[l]?=aa (.b8 (BB T E a v1 bf xs f)))(g:k x=.e (.one (.ptr l 0)))(j:k y=.e (.one (.ptr l 0)))(n:cE v1=ab):bF P o k σ .any (σ.set l (.b8 (BB T E ab v1 bf xs f))) :=
 I9 hT h hi c hl g (by omega) n λs L b ch v hh r d=>by rw[j]at d;have:=r.ptr d;subst this;refine⟨rfl,?_⟩;rw[<-r.v];rfl
def bF.QY{T:aj}(h:o.op=.alloc T)(j:∀w,(zeroValue T).run P w=.ok (.agg #[.pointer ae,.slice ae 0 0]) w)(i:∀w es,(zeroValue T).events P w es=es):bF P o k σ (.e (.one (.ptr σ.length 0))) (σ++[.b8 (BB T E af (.slice ae 0 0) ae [] 0)]):=by
 intro s z hh hr;let w':=s.w.alloc (.cells #[.pointer ae,.slice ae 0 0] T);obtain⟨y,r⟩:=hh.grow (M':=s.M) (w':=w') (by simp[w']) (λb q=>cJ s.w _ q) (λ_ _ _=>rfl) (λb q o v g=>by have:=hh.block g;omega) rfl rfl rfl;have t:w'.heap.size=s.w.heap.size+1:=by simp[w']
 have n:w'.heap[s.w.heap.size]?=aa (.cells #[.pointer ae,.slice ae 0 0] T (0,0)):=dG s.w _;obtain⟨x,u⟩:=y.hO r rfl hh (B:=.b8 (BB T E af (.slice ae 0 0) ae [] 0)) (L:=⟨.pointer (aa ⟨s.w.heap.size,0,ae⟩),[s.w.heap.size]⟩)
  ⟨λd=>if d=s.w.heap.size then aa (.cells #[.pointer ae,.slice ae 0 0] T (0,0))else ae,⟨s.w.heap.size,rfl,rfl,by simp,rfl,λd=>by by_cases e:d=s.w.heap.size<;>simp[e]⟩,λd p c=>by
   grind,λd=>by by_cases e:d=s.w.heap.size<;>simp[e],λd c p=>by
   simp at c;subst c;show s.M _ _=ae;cases g:s.M s.w.heap.size p with
   |none=>rfl
   |some v=>have:=hh.block g;omega⟩ (λd c=>by grind)
 refine⟨.value (.pointer (aa ⟨s.w.heap.size,0,ae⟩)),_,?_,⟨by simp,⟨.pointer (aa ⟨s.w.heap.size,0,ae⟩),[s.w.heap.size]⟩,s.w.heap.size,?_,rfl,rfl⟩,x,u,?_⟩
 .simp[aw,h,Instr.alloc,j,Go.newVar,newRow,Value.cells,w']
 .simp[<-hh.len]
 .simp[aw,h,Instr.alloc,j,i,Go.newVar,newRow];exact .nil
end
section
variable {P:aq}{X:Cx P}{N:Nat}{z:List (Nat×TI)}{o:au}{q:ak->D}{σ:List aP}{l:Nat}{T E:aj}{d:Bool}{v1:ah}{bf:Option (Nat×Nat)}{xs:List UInt8}{k:Nat}{s:St}
def o0{P:aq}{b o:Nat}{t:aj}{k:Nat×Nat}:∀(vs:List ah)(i:Nat)(a:Array ah)(w:aA)(es:Array Event),w.heap[b]?=aa (.cells a t k)->k.2<=o+i->o+i+vs.length<=a.size->(∀v∈vs,v.oneCell'=ab) ->
  ∀e∈(storeCells ⟨b,o,ae⟩ vs i).events P w es,e∈es∨∃j,i<=j/\j<i+vs.length/\e=Hb b (o+j)
 |[],_,_,_,_,_,_,_,_=>λe h=>.inl (by simpa[storeCells]using h)
 |v::rest,i,a,w,es,n,r,A,p=>λe h=>by
  have hi:o+i<a.size:=by grind
  have c:w.cell? ⟨b,o+i,ae⟩=aa a[o+i]:=by simp[aV,n,hi]
  have f:w.frozen? ⟨b,o+i,ae⟩=af:=by obtain⟨lo,x⟩:=k;simp only[World.frozen?,n,pK,bO];grind
  have g:(store (⟨b,o+i,ae⟩:Addr) v).run P w=.ok () (w.setRow b (a.setIfInBounds (o+i) v)):=by grind[run_store,setCell_eq_setRow]
  have m:(store (⟨b,o+i,ae⟩:Addr) v).events P w es=es.push (Hb b (o+i)):=by rw[events_store P w es _ v _ (p v (by simp)),c];simp only[f,jz,b7];rfl
  simp only[storeCells,aM,dk,g,m,aO]at h;rcases o0 rest (i+1) (a.setIfInBounds (o+i) v) _ _ (setRow_heap _ _ _ _ _ _ n) (by omega) (by grind) (λu C=>p u (by grind)) e h with F|⟨j,B,y,rfl⟩
  .grind
  grind
def vJ.at{L:Loc}{b g cap:Nat}{ch:Nat->Option Obj}(r:vJ P σ s l T E d v1 (aa (g,cap)) xs k L b ch):
  g≠b/\xs.length<=cap/\0<cap/\cap<=9223372036854775807/\k<=xs.length/\(∃a,(qB xs++a).length=cap/\ch g=aa (.cells (qB xs++a).toArray E (0,k)))/\(∀c,(ch c).isSome=ab↔c=b∨c=g)/\g∈L.bs:=by
 obtain⟨e,i,_,_,a1,a2,a3,a4,a5,a6,h⟩:=r.bb;have:e=b:=by rw[r.v]at i;grind
 subst this;obtain⟨a,a6,f⟩:=a6;exact⟨a1,a2,a3,a4,a5,⟨a,a6,f⟩,h,(r.bs g).2 (by grind)⟩
def Jb{L:Loc}(h:s.β[l]?=aa L):s.β.set l L=s.β:=by apply iM;grind
def vJ.jv{L:Loc}{b g cap:Nat}{ch:Nat->Option Obj}(hh:aF σ s)(hl:σ[l]?=aa (.b8 (BB T E d v1 (aa (g,cap)) xs k)))(r:vJ P σ s l T E d v1 (aa (g,cap)) xs k L b ch){xs':List UInt8}{fz':Nat}{zs':List ah}{w':aA}(f:(qB xs'++zs').length=cap)(h:xs'.length<=cap)(p:fz'<=xs'.length)(j:w'.heap.size=s.w.heap.size)(hk:∀a,a≠g->w'.heap[a]?=s.w.heap[a]?)(G:w'.heap[g]?=aa (.cells (qB xs'++zs').toArray E (0,fz')))(t:w'.os=s.w.os)(x:w'.tape=s.w.tape)(m:w'.output=s.w.output):
  aF (σ.set l (.b8 (BB T E d v1 (aa (g,cap)) xs' fz'))) {s with w:=w'}/\Step σ s (σ.set l (.b8 (BB T E d v1 (aa (g,cap)) xs' fz'))) {s with w:=w'}:=by
 obtain⟨a1,a2,a3,a4,a5,⟨F,a6,C⟩,y,i⟩:=r.at;obtain⟨u,n⟩:=hh.jv (l:=l) (H':=BB T E d v1 (aa (g,cap)) xs' fz') (L':=L) (w':=w') hl r.β rfl (by omega)
  (λa c A=>hk a (by grind)) (λa c=>.inl c)
  ⟨λa=>if a=g then aa (.cells (qB xs'++zs').toArray E (0,fz'))else ch a,⟨b,r.v,r.cell,(show(if b=g then _ else ch b)=_ from(aZ λe=>a1 e.symm).trans r.ch),a1,h,a3,a4,p,⟨zs',f,by simp⟩,λa=>by
   grind⟩,λa B c=>by
   by_cases e:a=g
   .grind
   .simp only[e,b7]at c;rw[hk a e];exact r.heap _ _ c,λa=>by
   rw[r.bs a]
   grind⟩ t x m
 rw[Jb r.β]at u n;grind
def bF.Nl{t Q:aj}{x y:ak}(ho:o.op=.call {callee:=.builtin .append,args:=#[x,y],argTypes:=#[t,Q]}){U:TypeInfo}(ht:P.underlying t=aa (.slice E))(H:P.underlying Q=aa .string)(J:P.info? E=aa U)(A:U.size=1){g cap n:Nat}(hl:σ[l]?=aa (.b8 (BB T E d v1 (aa (g,cap)) xs k)))(hx:q x=.e (.one (.v (oZ (aa (g,cap)) n))))(hn:xs.length=n){str:List UInt8}(hy:q y=.e (.one (.c (.str str))))(Z:n+str.length<=cap):
  bF P o q σ (.e (.one (.v (oZ (aa (g,cap)) (n+str.length))))) (σ.set l (.b8 (BB T E d v1 (aa (g,cap)) (xs++str) k))):=by
 intro s ρ hh hr;subst hn;obtain⟨L,b,ch,r⟩:=BB.row (P:=P) hh hl;obtain⟨a1,a2,a3,a4,a5,⟨a,a6,a7⟩,a8,m⟩:=r.at;have I:=hr x;rw[hx]at I;have I:=Rd.dZ I;have B:=hr y;rw[hy]at B;have B:=eT B;generalize F:ρ y=vy at B;cases B with
 |@str sb _ Y abD =>
 have u:sb.size=str.length:=by rw[<-Y,jh];rfl
 have O:=r.heap _ _ a7;have hlen:(qB xs++a).toArray.size=cap:=by grind
 have K:=Lib.run_append_room_stringF (P:=P) s.w t Q o.type E U ht H J A g xs.length cap _ _ O a5 sb (by omega) (by grind);have p:((qB xs++a).toArray.toList.take xs.length++Lib.strCells sb++(qB xs++a).toArray.toList.drop (xs.length+sb.size))=qB (xs++str)++a.drop str.length:=by
  have e1:(qB xs++a).take xs.length=qB xs:=by grind[ve]
  have e2:(qB xs++a).drop (xs.length+sb.size)=a.drop str.length:=by rw[List.drop_append,ve,List.drop_eq_nil_of_le (by grind),u];simp
  have e3:Lib.strCells sb=qB str:=by simp[Lib.strCells,qB,Y]
  rw[List.toList_toArray,e1,e2,e3,Ni]
 rw[p,u]at K;have hlz:a.length=cap-xs.length:=by grind[ve]
 have i:(qB (xs++str)++a.drop str.length).length=cap:=by grind[ve]
 have G:(s.w.setRow g (qB (xs++str)++a.drop str.length).toArray).heap[g]?=aa (.cells (qB (xs++str)++a.drop str.length).toArray E (0,k)):=setRow_heap s.w g _ _ E _ O;obtain⟨t1,W⟩:=r.jv (fz':=k) (w':=s.w.setRow g (qB (xs++str)++a.drop str.length).toArray) hh hl i (by grind) (by grind) (setRow_size _ _ _) (λb' R=>setRow_other s.w g b' _ R) G rfl rfl rfl;refine⟨.value (.slice (aa ⟨g,0,ae⟩) (xs.length+str.length) cap),_,?_,Rd.val rfl,t1,W,?_⟩
 .rw[de ho,I,F];simp only[bL,dn];have C:(Builtin.append_ #[t,Q] o.type #[oZ (aa (g,cap)) xs.length,.string sb]).run P s.w=_:=K;rw[C];rfl
 .rw[de ho,I,F];refine eH λe he=>?_;have hf:=Lib.run_firstCells_string (P:=P) s.w 1 sb;have S:=run_storeCells_atF P g xs.length E (0,k) (Lib.strCells sb) 0 _ s.w O (by grind) (by grind) (Lib.strCells_oneCell sb);have f:xs.length+sb.size<=cap:=by omega
  have V:(Builtin.firstCells 1 sb.size (.string sb)).events P s.w #[]=#[]:=rfl;simp[oZ,Builtin.append_,run_underlying ht,run_underlying H,sizeOf,typeInfo,J,A,Builtin.lenOf,f,hf,V,dk,S]at he;rcases o0 (Lib.strCells sb) 0 _ s.w _ O (by grind) (by grind) (Lib.strCells_oneCell sb) e he with h|⟨j,h1,h2,rfl⟩
  .grind
  .exact jE (bH r.β) m (r.M _ m _)
def bF.Jc{t r:aj}{x y:ak}(u:o.op=.call {callee:=.builtin .append,args:=#[x,y],argTypes:=#[t,r]}){m:TypeInfo}(A:P.underlying t=aa (.slice E))(g:P.underlying r=aa .string)(f:P.info? E=aa m)(B:q x=.e (.one (.v (oZ ae 0))))(F:q y=.e (.one (.c (.str [])))):bF P o q σ (.e (.one (.v (oZ ae 0)))) σ:=by
 refine .quiet λs C hh hr=>?_;have b:=hr x;rw[B]at b;have b:=Rd.dZ b;have h:=hr y;rw[F]at h;have h:=eT h;generalize i:C y=vy at h;cases h with
 |@str sb _ G p =>
 have a:sb.size=0:=by
  have:sb.data.toList.length=0:=by grind
  rw[jh]at this;exact this
 have n:=Lib.run_firstCells_string (P:=P) s.w m.size sb;rw[a]at n;have j:(Builtin.firstCells m.size 0 (.string sb)).events P s.w #[]=#[]:=rfl;refine⟨.slice ae 0 0,?_,Rd.val rfl,?_⟩
 .rw[de u,b,i];simp[oZ,Builtin.append_,run_underlying A,run_underlying g,sizeOf,typeInfo,f,Builtin.lenOf,a,n]
 .rw[de u,b,i];simp[oZ,Builtin.append_,run_underlying A,run_underlying g,sizeOf,typeInfo,f,Builtin.lenOf,a,n,j]
def Ub{f:aJ}{fn:Func}{ps:Array aj}{t:aj}(ht:P.underlying t=aa (.slice E))(hf:P.funcs[f]?=aa fn)(F:(fn.name== "runtime.NumGoroutine")=af)(hb:fn.body.isNone=ab)(Y:Extern.findNext fn=ae)(J:Extern.find fn=aa (Extern.BytealgMakeNoZero.makeNoZero ps #[t])){O x:ak}{U:Array aj}(ho:o.op=.call {callee:=.value O,args:=#[x],argTypes:=U})(R:q O=.e (.one (.c (.fn (.func f) [] [])))){n:Nat}(hx:q x=.e (.one (.c (.int .i64 n))))(h0:0<n)(abE:n<=140737488355328)(hl:σ[l]?=aa (.b8 (BB T E d v1 ae xs k))):
  ∀s B,aF σ s->(∀y,dj σ s (B y) (q y))->∃(j:{p:Nat×Nat // n<=p.2}) (s':St) (v:ah),(aw B o).run P s.w=.ok (.value v) s'.w/\dj (σ.set l (.b8 (BB T E d v1 (aa j.1) [] 0))) s' v (.e (.one (.v (oZ (aa j.1) n)))) /\
   aF (σ.set l (.b8 (BB T E d v1 (aa j.1) [] 0))) s'/\Step σ s (σ.set l (.b8 (BB T E d v1 (aa j.1) [] 0))) s'/\eY s ((aw B o).events P s.w #[]):=by
 intro s B W hr;obtain⟨L,b,ch,r⟩:=BB.row (P:=P) W hl;have I:B O=.func (.func f) #[] #[]:=by
  have g:=hr O;rw[R]at g;have g:=eT g;generalize B O=v at g;cases g with
  |fn fs cs a b f1 f2 c1 c2 d1 d2 =>
   grind
 have M:B x=.int .i64 n:=by have g:=hr x;rw[hx]at g;have g:=eT g;generalize B x=v at g;cases g;rfl
 obtain⟨cs,g,S,Z⟩:=Lib.run_makeNoZero (P:=P) s.w ps t E ht n (by omega);have Z:=Z (by simp only[maxLen];omega);have C:(callFunc f #[.int .i64 n]).run P s.w=.ok (.value (.slice (aa ⟨s.w.heap.size,0,ae⟩) n cs.size)) (s.w.drew.drew.alloc (.cells cs E)):=by rw[run_callFunc_extern hf F hb Y J,g];rfl
 let w':aA:=s.w.drew.drew.alloc (.cells cs E);have Nm:w'.heap[s.w.heap.size]?=aa (.cells cs E (0,0)):=dG s.w.drew.drew _;have Nh:w'.heap.size=s.w.heap.size+1:=by show(s.w.drew.drew.heap.push _).size=_;simp
 obtain⟨A,q1,q2,q3,q4⟩:=r.bb;have hb0:A=b:=by rw[r.v]at q1;grind
 subst hb0;have K:A<s.w.heap.size:=W.lt L (bH r.β) A r.mem;have H:s.w.heap.size≠A:=by omega
 obtain⟨t1,t2⟩:=W.jv (l:=l) (H':=BB T E d v1 (aa (s.w.heap.size,cs.size)) [] 0) (L':=⟨L.v,[A,s.w.heap.size]⟩) (w':=w') hl r.β rfl (by omega)
  (λu i Y=>cJ s.w.drew.drew _ i) (λu i=>by
   simp at i;rcases i with rfl|rfl
   .exact .inl r.mem
   grind)
  ⟨λu=>if u=A then aa (.cells #[if d then L.v else .pointer ae,v1] T (0,0))else if u=s.w.heap.size then aa (.cells cs E (0,0))else ae,⟨A,r.v,r.cell,by simp,H,by simp,by omega,by simp only[maxLen]at Z;omega,by simp,⟨cs.toList,by simp[qB],by simp[H,qB]⟩,λu=>by
   grind⟩,λu o' i=>by
   by_cases e:u=A
   .subst e;simp only[cj]at i;have:w'.heap[u]?=s.w.heap[u]?:=cJ s.w.drew.drew _ K;rw[this,<-i];exact r.heap _ _ r.ch
   grind,λu=>by grind⟩ rfl rfl rfl
 refine⟨⟨(s.w.heap.size,cs.size),S⟩,_,_,?_,Rd.val rfl,t1,t2,?_⟩
 .simp[aw,ho,resolve,Deferred.ofValue,invoke,I,M,C,w',oZ]
 .intro ev V;simp only[aw,ho,resolve,Deferred.ofValue,invoke,I,M]at V;have G:ev∈(callFunc f #[.int .i64 n]).events P s.w #[]:=by grind
  have Q:fn.name≠ "runtime.NumGoroutine":=by grind
  have WZ:fn.body=ae:=by simpa using hb
  have key:∀es:Array Event,∀e∈(Extern.BytealgMakeNoZero.makeNoZero ps #[t] #[.int .i64 n]).events P s.w es,e∈es∨∃m,e=⟨.mark m,af,ab⟩/\Go.Conc.Neutral m:=by
   intro es e J;change e∈Sem.events P (underlying _ >>= _) _ _ at J;have g:¬(n:Int)<0:=by omega
   have S:¬(281474976710656:Int)<(n:Int):=by omega
   have WV:e∈(askRoom (grownCap s.w n 0 E)).events P s.w.drew es:=by simpa[run_underlying ht,g,S,Question.forced,newRow,grownCap]using J
   grind[Go.Conc.events_askRoom]
  have:ev∈(Extern.BytealgMakeNoZero.makeNoZero ps #[t] #[.int .i64 n]).events P s.w ((#[]:Array Event).push ⟨.mark (.extern f),af,ab⟩):=by have e:callFunc f #[.int .i64 n]=callFunc f #[.int .i64 n]:=rfl;simpa[callFunc,hf,Q,WZ,Y,J,g]using G
  rcases key _ _ this with h|⟨m,rfl,hm⟩
  .simp at h;subst h;exact .inr ⟨f,rfl⟩
  .exact .inl hm
def Uc{C J:aj}{x y:ak}(ho:o.op=.call {callee:=.builtin .unsafeString,args:=#[x,y],argTypes:=#[C,J]})(hp:P.underlying C=aa (.pointer E))(I:P.cellsOf E=1){g cap:Nat}(Z:σ[l]?=aa (.b8 (BB T E d v1 (aa (g,cap)) xs k)))(hx:q x=.e (.one (.v (.pointer (aa ⟨g,0,ae⟩)))))(hy:q y=.e (.one (.c (.int .i64 xs.length)))):
  bF P o q σ (.e (.one (.c (.str xs)))) (σ.set l (.b8 (BB T E d v1 (aa (g,cap)) xs xs.length))):=by
 intro s M hh hr;obtain⟨L,b,ch,r⟩:=BB.row (P:=P) hh Z;obtain⟨a1,a2,a3,a4,a5,⟨Q,a6,a7⟩,a8,S⟩:=r.at;have u:=hr x;rw[hx]at u;have u:=Rd.dZ u;have p:M y=.int .i64 xs.length:=by have O:=hr y;rw[hy]at O;have O:=eT O;generalize M y=v at O;cases O;rfl
 have W:=r.heap _ _ a7;have t:aw M o=(do pure (.value (<-Builtin.unsafeString_ #[C,J] o.type #[M x,M y]))):=by simp[aw,ho,resolve,invoke,builtin]
 have hlen:(qB xs++Q).toArray.size=cap:=by grind
 by_cases h0:xs=[]
 .subst h0;have m:=Lib.run_unsafeString_none (P:=P) s.w C J o.type (aa ⟨g,0,ae⟩);obtain⟨V,t2⟩:=r.jv (xs':=[]) (fz':=0) (zs':=Q) (w':=s.w) hh Z a6 a2 (by simp) rfl (λ_ _=>rfl) (by grind) rfl rfl rfl;refine⟨.value (.string .empty),_,?_,Rd.str rfl (by simp),V,t2,?_⟩
  .rw[t,u,p];simp only[bL,dn];have:(Builtin.unsafeString_ #[C,J] o.type #[.pointer (aa ⟨g,0,ae⟩),.int .i64 ([]:List UInt8).length]).run P s.w=_:=m;rw[this];rfl
  .rw[t,u,p];refine eH ?_;change eY s (Sem.events P (asInt (.int .i64 0) >>= _) _ _);simp[asInt,asIntOf,IntKind.max];exact .nil
 .have n:∀j x,xs[j]?=aa x->s.w.cell? ((⟨g,0,ae⟩:Addr).add j)=aa (.int .u8 x.toNat):=by
   intro j x R;rw[dk];simp only[aV,W,bC];have s9:j<xs.length:=(bY.1 R).1;have:(qB xs)[j]?=aa (.int .u8 x.toNat):=by simp[qB,R]
   grind
  have A:s.w.shape? g=aa (E,cap):=by simp only[World.shape?,W];grind
  have m:=Lib.run_unsafeString_row (P:=P) s.w C J o.type E hp I g cap A xs h0 a2 (by omega) n;have f:xs.length≠0:=by grind
  have hfz:(s.w.freeze ⟨g,0,ae⟩ xs.length).heap[g]?=aa (.cells (qB xs++Q).toArray E (0,xs.length)):=by simp only[World.freeze,f,b7,Array.getElem?_modify,cj,W,nZ];grind
  obtain⟨V,t2⟩:=r.jv (xs':=xs) (fz':=xs.length) (zs':=Q) (w':=s.w.freeze ⟨g,0,ae⟩ xs.length) hh Z a6 a2 (bh _) (by simp[World.freeze,f]) (λb' Dt=>by
   simp only[World.freeze,f,b7,Array.getElem?_modify]
   grind) hfz (by simp[World.freeze,f]) (by simp[World.freeze,f]) (by simp[World.freeze,f])
  refine⟨.value (.string ⟨xs.toArray⟩),_,?_,Rd.str (by simp) (by omega),V,t2,?_⟩
  .rw[t,u,p];simp only[bL,dn,m];rfl
  .rw[t,u,p];refine eH λe B=>?_;have H:¬(xs.length:Int)<0:=by omega
   have h63:¬(9223372036854775807:Int)<(xs.length:Int):=by omega
   have i:=Lib.liesAt_bytes (P:=P) I (cap / P.cellsOf E) xs.length (by grind);have K:IntKind.i64.max=9223372036854775807:=rfl;have hlb:=Lib.run_loadBytes (P:=P) s.w xs ⟨g,0,ae⟩ .empty n;have G8:∀(G:List UInt8) (a:Nat) (acc:ByteArray) (es:Array Event),(∀j x,G[j]?=aa x->s.w.cell? ⟨g,a+j,ae⟩=aa (.int .u8 x.toNat))->∀e∈(loadBytes ⟨g,a,ae⟩ acc G.length).events P s.w es,e∈es∨∃j,e=zv g j:=by
    intro G;induction G with
    |nil=>intro a acc es _ e B;exact .inl (by simpa[loadBytes]using B)
    |cons y G ih =>
     intro a acc es I e B;have F:=I 0 y rfl;simp only[iq]at F;have Y:(load ⟨g,a,ae⟩).run P s.w=.ok (.int .u8 y.toNat) s.w:=by grind[run_load]
     simp only[eU,loadBytes,aM,Y,aO,zy F,dk]at B;rcases ih (a+1) _ _ (λj x R=>by have:=I (j+1) x (by grind);grind) e B with h|h
     .grind
     grind
   have U:(variablesAt ⟨g,0,ae⟩ E xs.length).run P s.w=.ok ab s.w:=by simp[variablesAt,A,i]
   have hve:∀es,(variablesAt ⟨g,0,ae⟩ E xs.length).events P s.w es=es:=λes=>by simp[variablesAt,A,i]
   have QZ:e∈(loadBytes ⟨g,0,ae⟩ .empty xs.length).events P s.w #[]:=by change e∈Sem.events P (asInt (.int .i64 (xs.length:Int)) >>= _) _ _ at B;simpa[asInt,asIntOf,K,H,h63,f,elemOf,run_underlying hp,U,hve,hlb]using B
   rcases G8 xs 0 .empty #[] (λj x R=>by grind[dk]) e QZ with h|⟨j,rfl⟩
   .grind
   .exact jH (bH r.β) S
end
section
variable {P:aq}{X:Cx P}{N:Nat}{q:List (Nat×TI)}{o:au}{g:ak->D}{σ:List aP}{l:Nat}{T E:aj}{i:Bool}{v1:ah}{bf:Option (Nat×Nat)}{xs:List UInt8}{p:Nat}{s:St}
def bF.exact{x:ak}{v r:ah}{d:D}(c:g x=.e (.one (.v v)))(h:∀(a:ak->ah) w,a x=v->(aw a o).run P w=.ok (.value r) w/\(aw a o).events P w #[]=#[])(f:∀σ s,dj σ s r d):bF P o g σ d σ:=by refine .quiet λs a hh hr=>?_;have b:=hr x;rw[c]at b;have b:=Rd.dZ b;obtain⟨h1,h2⟩:=h a s.w b;grind
def bF.uJ{x:ak}{b:Array aj}{t E:aj}(h:o.op=.call {callee:=.builtin .len,args:=#[x],argTypes:=b})(k:b[0]?=aa t)(j:P.underlying t=aa (.slice E)){a:Option Addr}{n c:Nat}(d:g x=.e (.one (.v (.slice a n c))))(r:n<=9223372036854775807):bF P o g σ (.e (.one (.c (.int .i64 n)))) σ :=
 .exact d (λm w f=>by constructor<;>simp[aw,h,resolve,invoke,builtin,Builtin.len_,f,run_underlying j,goInt,k]) (λ_ _=>Rd.int (by simp only[bA];omega))
def bF.Nn{x:ak}{b:Array aj}{t E:aj}(h:o.op=.call {callee:=.builtin .cap,args:=#[x],argTypes:=b})(k:b[0]?=aa t)(j:P.underlying t=aa (.slice E)){a:Option Addr}{n c:Nat}(d:g x=.e (.one (.v (.slice a n c))))(r:c<=9223372036854775807):bF P o g σ (.e (.one (.c (.int .i64 c)))) σ :=
 .exact d (λm w f=>by constructor<;>simp[aw,h,resolve,invoke,builtin,Builtin.cap_,f,run_underlying j,goInt,k]) (λ_ _=>Rd.int (by simp only[bA];omega))
def bF.Ud{x:ak}{a:Array aj}(h:o.op=.call {callee:=.builtin .unsafeSliceData,args:=#[x],argTypes:=a}){n c:Nat}(b:g x=.e (.one (.v (.slice ae n c)))):bF P o g σ (.e (.one (.v (.pointer ae)))) σ :=
 .exact b (λf w d=>by
  have e:Builtin.unsafeSliceData_ a o.type #[.slice ae n c]=pure (.pointer ae):=rfl
  constructor<;>simp[aw,h,resolve,invoke,builtin,d,e]) (λ_ _=>Rd.val rfl)
def bF.Ue{x:ak}{b:Array aj}(h:o.op=.call {callee:=.builtin .unsafeSliceData,args:=#[x],argTypes:=b}){a:Addr}{n c:Nat}(d:g x=.e (.one (.v (.slice (aa a) n c))))(j:c≠0):bF P o g σ (.e (.one (.v (.pointer (aa a))))) σ :=
 .exact d (λk w f=>by
  obtain⟨m,rfl⟩:=Nat.exists_eq_succ_of_ne_zero j;have e:Builtin.unsafeSliceData_ b o.type #[.slice (aa a) n (m+1)]=pure (.pointer (aa a)):=rfl
  constructor<;>simp[aw,h,resolve,invoke,builtin,f,e]) (λ_ _=>Rd.val rfl)
def bF.Uf{t E:aj}{x y:ak}(h:o.op=.slice t x ae (aa y) ae)(z:P.underlying t=aa (.slice E)){G:TypeInfo}(hi:P.info? E=aa G){a:Addr}{n c k:Nat}(C:g x=.e (.one (.v (.slice (aa a) n c))))(F:g y=.e (.one (.c (.int .i64 k))))(hk:k<=n)(B:n<=c)(u:c≠0)(H:a.add 0=a):bF P o g σ (.e (.one (.v (.slice (aa a) k c)))) σ:=by
 refine .quiet λs r hh hr=>?_;have b:=hr x;rw[C]at b;have b:=Rd.dZ b;have d:r y=.int .i64 k:=by have h1:=hr y;rw[F]at h1;have h1:=eT h1;generalize r y=v at h1;cases h1;rfl
 have hl:((ae:Option ah)=ae/\(ae:Option Int)=ae)∨∃k j,(ae:Option ah)=aa (.int k j)/\(ae:Option Int)=aa j:=.inl ⟨rfl,rfl⟩;have hh:(aa (Value.int .i64 k)=ae/\(aa (k:Int))=ae)∨∃k' j,aa (Value.int .i64 k)=aa (.int k' j)/\(aa (k:Int))=aa j:=.inr ⟨_,_,rfl,rfl⟩;have A:az (fM n ae (aa (k:Int))):=by simp[fM,hk]
 obtain⟨m,_,_⟩:=lX (P:=P) (isS:=ab) B hl hh A s.w;have f:=nc (P:=P) (isS:=ab) B hl hh A s.w;simp only[c9,b9]at m;refine⟨.slice (aa a) k c,?_,Rd.val rfl,?_⟩
 .simp[aw,h,b,d,Instr.sliceAt,run_underlying z,Instr.slice,m,sizeOf,typeInfo,hi,u,H]
 .simp[aw,h,b,d,Instr.sliceAt,run_underlying z,Instr.slice,m,f,sizeOf,typeInfo,hi,u]
def bF.copyV{t E k:aj}{x y:ak}(h:o.op=.call {callee:=.builtin .copy,args:=#[x,y],argTypes:=#[t,k]})(m:P.underlying t=aa (.slice E)){n:TypeInfo}(hi:P.info? E=aa n){a:Addr}{c:Nat}(f:g x=.e (.one (.v (.slice (aa a) 0 c))))(j:g y=.e (.one (.v (.slice ae 0 0)))):bF P o g σ (.e (.one (.c (.int .i64 0)))) σ:=by
 refine .quiet λs r hh hr=>?_;have b:=hr x;rw[f]at b;have b:=Rd.dZ b;have d:=hr y;rw[j]at d;have d:=Rd.dZ d;refine⟨.int .i64 0,?_,Rd.int (by simp[bA]),?_⟩<;>
 simp[aw,h,resolve,invoke,builtin,Builtin.copy_,b,d,run_underlying m,sizeOf,typeInfo,hi,Builtin.lenOf,Builtin.firstCells,storeCells,goInt]
def bF.Ug{k j:aj}{x y:ak}(r:o.op=.call {callee:=.builtin .unsafeString,args:=#[x,y],argTypes:=#[k,j]})(m:g x=.e (.one (.v (.pointer ae))))(n:g y=.e (.one (.c (.int .i64 ((0:Nat):Int))))):bF P o g σ (.e (.one (.c (.str [])))) σ:=by
 refine .od λs h hh hr=>?_;have a:=hr x;rw[m]at a;have a:=Rd.dZ a;have d:h y=.int .i64 0:=by have h1:=hr y;rw[n]at h1;have h1:=eT h1;generalize h y=v at h1;cases h1;rfl
 have f:aw h o=(do pure (.value (<-Builtin.unsafeString_ #[k,j] o.type #[h x,h y]))):=by simp[aw,r,resolve,invoke,builtin]
 have b:=Lib.run_unsafeString_none (P:=P) s.w k j o.type ae;refine⟨.string .empty,?_,Rd.str rfl (by simp),?_⟩
 .rw[f,a,d];simp only[bL,dn,b];rfl
 .rw[f,a,d];refine eH ?_;change eY s (Sem.events P (asInt (.int .i64 0) >>= _) _ _);simp[asInt,asIntOf,IntKind.max];exact .nil
def bF.bTo(m:σ[l]?=aa (.b8 (BB T E i v1 bf xs p))){c dst:aj}{x:ak}(h:o.op=.convert c dst x)(u:P.underlying c=aa (.pointer T))(t:P.underlying dst=aa .unsafePointer){j:TypeInfo}(hj:P.info? T=aa j)(f:j.size≠0)(v:g x=.e (.one (.ptr l 0))):bF P o g σ (.e (.one (.ptr l 0))) σ:=by
 refine .quiet λs y hh hr=>?_;obtain⟨L,b,ch,r⟩:=BB.row (P:=P) hh m;have d:=hr x;rw[v]at d;have n:=r.ptr d;have k:s.w.shape? b=aa (T,2):=by simp[World.shape?,r.heap _ _ r.ch]
 have a:=Lib.run_to_unsafe (P:=P) s.w ⟨b,0,ae⟩ u t hj f k (by simp);refine⟨y x,by simp[aw,h,n,a],d,?_⟩;have:(convert c dst (.pointer (aa ⟨b,0,ae⟩))).events P s.w #[]=#[]:=by simp[convert,run_underlying u,run_underlying t,Conv.unsafePointer,Conv.seenAt,viewAt,cellsIn,k,sizeOf,typeInfo,hj,f]
 simp[aw,h,n,a,this]
def bF.Uh(m:σ[l]?=aa (.b8 (BB T E i v1 bf xs p))){d dst:aj}{x:ak}(h:o.op=.convert d dst x)(v:P.underlying d=aa .unsafePointer)(t:P.underlying dst=aa (.pointer T)){j:TypeInfo}(hj:P.info? T=aa j)(n:j.size≠0)(a:liesAt P P.depth T (2 / P.cellsOf T) 0 T 1=ab)(y:g x=.e (.one (.ptr l 0))):bF P o g σ (.e (.one (.ptr l 0))) σ:=by
 refine .quiet λs z hh hr=>?_;obtain⟨L,b,ch,r⟩:=BB.row (P:=P) hh m;have f:=hr x;rw[y]at f;have u:=r.ptr f;have k:s.w.shape? b=aa (T,2):=by simp[World.shape?,r.heap _ _ r.ch]
 have c:=Lib.run_from_unsafe (P:=P) s.w ⟨b,0,ae⟩ v t hj k a;refine⟨z x,by simp[aw,h,u,c],f,?_⟩;have:(convert d dst (.pointer (aa ⟨b,0,ae⟩))).events P s.w #[]=#[]:=by simp[convert,run_underlying v,run_underlying t,Conv.unsafePointer,Conv.seenAt,viewAt,variablesAt,k,sizeOf,typeInfo,hj,n,a]
 simp[aw,h,u,c,this]
def bF.Ui{f:aJ}{fn:Func}(B:P.funcs[f]?=aa fn)(j:(fn.name== "runtime.NumGoroutine")=af)(z:fn.body.isNone=ab)(F:Extern.findNext fn=ae)(A:Extern.find fn=aa Extern.AbiNoEscape.same){r x:ak}{u:Array aj}(C:o.op=.call {callee:=.value r,args:=#[x],argTypes:=u})(t:g r=.e (.one (.c (.fn (.func f) [] [])))){d:D}(G:g x=d):bF P o g σ d σ:=by
 refine .od λs m hh hr=>?_;have n:m r=.func (.func f) #[] #[]:=by
  have h1:=hr r;rw[t]at h1;have h1:=eT h1;generalize m r=v at h1;cases h1 with
  |fn fs cs a b I J c1 c2 d1 d2 =>
   grind
 have k:(callFunc f #[m x]).run P s.w=.ok (.value (m x)) s.w:=by rw[run_callFunc_extern B j z F A];rfl
 have y:=lY (P:=P) B j z F A #[m x] (λ_ _=>rfl) s.w #[];refine⟨m x,?_,by grind,λH h=>?_⟩
 .simp[aw,C,resolve,Deferred.ofValue,invoke,n,k]
 .simp[aw,C,resolve,Deferred.ofValue,invoke,n,y]at h;subst h;exact .inr ⟨_,rfl⟩
end
end Go.AM
