/- Part 2. No condition. -/
import Derived.Test.YtaaemhhkoipeoaaGreatDoorA1
import Derived.Test.YtaaemhhkoipeoaaGreatDoorProg
import Derived.MapKept
import Derived.Maps.RangeRun
import Derived.Laws.MakeOwn
import Derived.Lib.SliceRun
import Derived.Lib.FrozenHead
import Derived.Lib.UnsafeStr
import Derived.Lib.MakeNoZero
import Derived.Laws.Externs
import Derived.Lib.Builder
set_option linter.all false
set_option maxHeartbeats 8000000
open Go.Proofs
open Go.Conc (G)
open Go renaming Value → aj, TypeId → av, Frame → aU, FuncId → aM, execOp → an, undef → ai, Operand → aE, World → aA, Program → aK, Oper → aD, Goroutine → ak, stepG → aH
open Option renaming some → aa, none → af
open Bool renaming true → ab, false → ae
open Go.Region renaming wanted → a9, ready → aX
open Go.World renaming cell? → aR
open List renaming getD_eq_getElem?_getD → ah, range → bg
open Go.Builtin renaming append_ → bj
open Go.Sem renaming events_bind → aP
open Go.Result renaming evThen_ok → aV
open Nat renaming beq → az, ble → bC
open Go.Proofs.Tryz renaming prog → ag, underlying22 → aJ
namespace Go.AM
variable {n k l b i j:Nat}{E:av}{L:Array Bool}{M:Mem}{N:Nat}{P:aK}{S:ak->St->Prop}{c:Code}{g:ak}{o:aD}{s:St}{t:av}{v:aj}{w:aA}{x y:aE}{α:Type}{η:aE->D}{ι:Type}{σ:List bm}{φ:Fr}{all:List aD}{jN:Array av}{cap:List C}{cy:List D}{cs:List aU}{ds:List (Nat×Bool)}{es:Nat->List C}{fo:aE}{gs:Array ak}{obs:List Prop}{off:Nat}{op:BinOp}{ops:Array aD}{ps:List Prop}{rest:List aD}{s':St}{tx:Bool}{ty:av}{val:Nat->Nat->aj}{vs:List aj}{w':aA}{xs:Array aE}{σ' σs:List bm}{res:ι->D}{σ1:ι->List bm}
section force
variable {p:Type}
def vL:C->(C->Option p)->Option p
 |.int k n,q=>q (.int k n)
 |.bool b,q=>q (.bool b)
 |.str s,q=>q (.str s)
 |.sl ab k n es,q=>q (.sl ab k n es)
 |.sl ae k n es,q=>q (.sl ae k n es)
 |.rp cs,q=>dq cs λcs=>q (.rp cs)
 |.Mo t cs,q=>dq cs λcs=>q (.Mo t cs)
 |.fn f a b,q=>dq a λa=>dq b λb=>q (.fn f a b)
 |c,q=>q c
def GJ(c:C)(q:C->Option p):vL c q=q c:=by
 cases c with
 |sl t=>cases t<;>rfl
 |rp cs=>simp[vL,c7]
 |Mo t cs=>simp[vL,c7]
 |fn f a b=>simp[vL,c7]
 |_=>rfl
def vM:A->(A->Option p)->Option p
 |.c x,q=>vL x λx=>q (.c x)
 |.ptr l o,q=>q (.ptr l o)
 |.vec l k n es,q=>q (.vec l k n es)
 |.ref l,q=>q (.ref l)
 |.bp l (.sl g k o n),q=>q (.bp l (.sl g k o n))
 |.bp l (.el g k i f),q=>q (.bp l (.el g k i f))
 |.any,q=>q .any
def yd(a:A)(q:A->Option p):vM a q=q a:=by
 cases a with
 |bp l w=>cases w<;>simp[vM]
 |_=>simp[vM,GJ]
def uW:List A->(List A->Option p)->Option p
 |[],q=>q []
 |a::r,q=>vM a λa=>uW r λr=>q (a::r)
def DG(l:List A)(q:List A->Option p):uW l q=q l:=by
 induction l generalizing q with
 |nil=>rfl
 |cons a r b=>simp[uW,yd,b]
def zD:E1->(E1->Option p)->Option p
 |.one a,q=>vM a λa=>q (.one a)
 |.agg cs,q=>uW cs λcs=>q (.agg cs)
def ye(a:E1)(q:E1->Option p):zD a q=q a:=by cases a<;>simp[zD,yd,DG]
def uX:List E1->(List E1->Option p)->Option p
 |[],q=>q []
 |a::r,q=>zD a λa=>uX r λr=>q (a::r)
def DH(l:List E1)(q:List E1->Option p):uX l q=q l:=by
 induction l generalizing q with
 |nil=>rfl
 |cons a r b=>simp[uX,ye,b]
def nS:D->(D->Option p)->Option p
 |.e x,q=>zD x λx=>q (.e x)
 |.fK xs,q=>uX xs λxs=>q (.fK xs)
 |.any,q=>q .any
theorem mW(a:D)(q:D->Option p):nS a q=q a:=by cases a<;>simp[nS,ye,DH]
end force
def Bl:D->Option (Bool×Nat×Nat×(Nat->List C))
 |.e (.one (.c (.sl t k n es)))=>aa (t,k,n,es)
 |.e (.one (.vec _ k n es))=>aa (ae,k,n,es)
 |_=>af
theorem pR{d:D}{t:Bool}(h:Bl d=aa (t,k,n,es))(σ:List bm)(s:St)(v:aj)(r:dk σ s v d):Rd s.M v (.sl t k n es):=by
 unfold Bl at h;split at h
 .cases h;exact r
 .cases h;exact r.1
 grind
def iH(l:List UInt8)(j:Int):UInt8:=l.getD j.toNat 0
def PH(T:List (Nat×TI))(t:av)(d:D):Option D :=
 match bG T t with
 |none=>af
 |some i=>match i.desc with
  |.slice _=>match Bl d with
   |some (_,_,n,_)=>aa (.e (.one (.c (.int .i64 n))))
   |none=>af
  |.string=>match d with
   |.e (.one (.c (.str s)))=>aa (.e (.one (.c (.int .i64 s.length))))
   |_=>af
  |_=>af
def IP(T:List (Nat×TI))(a b:av)(d:D):Option (D×List Prop) :=
 match bG T a with
 |none=>af
 |some i1=>match bG T b with
  |none=>af
  |some i2=>match i2.desc with
   |.int k'=>match d with
    |.e (.one (.c (.int _ j)))=>aa (.e (.one (.c (.int k' j))),[bt k' j])
    |_=>af
   |.string=>match d with
    |.e (.one (.c (.str s)))=>aa (.e (.one (.c (.str s))),[])
    |d=>match i1.desc with
     |.slice E=>match bG T E with
      |some ie=>match ie.desc with
       |.int .u8=>match Bl d with
        |some (_,k,n,es)=>match az k 1 with
         |true=>match vN es 0 n with
          |some r=>aa (.e (.one (.c (.str r))),[])
          |none=>af
         |false=>af
        |none=>af
       |_=>af
      |none=>af
     |_=>af
   |_=>af
def DI(T:List (Nat×TI))(η:aE->D)(t:av)(x:aE)(lo hi:Option aE):Option (D×List Prop) :=
 match bG T t with
 |none=>af
 |some i=>match uu η lo with
  |none=>af
  |some l=>match uu η hi with
   |none=>af
   |some u=>match i.desc with
    |.string=>match η x with
     |.e (.one (.c (.str s)))=>aa (.e (.one (.c (.str (rR s l u)))),jz s.length l u)
     |_=>af
    |.slice E=>match bG T E with
     |none=>af
     |some ie=>match Bl (η x)with
      |some (tt,k,n,es)=>match az k ie.size with
       |true=>aa (.e (.one (.c (.sl (PI tt u) ie.size (cr n u-cr 0 l) (k9 (cr 0 l) es)))),jz n l u)
       |false=>af
      |none=>af
    |_=>af
def yf(op:BinOp)(k:IntKind)(a:Int)(k':IntKind)(b:Int):Option (D×List Prop) :=
 match A4 op k a k' b with
 |some (c,obs)=>aa (.e (.one (.c (.int k c))),obs)
 |none=>af
theorem rS{k k':IntKind}{a b:Int}{d:D}(h:yf op k a k' b=aa (d,obs)):∃c,d=.e (.one (.c (.int k c)))/\A4 op k a k' b=aa (c,obs):=by unfold yf at h;grind
def OE(T:List (Nat×TI))(op:BinOp)(t:av)(x y:D):Option (D×List Prop) :=
 match x,y with
 |.e (.one (.c (.bool a))),.e (.one (.c (.bool b)))=>match bG T t with
  |some i=>match i.desc with
   |.bool=>match lF op (a==b)with
    |some c=>aa (.e (.one (.c (.bool c))),[])
    |none=>af
   |_=>af
  |none=>af
 |.e (.one (.c a)),.e (.one (.c b))=>match op with
  |.xor=>match a,b with
   |.int .i64 a,.int .i64 b=>aa (.e (.one (.c (.int .i64 ((a.toNat ^^^ b.toNat:Nat):Int)))),[0<=a,0<=b])
   |.int .u64 a,.int k' b=>yf .xor .u64 a k' b
   |_,_=>af
  |.shl=>match a,b with
   |.int k a,.int k' b=>yf .shl k a k' b
   |_,_=>af
  |.shr=>match a,b with
   |.int k a,.int k' b=>yf .shr k a k' b
   |_,_=>af
  |.and=>match a,b with
   |.int k a,.int k' b=>yf .and k a k' b
   |_,_=>af
  |_=>match Mv op a b with
   |some (c,obs)=>aa (.e (.one (.c c)),obs)
   |none=>af
 |.e (.agg cs),.e (.agg es)=>match bG T t with
  |some i=>match i.eq with
   |[]=>af
   |d::ds=>match OF (d::ds) cs es with
    |some b=>match lF op b with
     |some c=>aa (.e (.one (.c (.bool c))),[])
     |none=>af
    |none=>af
  |none=>af
 |_,_=>af
def UO(T:List (Nat×TI))(CT:List (Nat×dv))(φ:Fr)(o:aD):Option (D×List Prop) :=
 match o.op with
 |.move x|.assign x=>aa (bO φ x,[])
 |.index t x y=>match bG T t with
  |some i=>match i.desc with
   |.string=>match bO φ x,bO φ y with
    |.e (.one (.c (.str l))),.e (.one (.c (.int _ j)))=>aa (.e (.one (.c (.int .u8 (iH l j).toNat))),[0<=j,j<l.length])
    |_,_=>af
   |_=>af
  |none=>af
 |.indexAddr t x y=>match bG T t with
  |some i=>match i.desc with
   |.slice E=>match bG T E with
    |some ie=>match Bl (bO φ x),bO φ y with
     |some (_,k,n,es),.e (.one (.c (.int _ j)))=>match az k ie.size with
      |true=>aa (.e (.one (.c (.rp (es j.toNat)))),[0<=j,j<n])
      |false=>af
     |_,_=>af
    |none=>af
   |_=>af
  |none=>af
 |.slice t x lo hi af=>DI T (bO φ) t x lo hi
 |.convert src dst x=>IP T src dst (bO φ x)
 |.call c=>match c.callee with
  |.builtin .len=>match c.args.toList,c.argTypes[0]? with
   |[x],aa t=>match PH T t (bO φ x)with
    |some d=>aa (d,[])
    |none=>af
   |_,_=>af
  |.value fo=>Bm CT φ fo c.args.toList
  |_=>af
 |.pick c a b=>match bO φ c with
  |.e (.one (.c (.bool ab)))=>aa (bO φ a,[])
  |.e (.one (.c (.bool ae)))=>aa (bO φ b,[])
  |_=>af
 |.binOp op t x y _=>OE T op t (bO φ x) (bO φ y)
 |.unOp op _ x=>match bO φ x with
  |.e (.one (.c a))=>match UP op a with
   |some c=>aa (.e (.one (.c c)),[])
   |none=>af
  |_=>af
 |.extract x j=>match bO φ x with
  |.fK xs=>match eB j xs with
   |some e=>aa (.e e,[])
   |none=>af
  |_=>af
 |.fieldAddr t x f=>match jA T t f with
  |some (k,_)=>match bO φ x with
   |.e (.one (.ptr l off))=>aa (.e (.one (.ptr l (off+k))),[])
   |.e (.one (.c (.rp cs)))=>aa (.e (.one (.c (.rp (g8 k cs)))),[])
   |_=>af
  |none=>af
 |.field t x f=>match jA T t f with
  |some (k,j)=>match bO φ x with
   |.e (.agg cs)=>match mR j (g8 k cs)with
    |some e=>aa (.e e,[])
    |none=>af
   |_=>af
  |none=>af
 |.nilCheck x=>match bO φ x with
  |.e (.one (.ptr l off))=>aa (.e (.one (.ptr l off)),[])
  |.e (.one (.c (.rp cs)))=>aa (.e (.one (.c (.rp cs))),[])
  |_=>af
 |.build t parts=>match zE T (bO φ) t parts.toList with
  |some cs=>aa (.e (.agg cs),[])
  |none=>af
 |.buildSlice t n parts=>match Mw T (bO φ) t n parts.toList with
  |some (k,es)=>aa (.e (.one (.c (.sl ab k n λi=>es.getD i []))),[])
  |none=>af
 |.makeFunc fn a b=>match vO (bO φ) a.toList with
  |some ca=>match vO (bO φ) b.toList with
   |some cb=>aa (.e (.one (.c (.fn fn ca cb))),[])
   |none=>af
  |none=>af
 |.makeInterface t x=>match bG T t with
  |some i=>match Bn i.desc with
   |false=>match uY t (bO φ x)with
    |some c=>aa (.e (.one (.c c)),[])
    |none=>af
   |true=>af
  |none=>af
 |_=>af
def II(T:List (Nat×TI))(φ:Fr)(σ:List bm)(t:av)(x:aE):Option D :=
 match bG T t with
 |some i=>match bO φ x with
  |.e (.one (.ptr l off))=>match eB l σ with
   |some (.cells _ cs)=>match mR i (g8 off cs)with
    |some e=>aa (.e e)
    |none=>af
   |_=>af
  |.e (.one (.c (.rp cs)))=>match mR i (cs.map A.c)with
   |some e=>aa (.e e)
   |none=>af
  |_=>af
 |none=>af
def VM(T:List (Nat×TI))(φ:Fr)(o:aD):Option (D×List Prop) :=
 match o.op with
 |.indexAddr t x y=>match bG T t with
  |some i=>match i.desc with
   |.slice E=>match bG T E with
    |some ie=>match bO φ x,bO φ y with
     |.e (.one (.bp l (.sl g k q m))),.e (.one (.c (.int _ j)))=>match az k ie.size with
      |true=>aa (.e (.one (.bp l (.el g ie.size (q+j.toNat) 0))),[0<=j,j<m])
      |false=>af
     |.e (.one (.c (.val (.slice (aa ⟨b,off,af⟩) n _)))),.e (.one (.c (.int _ j)))=>aa (.e (.one (.c (.val (.pointer (aa ⟨b,off+j.toNat*ie.size,af⟩))))),[0<=j,j<n])
     |_,_=>af
    |none=>af
   |_=>af
  |none=>af
 |.fieldAddr t x f=>match jA T t f with
  |some (k,_)=>match bO φ x with
   |.e (.one (.bp l (.el g a i q)))=>aa (.e (.one (.bp l (.el g a i (q+k)))),[])
   |.e (.one (.c (.val (.pointer (aa ⟨b,off,af⟩)))))=>aa (.e (.one (.c (.val (.pointer (aa ⟨b,off+k,af⟩))))),[])
   |_=>af
  |none=>af
 |.nilCheck x=>match bO φ x with
  |.e (.one (.bp l (.el g a i q)))=>aa (.e (.one (.bp l (.el g a i q))),[])
  |_=>af
 |.slice t x lo hi af=>match bG T t with
  |none=>af
  |some i=>match uu (bO φ) lo with
   |none=>af
   |some lw=>match uu (bO φ) hi with
    |none=>af
    |some u=>match i.desc with
     |.slice E=>match bG T E with
      |none=>af
      |some ie=>match bO φ x with
       |.e (.one (.bp l (.sl g k q m)))=>match az k ie.size with
        |true=>aa (.e (.one (.bp l (.sl g ie.size (q+cr 0 lw) (cr m u-cr 0 lw)))),jz m lw u)
        |false=>af
       |_=>af
     |_=>af
 |.slice t x af (aa y) (aa z)=>match bG T t with
  |none=>af
  |some i=>match i.desc with
   |.slice E=>match bG T E with
    |none=>af
    |some _=>match Bl (bO φ x),bO φ y,bO φ z with
     |some (_,k,n,es),.e (.one (.c (.int _ j))),.e (.one (.c (.int _ m)))=>aa (.e (.one (.c (.sl ae k j.toNat es))),[0<=j,j<=m,m<=n])
     |_,_,_=>af
   |_=>af
 |.slice t x (aa w) (aa y) (aa z)=>match bG T t with
  |none=>af
  |some i=>match i.desc with
   |.slice E=>match bG T E with
    |none=>af
    |some _=>match bO φ x,bO φ w,bO φ y,bO φ z with
     |.e (.one (.bp _ (.sl _ _ _ n))),.e (.one (.c (.int _ i))),.e (.one (.c (.int _ j))),.e (.one (.c (.int _ m)))=>aa (.e (.one .any),[0<=i,i<=j,j<=m,m<=n])
     |_,_,_,_=>af
   |_=>af
 |.call c=>match c.callee with
  |.builtin .len=>match c.args.toList,c.argTypes[0]? with
   |[x],aa t=>match bG T t with
    |some i=>match i.desc with
     |.slice _=>match bO φ x with
      |.e (.one (.bp _ (.sl _ _ _ m)))=>aa (.e (.one (.c (.int .i64 m))),[])
      |.e (.one (.c (.val (.slice _ n _))))=>aa (.e (.one (.c (.int .i64 n))),[n<=9223372036854775807])
      |_=>af
     |_=>af
    |none=>af
   |_,_=>af
  |_=>af
 |_=>af
def zA(T:List (Nat×TI))(φ:Fr)(σ:List bm)(t:av)(x:aE):Option (D×List Prop) :=
 match bG T t with
 |some it=>match bO φ x with
  |.e (.one (.bp l (.el g k i f)))=>match eB l σ with
   |some (.buf _ k' n es)=>match az k' k with
    |true=>match mR it ((g8 f (es i)).map A.c)with
     |some e=>aa (.e e,[g=n,i<n])
     |none=>af
    |false=>af
   |_=>af
  |_=>af
 |none=>af
def IQ:Nat->List C->Nat->Bool
 |0,cc,k=>az cc.length k
 |_+1,_,_=>ae
def zF(T:List (Nat×TI))(φ:Fr)(σ:List bm)(t:av)(x y:aE):Option (D×List bm×List Prop) :=
 match bG T t with
 |some it=>match bO φ x with
  |.e (.one (.bp l (.el g k i f)))=>match eB l σ with
   |some (.buf E k' n es)=>match az k' k with
    |true=>match lC (bO φ y)with
     |some new=>match az new.length it.size with
      |true=>match gU new with
       |some cc=>match IQ f cc k with
        |true=>dq (ee.sK l (.buf E k' n (mZ i cc es)) σ) λσ'=>aa (.any,σ',[g=n,i<n])
        |false=>match fh f cc (es i)with
         |some ci=>dq (ee.sK l (.buf E k' n (mZ i ci es)) σ) λσ'=>aa (.any,σ',[g=n,i<n])
         |none=>af
       |none=>af
      |false=>af
     |none=>af
    |false=>af
   |_=>af
  |_=>af
 |none=>af
def Mr(T:List (Nat×TI))(CT:List (Nat×dv))(φ:Fr)(σ:List bm)(o:aD):Option (D×List Prop) :=
 match o.op with
 |.load t x=>match II T φ σ t x with
  |some d=>aa (d,[])
  |none=>zA T φ σ t x
 |_=>match UO T CT φ o with
  |some r=>aa r
  |none=>VM T φ o
def Mx(T:List (Nat×TI))(t a:av):Option (av×TI) :=
 match bG T t with
 |none=>af
 |some i=>match bG T a with
  |none=>af
  |some i2=>match i.desc with
   |.slice E=>match i2.desc with
    |.slice E2=>match az E2 E with
     |false=>af
     |true=>match bG T E with
      |none=>af
      |some ie=>match bC 1 ie.bytes,bC 1 ie.size with
       |true,ab=>aa (E,ie)
       |_,_=>af
    |_=>af
   |_=>af
def IS(T:List (Nat×TI))(η:aE->D)(y:aE)(t a:av):Option (av×TI×Nat×(Nat->List C)) :=
 match Mx T t a with
 |none=>af
 |some (E,ie)=>match Bl (η y)with
  |none=>af
  |some (_,k',m,es')=>match az k' ie.size with
   |false=>af
   |true=>aa (E,ie,m,es')
def PK(T:List (Nat×TI))(η:aE->D)(σ:List bm)(x y:aE)(t a:av):Option (D×List bm×List Prop) :=
 match IS T η y t a with
 |none=>af
 |some (E,ie,m,es')=>match η x with
  |.e (.one (.c (.sl ab k n es)))=>match az k ie.size with
   |true=>dq (σ++[.vec E ie.size (n+m) (cR n es es')]) λσ'=>aa (.e (.one (.vec σ.length ie.size (n+m) (cR n es es'))),σ',[(n+m)*ie.bytes<=140737488355328,n=0∨0<m])
   |false=>match az n 0 with
    |true=>dq (σ++[.vec E ie.size (n+m) (cR n es es')]) λσ'=>aa (.e (.one (.vec σ.length ie.size (n+m) (cR n es es'))),σ',[(n+m)*ie.bytes<=140737488355328,n=0∨0<m])
    |false=>af
  |.e (.one (.vec l k n es))=>match eB l σ with
   |some (.vec E' k2 n2 Dm)=>match az E' E,az k ie.size,az k2 ie.size with
    |true,ab,ab=>dq (ee.sK l (.vec E ie.size (n+m) (cR n es es')) σ) λσ'=>aa (.e (.one (.vec l ie.size (n+m) (cR n es es'))),σ',[n2=n,Dm=es,(n+m)*ie.bytes<=140737488355328])
    |_,_,_=>af
   |_=>af
  |.e (.one (.bp l (.sl g k 0 n)))=>match eB l σ with
   |some (.buf E' k2 n2 Dm)=>match az E' E,az k ie.size,az k2 ie.size with
    |true,ab,ab=>dq (ee.sK l (.buf E ie.size (n2+m) (cR n2 Dm es')) σ) λσ'=>aa (.e (.one (.bp l (.sl (n2+m) ie.size 0 (n2+m)))),σ',[g=n2,n=n2,(n2+m)*ie.bytes<=140737488355328])
    |_,_,_=>af
   |_=>af
  |_=>af
def VN(T:List (Nat×TI))(CT:List (Nat×dv))(φ:Fr)(σ:List bm)(o:aD):Option (D×List bm×List Prop) :=
 match o.op with
 |.alloc _|.box _ _=>UQ T φ σ o
 |.store t x y=>match UQ T φ σ o with
  |some r=>aa r
  |none=>zF T φ σ t x y
 |.call c=>match c.callee with
  |.builtin .append=>match c.args.toList,c.argTypes.toList with
   |[x,y],[t,a]=>PK T (bO φ) σ x y t a
   |_,_=>af
  |.value fo=>IT CT φ σ fo c.args.toList
  |_=>af
 |_=>af
def PL(T:List (Nat×TI))(η:aE->D)(x y:aE)(t a:av):Option (D×List Prop) :=
 match IS T η y t a with
 |none=>af
 |some (_,ie,m,es')=>match η x with
  |.e (.one (.c (.sl ab k n es)))=>match az n 0 with
   |true=>aa (.e (.one (.c (.sl ae ie.size (n+m) (cR n es es')))),[(n+m)*ie.bytes<=140737488355328,n=0∨0<m])
   |false=>af
  |_=>af
def VO(T:List (Nat×TI))(φ:Fr)(o:aD):Option (D×List Prop) :=
 match o.op with
 |.call c=>match c.callee with
  |.builtin .append=>match c.args.toList,c.argTypes.toList with
   |[x,y],[t,a]=>PL T (bO φ) x y t a
   |_,_=>af
  |_=>af
 |_=>af
def Bo:List (Nat×Bool)->Nat->Option Bool
 |[],_=>af
 |(i,b)::r,t=>match az i t with|true=>aa b|false=>Bo r t
def VB(ds:List (Nat×Bool)):Option Nat->Bool
 |none=>ae
 |some t=>match Bo ds (2000000+t)with
  |some ab=>ab
  |_=>ae
def ZF(ds:List (Nat×Bool)):Option Nat->Bool
 |none=>ae
 |some t=>match Bo ds (3000000+t)with
  |some ab=>ab
  |_=>ae
def PN(E:av)(ie:TI)(η:aE->D)(σ:List bm)(x y:aE):Option (D×List bm×List Prop) :=
 match η x,η y with
 |.e (.one (.bp l (.sl g k 0 i))),.e (.one (.bp l' (.sl g' k' j m)))=>match az l' l with
  |false=>af
  |true=>match eB l σ with
   |some (.buf E' k2 n es)=>match az E' E,az k ie.size,az k' ie.size,az k2 ie.size with
    |true,ab,ab,ab=>dq (ee.sK l (.buf E ie.size n (zg i j m es)) σ) λσ'=>aa (.e (.one (.bp l (.sl n ie.size 0 (i+m)))),σ',[g=n,g'=n,i+m<=n,j+m<=n])
    |_,_,_,_=>af
   |_=>af
 |_,_=>af
def appW(w:Bool)(T:List (Nat×TI))(η:aE->D)(σ:List bm)(x y:aE)(t a:av):Option (D×List bm×List Prop) :=
 match w with
 |true=>match IS T η y t a with
  |none=>af
  |some (E,ie,m,es')=>match η x with
   |.e (.one (.c (.sl ab _ n es)))=>match az n 0 with
    |true=>dq (σ++[.buf E ie.size (0+m) (cR 0 es es')]) λσ'=>aa (.e (.one (.bp σ.length (.sl (0+m) ie.size 0 (0+m)))),σ',[(0+m)*ie.bytes<=140737488355328])
    |false=>af
   |_=>af
 |false=>match Mx T t a with
  |none=>af
  |some (E,ie)=>PN E ie η σ x y
def UR(w:Bool)(T:List (Nat×TI))(φ:Fr)(σ:List bm)(o:aD):Option (D×List bm×List Prop) :=
 match o.op with
 |.call c=>match c.callee with
  |.builtin .append=>match c.args.toList,c.argTypes.toList with
   |[x,y],[t,a]=>appW w T (bO φ) σ x y t a
   |_,_=>af
  |_=>af
 |_=>af
def SB(ds:List (Nat×Bool))(T:List (Nat×TI))(CT:List (Nat×dv))(φ:Fr)(σ:List bm)(o:aD):Option (D×List bm×List Prop) :=
 match ZF ds o.dst with
 |true=>UR ab T φ σ o
 |false=>match VN T CT φ σ o with
  |some r=>aa r
  |none=>UR ae T φ σ o
def IM(ds:List (Nat×Bool))(d:Option Nat)(x:D)(obs:List Prop):Option (D×List Prop) :=
 match d with
 |none=>aa (x,obs)
 |some t=>match Bo ds t with
  |none=>aa (x,obs)
  |some b=>match x with
   |.e (.one (.c (.bool e)))=>aa (.e (.one (.c (.bool b))),jY obs [e=b])
   |_=>af
def My{d:Option Nat}{x y:D}{a:List Prop}(h:IM ds d x obs=aa (y,a))(ho:ar a):y=x/\ar obs:=by
 unfold IM at h;split at h
 .grind
 .split at h
  .grind
  .split at h
   .cases h;rw[ar.cat]at ho;have:_=_:=ho.2;grind
   grind
def vH(T:List (Nat×TI))(CT:List (Nat×dv))(ds:List (Nat×Bool))(all:List aD)(φ:Fr)(σ:List bm)(o:aD):Option (D×Option (List bm)×List Prop) :=
 let go:Option (D×Option (List bm)×List Prop):=match Mr T CT φ σ o with
  |some (x,obs)=>match IM ds o.dst x obs with
   |some (y,a)=>nS y λy=>aa (y,af,a)
   |none=>af
  |none=>match VB ds o.dst with
   |true=>match VO T φ o with
    |some (x,obs)=>nS x λx=>aa (x,af,obs)
    |none=>af
   |false=>match SB ds T CT φ σ o with
    |some (x,σ',obs)=>nS x λx=>aa (x,aa σ',obs)
    |none=>af
 match o.guard with
 |none=>go
 |some (j,b)=>match zG φ all j with
  |some (aa b')=>match b,b' with
   |true,ab=>go
   |false,ae=>go
   |_,_=>aa (.fK [],af,[])
  |some af=>aa (.fK [],af,[])
  |none=>af
section
variable {X:Cx P}{T:List (Nat×TI)}{CT:List (Nat×dv)}
def FC(c:dj P T){a:av}{ie:TI}(ho:o.op=.call {callee:=.builtin .append,args:=#[x,y],argTypes:=#[t,a]})(h:Mx T t a=aa (E,ie)):ly P o x y E ie:=by
 unfold Mx at h;split at h
 .cases h
 rename_i i hi;split at h
 .cases h
 rename_i i2 R0;split at h
 case h_2=>cases h
 rename_i E f;split at h
 case h_2=>cases h
 rename_i E2 ZG;split at h
 .cases h
 rename_i b;have g:=b5 b;subst g;split at h
 .cases h
 rename_i ie ZH;split at h
 case h_2=>cases h
 rename_i e d;cases h;exact⟨⟨t,a,i,i2,ho,c t i hi,f,c a i2 R0,ZG⟩,c _ _ ZH,by have:=ez e;omega,by have:=ez d;omega⟩
def zH(c:dj P T){b:av}{ie:TI}{m:Nat}{es':Nat->List C}(ho:o.op=.call {callee:=.builtin .append,args:=#[x,y],argTypes:=#[t,b]})(h:IS T η y t b=aa (E,ie,m,es')):
  ly P o x y E ie/\∃tx,∀σ s v,dk σ s v (η y)->Rd s.M v (.sl tx ie.size m es'):=by
 unfold IS at h;split at h
 .cases h
 rename_i d;split at h
 .cases h
 rename_i tx k' m es' hy;split at h
 .cases h
 rename_i a;have e:=b5 a;subst e;cases h;exact⟨FC c ho d,tx,λσ s v=>pR hy σ s v⟩
theorem Mz(g:dj P T)(i:∀σ s a,cx N σ s φ a->a9 o (yielded all.toArray a.tmps)=ab){f:av}{d:D}(ho:o.op=.call {callee:=.builtin .append,args:=#[x,y],argTypes:=#[t,f]})(h:PL T (bO φ) x y t f=aa (d,obs))(b:ar obs):OA X N all o φ σ d σ:=by
 unfold PL at h;split at h
 .cases h
 rename_i E2 ie m es' hY;obtain⟨e,tx,c⟩:=zH g ho hY;have c:=λs v=>c σ s v;split at h
 .rename_i k n es hx;split at h
  .rename_i j;cases h;exact(OA.mN i (bF.oI e hx (.inr (b5 j)) c b.1 b.2)).SH
  grind
 grind
theorem MA(G:dj P T){B:av}{d:D}(ho:o.op=.call {callee:=.builtin .append,args:=#[x,y],argTypes:=#[t,B]})(h:PK T η σ x y t B=aa (d,σ',obs))(a:ar obs):bF P o η σ d σ':=by
 unfold PK at h;split at h
 .cases h
 rename_i E2 ie m es' hY;obtain⟨b,tx,c⟩:=zH G ho hY;have c:=λs v=>c σ s v;split at h
 .rename_i k n es hx;split at h
  .rename_i C;rw[c7]at h;cases h;exact bF.oI b hx (.inl (b5 C)) c a.1 a.2
  .split at h
   .rename_i F;rw[c7]at h;cases h;exact bF.oI b hx (.inr (b5 F)) c a.1 a.2
   grind
 .rename_i l k n es hx;split at h
  .rename_i H E e Dm hl;split at h
   .rename_i u f q;rw[c7,k8]at h;cases h;obtain⟨r,i,w⟩:e=n/\Dm=es/\_:=a;subst r;subst i;have z:=b5 u;subst z;have j:=b5 f;have A:=b5 q;subst A;subst j;exact bF.GC b hx (cU hl) c w
   grind
  grind
 .rename_i l g k n hx;split at h
  .rename_i H E e Dm hl;split at h
   .rename_i u f q;rw[c7,k8]at h;cases h;obtain⟨r,i,w⟩:g=e/\n=e/\_:=a;subst r;subst i;have z:=b5 u;subst z;have j:=b5 f;have A:=b5 q;subst A;subst j;exact bF.MB b hx (cU hl) c w
   grind
  grind
 grind
theorem MC(c:dj P T){d:D}(ho:o.op=.call {callee:=.builtin .len,args:=#[x],argTypes:=jN})(b:jN[0]?=aa t)(h:PH T t (η x)=aa d):bF P o η σ d σ:=by
 unfold PH at h;split at h
 .cases h
 rename_i i hi;split at h
 .rename_i E a;split at h
  .rename_i tt k n es hs;cases h;exact bF.SJ c ho b hi a (λs v=>pR hs σ s v)
  grind
 .grind [bF.PO]
 grind
theorem IU(l:dj P T){b c:av}{d:D}(ho:o.op=.convert b c x)(h:IP T b c (η x)=aa (d,obs))(a:ar obs):bF P o η σ d σ:=by
 unfold IP at h;split at h
 .cases h
 rename_i i hi;split at h
 .cases h
 rename_i i2 R0;split at h
 .rename_i k' hd;split at h
  .rename_i k j t;cases h;exact bF.MD l ho hi R0 hd t a
  grind
 .rename_i hd;split at h
  .grind [bF.ME]
  .split at h
   .rename_i E g;split at h
    .rename_i ie hE;split at h
     .rename_i f;split at h
      .rename_i tt k n es hs;split at h
       .rename_i m;have e:=b5 m;subst e;split at h
        .rename_i r q;cases h;exact bF.GK l ho hi R0 g hd hE f (λs v=>pR hs σ s v) q
        grind
       grind
      grind
     grind
    grind
   grind
 grind
theorem GL(e:dj P T){lo hi:Option aE}{d:D}(ho:o.op=.slice t x lo hi af)(h:DI T η t x lo hi=aa (d,obs))(a:ar obs):bF P o η σ d σ:=by
 unfold DI at h;split at h
 .cases h
 rename_i i b;split at h
 .cases h
 rename_i l f;split at h
 .cases h
 rename_i u c;split at h
 .grind [bF.IV]
 .grind [Nat.eq_of_beq_eq_true,bF.MF,pR]
 grind
theorem vP{xs:Array α}{x:α}(h:xs.toList=[x]):xs=#[x]:=Array.ext' h
theorem vQ{xs:Array α}{x y:α}(h:xs.toList=[x,y]):xs=#[x,y]:=Array.ext' h
theorem PQ(A:dj P T)(M:bR X CT){d:D}(h:UO T CT φ o=aa (d,obs))(g:ar obs)(r:∀σ s a,cx N σ s φ a->a9 o (yielded all.toArray a.tmps)=ab):OA X N all o φ σ d σ:=by
 unfold UO at h;split at h
 .grind [OA.mN,bF.move]
 .grind [OA.mN,bF.assign]
 .rename_i t x y ho;split at h
  .rename_i i hi;split at h
   .rename_i C;split at h
    .rename_i l k j u w;cases h;obtain⟨L,I⟩:0<=j/\j<(l.length:Int):=g;have:=bF.IW (σ:=σ) (m:=j.toNat) A ho hi C u w (by omega) (by omega);have e:iH l j=l[j.toNat]'(by omega):=by simp[iH,ah,bn (by omega:j.toNat<l.length)]
     grind[OA.mN]
    grind
   grind
  grind
 .rename_i t x y ho;split at h
  .rename_i i hi;split at h
   .rename_i E C;split at h
    .rename_i ie hE;split at h
     .rename_i tt k n es k2 j u w;split at h
      .rename_i H;cases h;obtain⟨L,I⟩:0<=j/\j<(n:Int):=g;have e:=b5 H;subst e;exact OA.mN r (bF.indexAddr (m:=j.toNat) A ho hi C hE (λs v=>pR u σ s v) w (by omega) (by omega))
      grind
     grind
    grind
   grind
  grind
 .grind [OA.mN,GL]
 .grind [OA.mN,IU]
 .rename_i c ho;obtain⟨K,args,jN⟩:=c;grind[vP,OA.mN,MC,OA.Bm]
 .rename_i c a b q;split at h
  .rename_i B;cases h;exact OA.mN r (bF.pick q B)
  .rename_i B;cases h;exact OA.mN r (bF.pick q B)
  grind
 .rename_i op t y z ty q;unfold OE at h;split at h
  .grind [OA.mN,bF.PR]
  .rename_i a b _ G F;split at h
   .split at h
    .rename_i _ _ a' b' _ _;cases h;exact OA.mN r (bF.SK q G F g.1 g.2)
    .grind [rS,OA.mN,bF.bits]
    grind
   .grind [rS,OA.mN,bF.bits]
   .grind [rS,OA.mN,bF.bits]
   .grind [rS,OA.mN,bF.bits]
   grind[OA.mN,bF.binOp]
  .rename_i cs es G F;split at h
   .grind [OA.mN,bF.structEq]
   grind
  grind
 .grind [OA.mN,bF.unOp]
 .grind [OA.mN,bF.extract,cU]
 .rename_i t y f q;split at h
  .rename_i k j J;split at h
   .rename_i l off u;cases h;exact OA.mN r (bF.rT A q u J)
   .grind [OA.mN,bF.tK]
   grind
  grind
 .grind [OA.mN,bF.field]
 .grind [OA.mN,bF.tM,bF.vR]
 .grind [OA.mN,bF.build]
 .grind [OA.mN,bF.buildSlice]
 .grind [OA.mN,bF.makeFunc]
 .grind [OA.mN,bF.makeInterface]
 grind
theorem PS(G:dj P T){d:D}(h:VM T φ o=aa (d,obs))(e:ar obs):bF P o (bO φ) σ d σ:=by
 unfold VM at h;split at h
 .rename_i t x y ho;split at h
  .rename_i i hi;split at h
   .rename_i E A;split at h
    .rename_i ie hE;split at h
     .rename_i l g k q m kk j r F;split at h
      .rename_i N;cases h;obtain⟨C,B⟩:0<=j/\j<(m:Int):=e;grind[Nat.eq_of_beq_eq_true,bF.VP]
      grind
     .rename_i b off n cap kk j r F;cases h;obtain⟨C,B⟩:0<=j/\j<(n:Int):=e;grind[bF.Bp]
     grind
    grind
   grind
  grind
 .rename_i t x f ho;split at h
  .rename_i k j J;split at h
   .rename_i l g R i q r;cases h;exact bF.PT G ho r J
   .rename_i b off r;cases h;exact bF.PU G ho r J
   grind
  grind
 .grind [bF.VQ]
 .rename_i t x lo hi ho;split at h
  .cases h
  rename_i i u;split at h
  .cases h
  rename_i O Q;split at h
  .cases h
  grind[Nat.eq_of_beq_eq_true,bF.sliceB]
 .rename_i t x y z ho;split at h
  .cases h
  rename_i i u;split at h
  .rename_i E A;split at h
   .cases h
   rename_i ie hE;split at h
   .rename_i tt k n es kj j M m r F I;cases h;obtain⟨C,B,H⟩:0<=j/\j<=m/\m<=(n:Int):=e;exact bF.slice3 G ho u A hE (λs v=>pR r σ s v) F I C B H
   grind
  grind
 .rename_i t x w y z ho;split at h
  .cases h
  rename_i i u;split at h
  .rename_i E A;split at h
   .cases h
   rename_i ie hE;split at h
   .rename_i l g k q n S i kj j M m r U F I;cases h;obtain⟨C,B,H,V⟩:0<=i/\i<=j/\j<=m/\m<=(n:Int):=e;grind[bF.slice3B]
   grind
  grind
 .rename_i c ho;obtain⟨L,args,jN⟩:=c;simp only at h;split at h
  .split at h
   .rename_i x t r K;split at h
    .rename_i i hi;split at h
     .rename_i E A;split at h
      .grind [vP,bF.VR]
      .rename_i a n cap ZI;cases h;have:=vP r;subst this;exact bF.VS G ho K hi A ZI e
      grind
     grind
    grind
   grind
  grind
 grind
theorem GM(c:dj P T)(ho:o.op=.load t x){d:D}(h:zA T φ σ t x=aa (d,obs))(a:ar obs):bF P o (bO φ) σ d σ:=by
 unfold zA at h;split at h
 .rename_i q hi;split at h
  .rename_i l g k i f j;split at h
   .rename_i E k' n es hB;split at h
    .rename_i b;have e:=b5 b;subst e;split at h
     .rename_i e m;cases h;exact bF.SL c ho j a.1 (cU hB) hi m a.2
     grind
    grind
   grind
  grind
 grind
theorem DJ(c:dj P T)(ho:o.op=.store t x y){d:D}(h:zF T φ σ t x y=aa (d,σ',obs))(a:ar obs):bF P o (bO φ) σ d σ':=by
 unfold zF at h;split at h
 .rename_i s hi;split at h
  .rename_i l g k i f j;split at h
   .rename_i E k' n es hB;split at h
    .rename_i r;have e:=b5 r;subst e;split at h
     .rename_i new hy;split at h
      .rename_i q;split at h
       .rename_i cc Oo;split at h
        .rename_i m;rw[c7,k8]at h;cases h;have b:f=0/\cc.length=k':=by
          cases f with
          |zero=>exact⟨rfl,b5 m⟩
          |succ f=>simp[IQ]at m
         obtain⟨rfl,b⟩:=b;exact bF.IX c ho j a.1 (cU hB) hi hy (b5 q) Oo (λu=>rU (by grind)) a.2
        .split at h
         .rename_i ci VT;rw[c7,k8]at h;cases h;exact bF.IX c ho j a.1 (cU hB) hi hy (b5 q) Oo (λ_=>VT) a.2
         grind
       grind
      grind
     grind
    grind
   grind
  grind
 grind
theorem PV(f:dj P T)(e:bR X CT){d:D}(h:Mr T CT φ σ o=aa (d,obs))(b:ar obs)(i:∀σ s a,cx N σ s φ a->a9 o (yielded all.toArray a.tmps)=ab):OA X N all o φ σ d σ:=by
 unfold Mr at h;split at h
 .rename_i t y j;split at h
  .rename_i g c;cases h;unfold II at c;split at c
   .grind [OA.mN,bF.FD,cU,bF.IY]
   grind
  grind[OA.mN,GM]
 grind[PQ,OA.mN,PS]
theorem PW(g:dj P T)(f:bR X CT){d:D}(h:VN T CT φ σ o=aa (d,σ',obs))(b:ar obs)(i:∀σ s a,cx N σ s φ a->a9 o (yielded all.toArray a.tmps)=ab):OA X N all o φ σ d σ':=by
 unfold VN at h;split at h
 .grind [OA.mN,DK]
 .grind [OA.mN,DK]
 .grind [OA.mN,DK,DJ]
 .rename_i c ho;obtain⟨e,args,jN⟩:=c;grind[vQ,OA.mN,MA,OA.call]
 grind
def MG{ie:TI}{d:D}(b:ly P o x y E ie)(h:PN E ie η σ x y=aa (d,σ',obs))(a:ar obs):bF P o η σ d σ':=by
 unfold PN at h;split at h
 .rename_i l g k i l' g' k' j m t e;split at h
  .cases h
  rename_i c;have el:=b5 c;subst el;split at h
  .rename_i C B n es hl;split at h
   .rename_i r q2 q3 q4;have w:=b5 r;have z:=b5 q2;have s:=b5 q3;have v:=b5 q4;rw[c7]at h;cases h;obtain⟨f,A,q,u⟩:=a;subst f A w z s v;have:=bF.Il (σ:=σ) b t e (cU hl) q u;grind[k8]
   grind
  grind
 grind
theorem MH(e:dj P T){w:Bool}{f:av}{d:D}(ho:o.op=.call {callee:=.builtin .append,args:=#[x,y],argTypes:=#[t,f]})(h:appW w T η σ x y t f=aa (d,σ',obs))(a:ar obs):bF P o η σ d σ':=by
 unfold appW at h;split at h
 .split at h
  .cases h
  rename_i E2 ie m es' hY;obtain⟨b,tx,c⟩:=zH e ho hY;split at h
  .rename_i k n es hx;split at h
   .rename_i i;have j:=b5 i;subst j;rw[c7]at h;cases h;exact bF.Gz b hx (λs v=>c _ s v) a
   grind
  grind
 .split at h
  .cases h
  rename_i g;exact MG (FC e ho g) h a
theorem PX(g:dj P T)(f:bR X CT){d:D}(h:SB ds T CT φ σ o=aa (d,σ',obs))(b:ar obs)(i:∀σ s a,cx N σ s φ a->a9 o (yielded all.toArray a.tmps)=ab):OA X N all o φ σ d σ':=by
 have key:∀w,UR w T φ σ o=aa (d,σ',obs)->OA X N all o φ σ d σ':=by
  intro w h;unfold UR at h;split at h
  .rename_i c ho;obtain⟨e,args,jN⟩:=c;grind[vQ,OA.mN,MH]
  grind
 unfold SB at h;grind[PW]
def eZ(w:dj P T)(v:bR X CT){d:D}{σ':Option (List bm)}(h:vH T CT ds all φ σ o=aa (d,σ',obs))(g:ar obs):OA X N all o φ σ d (σ'.getD σ):=by
 have go:(∀σ s a,cx N σ s φ a->a9 o (yielded all.toArray a.tmps)=ab)->(match Mr T CT φ σ o with
  |some (x,obs)=>match IM ds o.dst x obs with
   |some (y,l)=>nS y λy=>aa (y,af,l)
   |none=>af
  |none=>match VB ds o.dst with
   |true=>match VO T φ o with
    |some (x,obs)=>nS x λx=>aa (x,af,obs)
    |none=>af
   |false=>match SB ds T CT φ σ o with
    |some (x,σ',obs)=>nS x λx=>aa (x,aa σ',obs)
    |none=>af)=aa (d,σ',obs)->OA X N all o φ σ d (σ'.getD σ):=by
  intro z h;split at h
  .rename_i x i B;split at h
   .rename_i y n u;rw[mW]at h;cases h;obtain⟨rfl,A⟩:=My u g;grind[PV]
   grind
  .split at h
   .split at h
    .rename_i x i q;rw[mW]at h;cases h;unfold VO at q;split at q
     .rename_i c ho;obtain⟨t,args,jN⟩:=c;grind[vQ,Mz]
     grind
    grind
   grind[mW,PX]
 unfold vH at h;simp only at h;split at h
 .grind [dD]
 .rename_i j b k;split at h
  .rename_i m e;have r:∀σ s a,cx N σ s φ a->a9 o (yielded all.toArray a.tmps)=(aa m==aa b):=λσ s a f=>by simp only[a9,k,pT e f]
   split at h
   .grind
   .grind
   .cases h;refine OA.pass (λσ s a f=>(r σ s a f).trans ?_);cases b<;>cases m<;>simp_all
  .rename_i e;cases h;exact OA.pass (λσ s a f=>by simp only[a9,k,pT e f];rfl)
  grind
end
variable {CT:List (Nat×dv)}{K:List It}{Qf:Post}{T:List (Nat×TI)}{ie:TI}
def Ia(φ:Fr)(o:aD):Bool:=match o.op with
 |.load _ x=>match bO φ x with
  |.e (.one (.c (.rp _)))=>ae
  |_=>ab
 |_=>ae
def IH{σ2:List bm}(h:Ia φ o=ae):Mr T CT φ σ o=Mr T CT φ σ2 o:=by
 unfold Mr;split
 .rename_i t x ho;simp only[Ia,ho]at h;split at h
  .rename_i cs hx;simp only[II,zA,hx]
  grind
 .rfl
def IJ{d:D}(h:Ia φ o=ae)(a:vH T CT ds all φ σ o=aa (d,af,obs))(σ2:List bm):
  vH T CT ds all φ σ2 o=aa (d,af,obs):=by
 unfold vH at a⊢;simp only at a⊢;rw[IH (σ2:=σ) h];cases c:Mr T CT φ σ o with
 |some r=>grind
 |none =>
  simp only[c]at a⊢;cases b:VB ds o.dst with
  |true=>grind
  |false =>
   simp only[b]at a⊢;have key:∀{y:Option (D×Option (List bm)×List Prop)},(match SB ds T CT φ σ o with|some (x,σ',obs)=>nS x λx=>aa (x,aa σ',obs)|none=>af)=y->y≠aa (d,af,obs):=by grind[mW]
   split at a
   .grind
   grind
def oQ(t:Nat):List aD->Bool
 |[]=>ae
 |o::r=>match o.dst with
  |some d=>match az d t with|true=>ab|false=>oQ t r
  |none=>oQ t r
theorem rN{t:Nat}:∀{l:List aD}{i:Nat}{o:aD},l[i]?=aa o->o.dst=aa t->oQ t l=ab
 |[],_,_,h,_=>by grind
 |p::r,0,o,h,a=>by simp at h;subst h;simp[oQ,a,jr]
 |p::r,i+1,o,h,a=>by have:=rN (l:=r) (by simpa using h) a;simp only[oQ];grind
theorem pP{t:Nat}:∀{l:List aD},oQ t l=ab->∃(i:Nat)(o:aD),l[i]?=aa o/\o.dst=aa t
 |[],h=>by cases h
 |p::r,h=>by
  simp only[oQ]at h;split at h
  .rename_i d e;split at h
   .rename_i c;exact⟨0,p,rfl,by grind[Nat.eq_of_beq_eq_true]⟩
   .obtain⟨i,o,b,a⟩:=pP h;exact⟨i+1,o,by grind,a⟩
  .obtain⟨i,o,b,a⟩:=pP h;exact⟨i+1,o,by grind,a⟩
def oh:List aD->Bool
 |[]=>ab
 |o::r=>match o.dst with
  |some d=>match oQ d r with|true=>ae|false=>oh r
  |none=>oh r
theorem sM{t:Nat}:∀{l:List aD}{i j:Nat}{o p:aD},oh l=ab->l[i]?=aa o->l[j]?=aa p->o.dst=aa t->p.dst=aa t->i=j
 |[],_,_,_,_,_,h,_,_,_=>by grind
 |q::r,0,0,_,_,_,_,_,_,_=>rfl
 |q::r,0,j+1,o,p,ho,b,a,d1,d2=>by simp at b;subst b;simp only[oh,d1]at ho;grind[rN]
 |q::r,i+1,0,o,p,ho,b,a,d1,d2=>by simp at a;subst a;simp only[oh,d2]at ho;grind[rN]
 |q::r,i+1,j+1,o,p,ho,b,a,d1,d2=>by
  have:oh r=ab:=by simp only[oh]at ho;grind
  have d:r[i]?=aa o:=by grind
  have c:r[j]?=aa p:=by grind
  have e:=sM this d c d1 d2;omega
def ur(all:List aD):Fr->Fr
 |[]=>[]
 |(t,d)::r=>match oQ t all with|true=>ur all r|false=>(t,d)::ur all r
def lh{all:List aD}{t:Nat}:∀{φ:Fr},look (ur all φ) t=if oQ t all=ab then .any else look φ t
 |[]=>by simp[ur,look]
 |(u,d)::r=>by
  simp only[ur];by_cases b:az u t=ab
  .have e:=b5 b;subst e;cases c:oQ u all with
   |true=>simp only;rw[lh];grind
   |false=>simp[look]
  .have a:az u t=ae:=by grind
   cases c:oQ u all with
   |true=>simp only;rw[lh];simp[look,a]
   |false=>simp only[look,a,cond];rw[lh]
def b7:List Edge->List Nat
 |[]=>[]
 |e::r=>match e.ground with
  |.textOnly _=>b7 r
  |.gcOnly _=>b7 r
  |_=>e.on::b7 r
theorem eH{j:Nat}:∀{l:List Edge},j∈b7 l↔∃e∈l,dh e=ab/\e.on=j
 |[]=>by simp[b7]
 |e::r=>by
  have c:=eH (j:=j) (l:=r);have yes:b7 (e::r)=e.on::b7 r->dh e=ab->(j∈b7 (e::r)↔∃a∈e::r,dh a=ab/\a.on=j):=by grind
  have no:b7 (e::r)=b7 r->dh e=ae->(j∈b7 (e::r)↔∃a∈e::r,dh a=ab/\a.on=j):=by grind
  cases b:e.ground with
  |textOnly w=>exact no (by simp only[b7,b]) (by unfold dh Region.binds;grind)
  |gcOnly w=>exact no (by simp only[b7,b]) (by unfold dh Region.binds;grind)
  |_=>exact yes (by simp only[b7,b]) (by unfold dh Region.binds;rw[b])
def vI(i t:Nat):List aD->Bool
 |[]=>ae
 |o::r=>match o.dst with
  |some d=>match az d t with
   |true=>match ix i (b7 o.after.toList)with
    |true=>vI i t r
    |false=>ab
   |false=>vI i t r
  |none=>vI i t r
def vJ{i t:Nat}:∀{l:List aD},vI i t l=ae->∀(j:Nat)(o:aD),l[j]?=aa o->o.dst=aa t->ix i (b7 o.after.toList)=ab
 |[],_,j,o,h,_=>by grind
 |p::r,h,0,o,a,b=>by simp at a;subst a;simp only[vI,b,jr]at h;grind
 |p::r,h,j+1,o,a,b=>by
  have:vI i t r=ae:=by simp only[vI]at h;grind
  exact vJ this j o (by grind) b
def oS(all:List aD):Fr->List (Nat×D×Bool)
 |[]=>[]
 |(t,d)::r=>match oQ t all with
  |true=>(t,d,ab)::oS all r
  |false=>(t,d,ae)::oS all r
def kB(i:Nat)(all:List aD):List (Nat×D×Bool)->Fr
 |[]=>[]
 |(t,d,b)::r=>match b with
  |false=>(t,d)::kB i all r
  |true=>match vI i t all with
   |true=>kB i all r
   |false=>(t,d)::kB i all r
def yc{i:Nat}{all:List aD}{t:Nat}:∀{φ:Fr},look (kB i all (oS all φ)) t=if oQ t all=ab/\vI i t all=ab then .any else look φ t
 |[]=>by simp[oS,kB,look]
 |(u,d)::r=>by
  have e:=yc (i:=i) (all:=all) (t:=t) (φ:=r);have keep:look ((u,d)::kB i all (oS all r)) t=if az u t=ab then d else look (kB i all (oS all r)) t:=by simp only[look];cases az u t<;>rfl
  have b:look ((u,d)::r) t=if az u t=ab then d else look r t:=by simp only[look];cases az u t<;>rfl
  cases a:oQ u all with
  |false =>
   simp only[oS,a,kB];grind[Nat.eq_of_beq_eq_true]
  |true =>
   cases c:vI i u all with
   |true =>
    simp only[oS,a,kB,c];grind[Nat.eq_of_beq_eq_true]
   |false =>
    simp only[oS,a,kB,c];grind[Nat.eq_of_beq_eq_true]
def iZ(m:Nat->Bool):Nat->List (Option Nat×D)->Fr->Fr
 |_,[],φ=>φ
 |i,(d,x)::r,φ=>match m i with
  |true=>match d with
   |some t=>(t,x)::iZ m (i+1) r φ
   |none=>iZ m (i+1) r φ
  |false=>iZ m (i+1) r φ
def mX{m:Nat->Bool}{φ:Fr}{t:Nat}:∀{l:List (Option Nat×D)}{i:Nat},(∃j x,l[j]?=aa (aa t,x)/\m (i+j)=ab/\look (iZ m i l φ) t=x)∨look (iZ m i l φ) t=look φ t
 |[],i=>.inr rfl
 |(d,x)::r,i=>by
  have k:=mX (m:=m) (φ:=φ) (t:=t) (l:=r) (i:=i+1);have step:look (iZ m i ((d,x)::r) φ) t=look (iZ m (i+1) r φ) t->((∃j b,((d,x)::r)[j]?=aa (aa t,b)/\m (i+j)=ab/\look (iZ m i ((d,x)::r) φ) t=b)∨look (iZ m i ((d,x)::r) φ) t=look φ t):=by
   intro e;rw[e];rcases k with⟨j,b,o,n,f⟩|h
   .exact .inl ⟨j+1,b,by grind,by grind,f⟩
   grind
  cases a:m i with
  |false=>exact step (by simp[iZ,a])
  |true =>
   cases d with
   |none=>exact step (by simp[iZ,a])
   |some u =>
    by_cases g:az u t=ab
    .have e:=b5 g;subst e;exact .inl ⟨0,x,rfl,by grind,by simp[iZ,a,look]⟩
    .have c:az u t=ae:=by grind
     exact step (by simp[iZ,a,look,c])
structure Dh where
 i:Nat
 pre:List (Option Nat×D)
 σ:List bm
 cls:List (List Bool)
 zB:List Bool
 Ms:List Bool
 obs:List Prop
def RX(i:Nat):List Nat->Bool
 |[]=>ab
 |k::r=>match Nat.blt k i with|true=>RX i r|false=>ae
def DF{i:Nat}:∀{l:List Nat},RX i l=ab->∀k∈l,k<i
 |[],_,k,h=>by grind
 |x::r,h,k,a=>by
  simp only[RX]at h;cases b:Nat.blt x i with
  |false=>grind
  |true =>
   simp only[b]at h;rcases eY.1 a with rfl|a
   .exact ez b
   .exact DF h k a
def bit:List Bool->Nat->Bool
 |[],_=>ae
 |b::_,0=>b
 |_::r,n+1=>bit r n
def xI:List Bool->List Bool->List Bool
 |[],b=>b
 |true::a,[]=>ab::a
 |false::a,[]=>ae::a
 |true::a,_::b=>ab::xI a b
 |false::a,ab::b=>ab::xI a b
 |false::a,ae::b=>ae::xI a b
def md:∀{a b:List Bool}{j:Nat},bit (xI a b) j=(bit a j||bit b j)
 |[],b,j=>by simp[xI,bit]
 |true::a,[],j=>by simp[xI,bit]
 |false::a,[],j=>by simp[xI,bit]
 |true::a,c::b,0=>by simp[xI,bit]
 |true::a,c::b,j+1=>by simp only[xI,bit];exact md
 |false::a,ab::b,0=>by simp[xI,bit]
 |false::a,ab::b,j+1=>by simp only[xI,bit];exact md
 |false::a,ae::b,0=>by simp[xI,bit]
 |false::a,ae::b,j+1=>by simp only[xI,bit];exact md
def sO:Nat->List Bool
 |0=>[ab]
 |n+1=>ae::sO n
theorem rO:∀{n j:Nat},bit (sO n) j=decide (n=j)
 |0,0=>rfl
 |0,j+1=>by simp[sO,bit]
 |n+1,0=>by simp[sO,bit]
 |n+1,j+1=>by simp only[sO,bit,rO];simp
def Fw(a:List (List Bool)):List Nat->List Bool
 |[]=>[]
 |e::r=>match eB e a with
  |some c=>xI (xI c (sO e)) (Fw a r)
  |none=>xI (sO e) (Fw a r)
theorem zC{b:List (List Bool)}{j:Nat}:∀{l:List Nat},bit (Fw b l) j=ab->∃e∈l,e=j∨∃c,b[e]?=aa c/\bit c j=ab
 |[],h=>by simp[Fw,bit]at h
 |e::r,h=>by
  simp only[Fw,fb]at h;have two:∀{a:Nat},bit (sO e) a=ab->e=a:=by grind[rO]
  have rest:bit (Fw b r) j=ab->∃d∈e::r,d=j∨∃c,b[d]?=aa c/\bit c j=ab:=by intro h;obtain⟨d,i,f⟩:=zC h;grind
  split at h
  .rename_i c g;rw[md,md,mD,mD]at h;grind
  .rw[md,mD]at h;grind
def sQ:List Bool->List Bool->Bool
 |[],_=>ab
 |true::a,ab::b=>sQ a b
 |true::_,_=>ae
 |false::a,_::b=>sQ a b
 |false::a,[]=>sQ a []
theorem pQ:∀{a b:List Bool}{j:Nat},sQ a b=ab->bit a j=ab->bit b j=ab
 |[],b,j,_,d=>by simp[bit]at d
 |true::a,ab::b,0,_,_=>rfl
 |true::a,ab::b,j+1,h,d=>by simp only[bit]at d⊢;exact pQ (by simpa[sQ]using h) d
 |true::a,ae::b,j,h,_=>by simp[sQ]at h
 |true::a,[],j,h,_=>by simp[sQ]at h
 |false::a,c::b,0,_,d=>by simp[bit]at d
 |false::a,c::b,j+1,h,d=>by simp only[bit]at d⊢;exact pQ (by simpa[sQ]using h) d
 |false::a,[],0,_,d=>by simp[bit]at d
 |false::a,[],j+1,h,d=>by simp only[bit]at d;have:=pQ (j:=j) (by simpa[sQ]using h) d;simp[bit]at this
def rP(T:List (Nat×TI))(CT:List (Nat×dv))(N:Nat)(ds:List (Nat×Bool))(all:List aD)(φm:List (Nat×D×Bool))(st:Dh)(o:aD):Option Dh :=
 match gm N o.dst with
 |false=>af
 |true =>
  dq (b7 o.after.toList) λes =>
  match RX st.i es with
  |false=>af
  |true=>match vH T CT ds all (iZ (λj=>ix j es) 0 st.pre (kB st.i all φm)) st.σ o with
   |none=>af
   |some (x,σ',obs) =>
    dq (Fw st.cls es) λcl =>
    match σ',Ia (iZ (λj=>ix j es) 0 st.pre (kB st.i all φm)) o with
    |none,ae=>dq (st.pre++[(o.dst,x)]) λpre=>dq (st.cls++[cl]) λcls=>dq (jY obs st.obs) λobs=>aa ⟨st.i+1,pre,st.σ,cls,st.zB,st.Ms,obs⟩
    |none,ab=>match sQ st.zB cl with
     |true=>dq (st.pre++[(o.dst,x)]) λpre=>dq (st.cls++[cl]) λcls=>dq (jY obs st.obs) λobs=>dq (xI st.Ms (sO st.i)) λa=>aa ⟨st.i+1,pre,st.σ,cls,st.zB,a,obs⟩
     |false=>af
    |some σ',_=>match sQ st.Ms cl with
     |true=>dq (st.pre++[(o.dst,x)]) λpre=>dq (st.cls++[cl]) λcls=>dq (jY obs st.obs) λobs=>dq (xI st.Ms (sO st.i)) λa=>dq (xI st.zB (sO st.i)) λb=>aa ⟨st.i+1,pre,σ',cls,b,a,obs⟩
     |false=>af
def Mt(T:List (Nat×TI))(CT:List (Nat×dv))(N:Nat)(ds:List (Nat×Bool))(all:List aD)(φm:List (Nat×D×Bool)):List aD->Dh->Option Dh
 |[],st=>aa st
 |o::r,st=>match rP T CT N ds all φm st o with
  |some qk=>Mt T CT N ds all φm r qk
  |none=>af
def Fx(T:List (Nat×TI))(CT:List (Nat×dv))(N:Nat)(ds:List (Nat×Bool))(all:List aD)(φ:Fr)(σ:List bm):Option (Fr×List bm×List Prop) :=
 match oh all with
 |false=>af
 |true=>dq (oS all φ) λφm=>match Mt T CT N ds all φm all ⟨0,[],σ,[],[],[],[]⟩with
  |some st=>dq (iZ (λ_=>ab) 0 st.pre (ur all φ)) λφ'=>aa (φ',st.σ,st.obs)
  |none=>af
def l3:aD:=⟨af,.move (.tmp 0),0,"",#[],af⟩
section
variable (T:List (Nat×TI))(CT:List (Nat×dv))(N:Nat)(ds:List (Nat×Bool))(all:List aD)(φm:List (Nat×D×Bool))
def xJ(st:Dh):Nat->Dh
 |0=>st
 |i+1=>(rP T CT N ds all φm (xJ st i) (all.getD i l3)).getD (xJ st i)
def OB(st:Dh)(i:Nat):Fr:=iZ (λj=>ix j (b7 (all.getD i l3).after.toList)) 0 (xJ T CT N ds all φm st i).pre (kB (xJ T CT N ds all φm st i).i all φm)
def Fy(st:Dh)(i:Nat):Option (D×Option (List bm)×List Prop):=vH T CT ds all (OB T CT N ds all φm st i) (xJ T CT N ds all φm st i).σ (all.getD i l3)
def xD(st:Dh)(i:Nat):D:=match Fy T CT N ds all φm st i with|some (x,_,_)=>x|none=>.any
def ow(st:Dh)(i:Nat):Bool:=match Fy T CT N ds all φm st i with|some (_,aa _,_)=>ab|_=>ae
def tJ(st:Dh)(i:Nat):Bool:=!Ia (OB T CT N ds all φm st i) (all.getD i l3)&&!ow T CT N ds all φm st i
def OC(st:Dh)(i:Nat):List Bool:=Fw (xJ T CT N ds all φm st i).cls (b7 (all.getD i l3).after.toList)
end
section
variable {T:List (Nat×TI)}{CT:List (Nat×dv)}{N:Nat}{ds:List (Nat×Bool)}{all:List aD}{φm:List (Nat×D×Bool)}
structure IK(T:List (Nat×TI))(CT:List (Nat×dv))(N:Nat)(ds:List (Nat×Bool))(all:List aD)(φm:List (Nat×D×Bool))(st qk:Dh)(o:aD)(x:D)(σ':Option (List bm))(obs:List Prop):Prop where
 dst:gm N o.dst=ab
 lt:RX st.i (b7 o.after.toList)=ab
 op:vH T CT ds all (iZ (λj=>ix j (b7 o.after.toList)) 0 st.pre (kB st.i all φm)) st.σ o=aa (x,σ',obs)
 i:qk.i=st.i+1
 pre:qk.pre=st.pre++[(o.dst,x)]
 cls:qk.cls=st.cls++[Fw st.cls (b7 o.after.toList)]
 σ:qk.σ=σ'.getD st.σ
 obs:qk.obs=jY obs st.obs
 Zw:qk.zB=if σ'.isSome=ab then xI st.zB (sO st.i)else st.zB
 nf:qk.Ms=if(Ia (iZ (λj=>ix j (b7 o.after.toList)) 0 st.pre (kB st.i all φm)) o||σ'.isSome)=ab then xI st.Ms (sO st.i)else st.Ms
 load:Ia (iZ (λj=>ix j (b7 o.after.toList)) 0 st.pre (kB st.i all φm)) o=ab->σ'.isSome=ae->sQ st.zB (Fw st.cls (b7 o.after.toList))=ab
 jk:σ'.isSome=ab->sQ st.Ms (Fw st.cls (b7 o.after.toList))=ab
def Bj{st qk:Dh}(h:rP T CT N ds all φm st o=aa qk):∃x σ' obs,IK T CT N ds all φm st qk o x σ' obs:=by
 unfold rP at h;split at h
 .cases h
 rename_i c;simp only[c7]at h;split at h
 .cases h
 rename_i a;split at h
 .cases h
 rename_i x σ' obs iu;refine⟨x,σ',obs,?_⟩;cases σ' with
 |none =>
  cases d:Ia (iZ (λj=>ix j (b7 o.after.toList)) 0 st.pre (kB st.i all φm)) o with
  |false =>
   simp only[d,c7]at h;cases h;exact⟨c,a,iu,rfl,rfl,rfl,rfl,rfl,by simp,by grind,by grind,by simp⟩
  |true =>
   simp only[d,c7]at h;split at h
   .rename_i b;cases h;exact⟨c,a,iu,rfl,rfl,rfl,rfl,rfl,by simp,by grind,λ_ _=>b,by simp⟩
   grind
 |some σ' =>
  simp only[c7]at h;split at h
  .rename_i b;cases h;exact⟨c,a,iu,rfl,rfl,rfl,rfl,rfl,by simp,by simp,by simp,λ_=>b⟩
  grind
def Fz{st sf:Dh}:∀{rest:List aD}{k:Nat},(∀i,rest[i]?=all[k+i]?)->Mt T CT N ds all φm rest (xJ T CT N ds all φm st k)=aa sf ->
  (∀i o,rest[i]?=aa o->rP T CT N ds all φm (xJ T CT N ds all φm st (k+i)) o=aa (xJ T CT N ds all φm st (k+i+1)))/\xJ T CT N ds all φm st (k+rest.length)=sf
 |[],k,_,h=>by cases h;grind
 |p::r,k,c,h=>by
  simp only[Mt]at h;have d:all[k]?=aa p:=by have:=c 0;grind
  split at h
  .rename_i a b;have e:xJ T CT N ds all φm st (k+1)=a:=by simp only[xJ,ah,d,gx,b]
   rw[<-e]at h;obtain⟨g,f⟩:=Fz (rest:=r) (k:=k+1) (λi=>by have:=c (i+1);grind) h;grind
  grind
def PD:∀{l:List Nat},ix j l=ab->j∈l:=by
 intro l;induction l with
 |nil=>intro h;cases h
 |cons a r b =>
  intro h;simp only[ix]at h;grind[Nat.eq_of_beq_eq_true]
def IL{X:Cx P}(hf:P.follows Departure.mixedOrders=ab)(hT:dj P T)(hC:bR X CT){φ':Fr}(h:Fx T CT N ds ops.toList φ σ=aa (φ',σ',obs))(Zx:ar obs){Q:Post}(hQ:Q .normal φ' σ')(id:Nat):
  AW X N (.region id ops ab) Q φ σ:=by
 unfold Fx at h;split at h
 .cases h
 rename_i SC;rw[c7]at h;split at h
 case h_2=>cases h
 rename_i sf vK;rw[c7]at h;cases h;generalize PE:ops.toList=all at *;generalize VC:oS all φ=φm at *;have M:∀i:Nat,ops[i]?=all[i]?:=λi=>by grind
 have Iw:ops.size=all.length:=by grind
 let g:Dh:=⟨0,[],σ,[],[],[],[]⟩
 obtain⟨C,G⟩:=Fz (T:=T) (CT:=CT) (N:=N) (ds:=ds) (φm:=φm) (st:=g) (rest:=all) (k:=0) (λi=>by simp) vK;simp only[bz]at C G;let F:=xJ T CT N ds all φm g;have q:∀i o,all[i]?=aa o->all.getD i l3=o:=λi o h=>by grind
 have XG:∀i o,all[i]?=aa o->OB T CT N ds all φm g i=(iZ (λj=>ix j (b7 (o).after.toList)) 0 (F i).pre (kB (F i).i all φm)):=λi o h=>by unfold OB;grind
 have facts:∀i o,all[i]?=aa o->∃H,IK T CT N ds all φm (F i) (F (i+1)) o (xD T CT N ds all φm g i) (if ow T CT N ds all φm g i=ab then aa (F (i+1)).σ else af) H:=by
  intro i o ho;obtain⟨x,σ1,H,n⟩:=Bj (C i o ho);have y:=n.op;have hR:Fy T CT N ds all φm g i=aa (x,σ1,H):=by unfold Fy OB;grind
  have hx:xD T CT N ds all φm g i=x:=by unfold xD;rw[hR]
  cases σ1 with
  |none =>
   have u:ow T CT N ds all φm g i=ae:=by unfold ow;rw[hR]
   grind
  |some σ2 =>
   have u:ow T CT N ds all φm g i=ab:=by unfold ow;rw[hR]
   have Zy:(F (i+1)).σ=σ2:=n.σ;grind
 have J:∀i,i<=all.length->(F i).i=i:=by
  intro i;induction i with
  |zero=>intro _;rfl
  |succ i B =>
   intro hi;obtain⟨_,n⟩:=facts i _ (bn (by omega));rw[n.i,B (by omega)]
 have Y:∀i,i<=all.length->∀j,(F i).pre[j]?=if j<i then(all[j]?).map (λo=>(o.dst,xD T CT N ds all φm g j))else af:=by
  intro i;induction i with
  |zero=>intro _ j;simp[F,xJ,g]
  |succ i B =>
   intro hi j;obtain⟨_,n⟩:=facts i _ (bn (by omega));have hlen:(F i).pre.length=i:=by
    apply Nat.le_antisymm
    .grind
    grind
   rw[n.pre];grind
 have VD:∀i,i<=all.length->∀j,(F i).cls[j]?=if j<i then aa (OC T CT N ds all φm g j)else af:=by
  intro i;induction i with
  |zero=>intro _ j;simp[F,xJ,g]
  |succ i B =>
   intro hi j;obtain⟨_,n⟩:=facts i _ (bn (by omega));have hlen:(F i).cls.length=i:=by
    apply Nat.le_antisymm
    .apply Nat.le_of_not_lt;intro r;have:=B (by omega) i;grind
    grind
   rw[n.cls];by_cases VE:j<i
   .grind
   .rw[fR (by omega)];by_cases e:j=i
    .subst e;rw[bc (by omega),hlen,Nat.sub_self];simp only[iF,OC,q j _ (bn (by omega:j<all.length))];rfl
    grind
 have Zz:∀i,i<=all.length->∀j,bit (F i).zB j=(decide (j<i)&&ow T CT N ds all φm g j):=by
  intro i;induction i with
  |zero=>intro _ j;simp[F,xJ,g,bit]
  |succ i B =>
   intro hi j;obtain⟨_,n⟩:=facts i _ (bn (by omega));rw[n.Zw];cases u:ow T CT N ds all φm g i with
   |false =>
    grind
   |true =>
    simp only[bY,Option.isSome_some];rw[md,B (by omega) j,rO,J i (by omega)];by_cases e:j=i
    .grind
    grind
 have ZA:∀i,i<=all.length->∀j,bit (F i).Ms j=(decide (j<i)&&!tJ T CT N ds all φm g j):=by
  intro i;induction i with
  |zero=>intro _ j;simp[F,xJ,g,bit]
  |succ i B =>
   intro hi j;obtain⟨_,n⟩:=facts i _ (bn (by omega));have SD:(if ow T CT N ds all φm g i=ab then aa (F (i+1)).σ else af).isSome=ow T CT N ds all φm g i:=by cases ow T CT N ds all φm g i<;>rfl
   have XH:tJ T CT N ds all φm g i=!(Ia (iZ (λj=>ix j (b7 (all[i]'(by omega)).after.toList)) 0 (F i).pre (kB (F i).i all φm)) (all[i]'(by omega))||ow T CT N ds all φm g i):=by unfold tJ;rw[XG i _ (bn (by omega)),q i _ (bn (by omega))];simp
   rw[n.nf,SD];cases u:(Ia (iZ (λj=>ix j (b7 (all[i]'(by omega)).after.toList)) 0 (F i).pre (kB (F i).i all φm)) (all[i]'(by omega))||ow T CT N ds all φm g i)with
   |false =>
    grind
   |true =>
    simp only[bY];rw[md,B (by omega) j,rO,J i (by omega)];by_cases e:j=i
    .grind
    grind
 have Z:∀i,i<=all.length->ar (F i).obs:=by
  have back:∀k i,i+k=all.length->ar (F i).obs:=by
   intro k;induction k with
   |zero =>
    grind
   |succ k B =>
    intro i hi;obtain⟨_,n⟩:=facts i _ (bn (by omega));have:=B (i+1) (by omega);rw[n.obs,ar.cat]at this;exact this.2
  intro i hi;exact back (all.length-i) i (by omega)
 have oaI:∀i o,all[i]?=aa o->OA X N all o (OB T CT N ds all φm g i) (F i).σ (xD T CT N ds all φm g i) (F (i+1)).σ:=by intro i o ho;have hi:i<all.length:=(cf.1 ho).1;obtain⟨_,n⟩:=facts i o ho;have RY:=Z (i+1) (by omega);rw[n.obs,ar.cat]at RY;have:=eZ (P:=P) (N:=N) hT hC n.op RY.1;rw[n.σ];grind
 let idx:Nat->Option Nat:=λt=>(bg all.length).find? (λi=>decide ((all.getD i l3).dst=aa t));have E:∀t j,idx t=aa j->∃o,all[j]?=aa o/\o.dst=aa t:=by grind
 have I:∀i o d,all[i]?=aa o->o.dst=aa d->idx d=aa i:=by
  intro i o d ho hd;have hi:i<all.length:=(cf.1 ho).1;cases hx:idx d with
  |none =>
   grind
  |some j =>
   grind[sM]
 have V:∀t,oQ t all=ab↔∃j,idx t=aa j:=by grind[pP,rN]
 have S:∀i o,all[i]?=aa o->∀e∈o.after,dh e=ab->e.on<i:=by intro i o ho e u R;have hi:i<all.length:=(cf.1 ho).1;obtain⟨_,n⟩:=facts i o ho;have:=DF n.lt e.on (eH.2 ⟨e,by grind,R,rfl⟩);grind
 have XI:=S;have hd:vF X N ops φ (λi=>(F i).σ) (xD T CT N ds all φm g) (OB T CT N ds all φm g) (tJ T CT N ds all φm g) (λi=>decide (i<all.length)&&ow T CT N ds all φm g i) (λi j=>i<all.length/\bit (OC T CT N ds all φm g i) j=ab) idx (iZ (λ_=>ab) 0 sf.pre (ur all φ)):=by
  refine⟨hf,?_,?_,?_,?_,?_,?_,?_,?_,?_,?_⟩
  .grind
  .intro i o d ho hd;rw[M]at ho;obtain⟨_,n⟩:=facts i o ho;exact⟨I i o d ho hd,gM n.dst d hd⟩
  .grind
  .intro i u;rcases cM i all.length with hi|hi
   .obtain⟨_,n⟩:=facts i _ (bn hi);have:ow T CT N ds all φm g i=ae:=by grind
    have hσ:=n.σ;grind
   .have h0:all.getD i l3=l3:=by grind
    show(F (i+1)).σ=(F i).σ;have:rP T CT N ds all φm (F i) l3=af∨∃s',rP T CT N ds all φm (F i) l3=aa s':=by
     cases rP T CT N ds all φm (F i) l3 with
     |none=>grind
     |some s'=>grind
    show((rP T CT N ds all φm (F i) (all.getD i l3)).getD (F i)).σ=(F i).σ;rw[h0];rcases this with h|⟨s',h⟩
    .grind
    .rw[h];obtain⟨x,σ1,ob,n⟩:=Bj h;have y:=n.op;have:σ1=af:=by unfold vH at y;simp only[l3,Mr,UO,IM,mW]at y;grind
     rw[gx,n.σ,this];rfl
  .grind
  .intro i o ho FB;rw[M]at ho;have hi:i<all.length:=(cf.1 ho).1;have p:Ia (iZ (λj=>ix j (b7 (o).after.toList)) 0 (F i).pre (kB (F i).i all φm)) o=ae/\ow T CT N ds all φm g i=ae:=by unfold tJ at FB;grind
   refine⟨by grind,λk=>?_⟩;obtain⟨ob,n⟩:=facts i o ho;have y:=n.op;rw[p.2]at y;have VF:=IJ p.1 (by simpa using y) (F k).σ;have RY:=Z (i+1) (by omega);rw[n.obs,ar.cat]at RY;have:=eZ (P:=P) (N:=N) hT hC VF RY.1;grind
  .intro L hL i j ⟨hi,R⟩;have gh:∀i,i<all.length->L i->∀e,e∈b7 (all.getD i l3).after.toList->L e:=by intro i hi XJ e u;rw[q i _ (bn hi)]at u;obtain⟨e',U,h2,rfl⟩:=eH.1 u;grind
   have key:∀i,i<all.length->∀j,bit (OC T CT N ds all φm g i) j=ab->(∀e∈b7 (all.getD i l3).after.toList,L e)->L j:=by
    intro i;induction i using Nat.strongRecOn with
    |_ i B =>
     intro hi j R VG;obtain⟨e,u,h⟩:=zC R;have r:e<i:=by have SE:=u;rw[q i _ (bn hi)]at SE;obtain⟨e',U,h2,rfl⟩:=eH.1 SE;grind
     rcases h with rfl|⟨c,hc,Ot⟩
     .grind
     .have:=VD i (by omega) e;rw[bc r]at this;have Vk:(F i).cls[e]?=aa c:=hc;rw[Vk]at this;cases this;exact B e r (by omega) j Ot (gh e (by omega) (VG e u))
   refine⟨λXJ=>key i hi j R (gh i hi XJ),all[i],by grind,λMq=>key i hi j R ?_⟩;grind[List.getElem?_eq_getElem,eH]
  .intro i f hi RV u Bi XK;rw[Iw]at hi RV;have SE:ow T CT N ds all φm g f=ab:=by grind
   rcases cM f i with r|RZ
   .refine .inl ⟨r,hi,?_⟩;obtain⟨_,n⟩:=facts i _ (bn hi);have LS:OC T CT N ds all φm g i=Fw (F i).cls (b7 (all[i]).after.toList):=by unfold OC;grind
    rw[LS];cases ZB:ow T CT N ds all φm g i with
    |true =>
     have U:=n.jk (by grind);refine pQ U ?_;rw[ZA i (by omega) f];have:tJ T CT N ds all φm g f=ae:=by unfold tJ;grind
     grind
    |false =>
     have ZC:Ia (iZ (λj=>ix j (b7 (all[i]).after.toList)) 0 (F i).pre (kB (F i).i all φm)) all[i]=ab:=by unfold tJ at XK;rw[XG i _ (bn hi),q i _ (bn hi),ZB]at XK;grind
     have U:=n.load ZC (by grind);grind[pQ]
   .have r:i<f:=by omega
    refine .inr ⟨r,RV,?_⟩;obtain⟨_,n⟩:=facts f _ (bn RV);have LS:OC T CT N ds all φm g f=Fw (F f).cls (b7 (all[f]).after.toList):=by unfold OC;grind
    rw[LS];have U:=n.jk (by grind);grind[pQ]
  .intro i o ho t σ s v W;rw[M]at ho;have hi:i<all.length:=(cf.1 ho).1;unfold OB;rw[q i o ho];rcases mX (m:=λj=>ix j (b7 o.after.toList)) (φ:=kB (F i).i all φm) (t:=t) (l:=(F i).pre) (i:=0)with⟨j,x,U,h2,h3⟩|h3
   .have VH:look (iZ (λj=>ix j (b7 o.after.toList)) 0 (xJ T CT N ds all φm g i).pre (kB (xJ T CT N ds all φm g i).i all φm)) t=x:=h3;rw[VH];have hp:=Y i (by omega) j;rw[U]at hp;have VE:j<i:=by grind
    rw[bc VE,bn (by omega:j<all.length)]at hp;simp only[mz,dm,lu]at hp;obtain⟨ZD,hp2⟩:=hp;have z:=I j _ t (bn (by omega:j<all.length)) ZD.symm;rw[z]at W;simp only at W;rw[bc]at W
    .grind
    .have VI:j∈b7 o.after.toList:=by simp only[bz]at h2;exact PD h2
     obtain⟨e,a,b,c⟩:=eH.1 VI;grind
   .have VH:look (iZ (λj=>ix j (b7 o.after.toList)) 0 (xJ T CT N ds all φm g i).pre (kB (xJ T CT N ds all φm g i).i all φm)) t=look (kB (F i).i all φm) t:=h3;rw[VH,J i (by omega),<-VC,yc];split
    .trivial
    .rename_i XL;cases z:idx t with
     |some j =>
      have hD:=(V t).2 ⟨j,z⟩;have hN:vI i t all=ae:=by grind
      obtain⟨oj,Vy,Vz⟩:=E t j z;have hm:=PD (vJ hN j oj Vy Vz);obtain⟨e,u,R,heq⟩:=eH.1 hm;rw[z]at W;simp only at W;split at W
      ·
       rename_i hex;obtain⟨e2,UE,VJ,ZE⟩:=hex;grind
      .rw[bc ⟨oj,by grind,e,by grind,R,heq⟩]at W;exact W
     |none=>grind
  .intro t σ s v W;have hF:F all.length=sf:=G;rcases mX (m:=λ_=>ab) (φ:=ur all φ) (t:=t) (l:=sf.pre) (i:=0)with⟨j,x,U,_,h3⟩|h3
   .rw[h3];have hp:=Y all.length (ba _) j;rw[hF,U]at hp;have VE:j<all.length:=by grind
    grind
   .rw[h3,lh];split
    .trivial
    grind
 intro s a XH hh b kk cs SS R VK;have LR:F ops.size=sf:=by grind
 refine .next rfl λA K=>?_;have K:=X.hZ K;have O:=hh.rely K;have VL:=XH.rely K hh;have PF:Step σ A σ {A with w:={A.w with drawn:=A.w.drawn+1}}:=Step.same rfl rfl rfl rfl;have Fa:aF σ {A with w:={A.w with drawn:=A.w.drawn+1}}:=O.same rfl;have XM:=K.stepW.trans (PF.oe O);refine⟨_,{A with w:={A.w with drawn:=A.w.drawn+1}},#[],lA,⟨⟨σ,σ,O,Fa,PF⟩,.nil⟩,?_⟩;simp only[Region.schedule,hf,Bool.true_or,bY];refine hd.arr R (s0:={A with w:={A.w with drawn:=A.w.drawn+1}}) (λs2 a2 f2 h2 oq=>?_) ops.size _ (by simp) ?_ ?_ 0 _ a (by omega) ?_ ?_ Fa (.refl _ _) _
 .simp only[LR]at f2 h2 oq;exact VK .normal _ _ s2 a2 hQ f2 h2 (XM.trans oq)
 .simp
 .intro i o ho hi;simp[dK,mv]at hi;split at hi<;>simp at hi
 .intro f RV XF;simp[dK,mv];split<;>simp
 .have p:=VL.mono (PF.oe O) O.len;refine⟨p.size,p.defers,λt=>?_⟩;unfold gp;cases z:idx t with
  |none=>exact p.slot t
  |some j =>
   simp only;rw[aW]
   .exact p.slot t
   .simp[dK,mv];split<;>simp
end
section
variable {X:Cx P}
theorem AK.draw(b:P.follows Departure.mixedOrders=ab)(c:dj P T)(hC:bR X CT){φ':Fr}{id:Nat}(h:Fx T CT N ds ops.toList φ σ=aa (φ',σ',obs))(a:ar obs)(k:AK X N Qf K .normal φ' σ'):AK X N Qf (.code (.region id ops ab)::K) .normal φ σ :=
 IL b c hC h a k id
end
def vD(T:List (Nat×TI))(CT:List (Nat×dv))(ds:List (Nat×Bool))(N:Nat)(K:List It)(φ:Fr)(σ:List bm):Option (List It×Fr×List bm×List Prop) :=
 match K with
 |[]=>af
 |.blk _::K=>aa (K,φ,σ,[])
 |.ops _ []::K=>aa (K,φ,σ,[])
 |.ops all (o::rest)::K=>match gm N o.dst with
  |true=>match vH T CT ds all φ σ o with
   |some (x,af,obs)=>dq (kO o.dst x φ) λφ=>aa (.ops all rest::K,φ,σ,obs)
   |some (x,aa σ',obs)=>dq (kO o.dst x φ) λφ=>aa (.ops all rest::K,φ,σ',obs)
   |none=>af
  |false=>af
 |.code c::K=>match c with
  |.skip=>aa (K,φ,σ,[])
  |.seq x y=>aa (.code x::.code y::K,φ,σ,[])
  |.block id c=>aa (.code c::.blk id::K,φ,σ,[])
  |.region id ops d=>match Bo ds (id+1000000)with
   |some _=>af
   |none=>match d with
    |false=>aa (.ops ops.toList ops.toList::K,φ,σ,[])
    |true=>match Fx T CT N ds ops.toList φ σ with
     |some (φ',σ',obs)=>aa (K,φ',σ',obs)
     |none=>af
  |.exit id=>match kD id K with
   |some K'=>aa (K',φ,σ,[])
   |none=>af
  |.cond (.tmp t) x y=>match look φ t with
   |.e (.one (.c (.bool ab)))=>aa (.code x::K,φ,σ,[])
   |.e (.one (.c (.bool ae)))=>aa (.code y::K,φ,σ,[])
   |_=>af
  |_=>af
theorem JB{X:Cx P}(j:P.follows Departure.mixedOrders=ab)(f:dj P T)(d:bR X CT){g:List It}{φ':Fr}(h:vD T CT ds N K φ σ=aa (g,φ',σ',obs))(ho:ar obs)(k:AK X N Qf g .normal φ' σ'):AK X N Qf K .normal φ σ:=by
 unfold vD at h;split at h
 .cases h
 .grind [AK.Qo]
 .grind [AK.Qp]
 .rename_i all o rest K0;cases i:gm N o.dst with
  |false=>grind
  |true =>
   simp only[i]at h;have e:=gM i;split at h
   .rename_i x a b;rw[c7]at h;cases h;exact jl.zQ (eZ f d b ho) e k
   .rename_i x σ1 a b;rw[c7]at h;cases h;exact jl.zQ (eZ f d b ho) e k
   grind
 .rename_i c K0;split at h
  .grind [AK.skip]
  .grind [AK.seq]
  .grind [AK.block]
  .grind [AK.region,AK.draw]
  .grind [AK.exit]
  .grind [AK.cond]
  grind
def fa(T:List (Nat×TI))(CT:List (Nat×dv))(ds:List (Nat×Bool))(N:Nat):Nat->List It->Fr->List bm->List Prop->Option (List It×Fr×List bm×List Prop)
 |0,K,φ,σ,obs=>dq obs λobs=>aa (K,φ,σ,obs)
 |n+1,K,φ,σ,obs=>match vD T CT ds N K φ σ with
  |some (a,φ',σ',o)=>fa T CT ds N n a φ' σ' (jY o obs)
  |none=>dq obs λobs=>aa (K,φ,σ,obs)
def FW{P:aK}{X:Cx P}(f:P.follows Departure.mixedOrders=ab){T:List (Nat×TI)}(d:dj P T){CT:List (Nat×dv)}(b:bR X CT){ds:List (Nat×Bool)}{N:Nat}{Qf:Post}:∀{n:Nat}{K a:List It}{φ φ':Fr}{σ σ':List bm}{obs M4:List Prop},
  fa T CT ds N n K φ σ obs=aa (a,φ',σ',M4)->ar M4->AK X N Qf a .normal φ' σ'->AK X N Qf K .normal φ σ/\ar obs
 |0,K,a,φ,φ',σ,σ',obs,M4,h,ho,k=>by simp only[fa,c7]at h;grind
 |n+1,K,a,φ,φ',σ,σ',obs,M4,h,ho,k=>by
  simp only[fa]at h;cases c:vD T CT ds N K φ σ with
  |none =>
   grind[c7]
  |some r =>
   obtain⟨i,e,σ1,g⟩:=r;simp only[c]at h;obtain⟨l,j⟩:=FW f d b h ho k;grind[ar.cat,JB]
def AK.fa{X:Cx P}(c:P.follows Departure.mixedOrders=ab)(d:dj P T)(hC:bR X CT)(ds:List (Nat×Bool))(n:Nat){b:List It}{φ':Fr}{a:List Prop}(h:AM.fa T CT ds N n K φ σ []=aa (b,φ',σ',a))(ho:ar a)(k:AK X N Qf b .normal φ' σ'):AK X N Qf K .normal φ σ:=(FW c d hC h ho k).1
section
variable {X:Cx P}
def zw(rs:List ResultVar)(ks:List Nat)(φ:Fr)(res:D):Option (List Prop) :=
 match xG φ rs with
 |some ds=>match rK ds with
  |some d=>match vt ks.length res with
   |true=>Dg d (iL ks res)
   |false=>af
  |none=>af
 |none=>af
def AK.dY{fn:Func}{a:Nat}{res:D}(ks:List Nat)(h:zw fn.results.toList ks φ res=aa ps)(f:ar ps)(d:kh ks σ=aa σ')(b:kP σ'=ab)(e:dX ks=ab)(c:∀j,j<a->ks[j]?=aa j):
  AK X N (cg fn a res σ') (.code .ret::K) .normal φ σ:=by refine AK.ret ⟨.inl rfl,ks,?_⟩;unfold zw at h;grind
def AK.bq{fn:Func}{res:D}(h:zw fn.results.toList [] φ res=aa ps)(a:ar ps:=by simp):AK X N (cg fn 0 res []) (.code .ret::K) .normal φ σ :=
 AK.dY [] h a rfl rfl rfl (λj h=>by omega)
def cg.zero{fn:Func}{res:D}(h:zw fn.results.toList [] φ res=aa ps)(c:ar ps:=by simp):cg fn 0 res [] .ret φ σ:=by
 refine⟨.inl rfl,[],?_⟩;unfold zw at h;split at h
 .rename_i ds We;split at h
  .rename_i d b;split at h
   .rename_i a;exact⟨ds,d,ps,We,b,h,c,a,rfl,rfl,rfl,λj h=>by omega⟩
   grind
  grind
 grind
def AK.leave{id:Nat}{A:Fr->List bm->Prop}{Qr:Post}{l g:List It}(h1:kD id K=af)(h2:kD id l=aa g)(k:AK X N Qr g .normal φ σ):
  AK X N (λe φ' σ'=>match e with
   |.normal=>A φ' σ'
   |e=>AK X N Qr l e φ' σ') (.code (.exit id)::K) .normal φ σ:=by
 have key:∀{K:List It},kD id K=af->∀{Q:Post},Q (.exit id) φ σ->AK X N Q K (.exit id) φ σ:=by
  intro K;induction K with
  |nil=>intro _ Q h;exact h
  |cons i r m =>
   intro d Q h;cases i with
   |code c=>exact m (by simpa[kD]using d) h
   |ops a b=>exact m (by simpa[kD]using d) h
   |blk j =>
    simp only[kD]at d;cases hb:az id j with
    |true=>grind
    |false =>
     simp[hb]at d;have f:id≠j:=λe=>by grind[Nat.beq_refl]
     simp only[AK,f,b6];grind
 exact AW.exit (key h1 (AK.vZ h2 k))
def AK.gO{A:Fr->List bm->Prop}{Qr:Post}{a:List It}(k:Qr .ret φ σ):
  AK X N (λe φ' σ'=>match e with
   |.normal=>A φ' σ'
   |e=>AK X N Qr a e φ' σ') (.code .ret::K) .normal φ σ:=AK.ret (AK.rX (Qf:=Qr) k)
def AK.again{S:Type}{I:S->Prop}{fr:S->Fr}{st:S->List bm}{a:S->Nat}{x:S}{Qr:Post}(y:S)(d:qm φ (fr y)=aa ps)(g:ar ps)(f:I y)(c:a y<a x)(b:σ=st y):
  AK X N (λe φ' σ'=>match e with
   |.normal=>∃y,I y/\a y<a x/\rY φ' (fr y)/\σ'=st y
   |e=>Qr e φ' σ') [] .normal φ σ:=⟨y,f,c,dw d g,b⟩
def AK.wa{S:Type}(I:S->Prop)(fr:S->Fr)(st:S->List bm)(d:S->Nat)(x:S)(b:qm φ (fr x)=aa ps)(g:ar ps)(f:I x)(a:st x=σ)(round:∀x,I x->AK X N (λe φ' σ'=>match e with
   |.normal=>∃y,I y/\d y<d x/\rY φ' (fr y)/\σ'=st y
   |e=>AK X N Qf K e φ' σ') [.code c] .normal (fr x) (st x)):AK X N Qf (.code (.loop c)::K) .normal φ σ :=
 AK.loop I fr st d x f (dw b g) a round
def Fits(args:List D)(σ:List bm):Prop:=∃s vs,cn σ s vs args/\aF σ s
def Fits.at{args:List D}(h:Fits args σ){d:D}(hj:args[j]?=aa d):∃s v,dk σ s v d:=by obtain⟨s,vs,a,_⟩:=h;obtain⟨_,b⟩:=cn.get a;grind
def Fits.str{args:List D}{σ:List bm}(h:Fits args σ)(j:Nat){l:List UInt8}(hj:args[j]?=aa (.e (.one (.c (.str l))))):l.length<=9223372036854775807:=by
 obtain⟨s,v,a⟩:=h.at hj;cases fM a with
 |str h hl=>exact hl
def Fits.sl{args:List D}{σ:List bm}(h:Fits args σ)(j:Nat){t:Bool}{k n:Nat}{es:Nat->List C}(hj:args[j]?=aa (.e (.one (.c (.sl t k n es))))):n<=9223372036854775807:=by
 obtain⟨s,v,d⟩:=h.at hj;cases fM d with
 |sl b off f a hb=>omega
def Ev.body{f:aM}{fn:Func}{args:List D}{res:D}(d:P.funcs[f]?=aa fn)(a:(fn.name== "runtime.NumGoroutine")=ae)(hb:fn.body=aa c)(b:bC args.length fn.ntmps=ab)(h:Fits args σ->AK X fn.ntmps (cg fn σ.length res σ') [.code c] .normal (je 0 args) σ):Ev X f args σ res σ':=by refine⟨⟨fn,d,a,by grind⟩,λs vs hr hh=>?_⟩;exact(Ev.intro d a hb (ez b) (AK.of_code (h ⟨s,vs,hr,hh⟩))).2 s vs hr hh
def Ev.bQ{f:aM}{fn:Func}{c:Code}{args:List D}{σ σ':List bm}{res:D}(b:P.funcs[f]?=aa fn)(a:(fn.name== "runtime.NumGoroutine",fn.body,bC args.length fn.ntmps)=(ae,aa c,ab))(h:Fits args σ->AK X fn.ntmps (cg fn σ.length res σ') [.code c] .normal (je 0 args) σ):Ev X f args σ res σ':=by simp only[lu]at a;exact Ev.body b a.1 a.2.1 a.2.2 h
def AK.join{b:List It}(φ':Fr)(σ':List bm)(h:(∀(a:Fr)(ps:List Prop),qm a φ'=aa ps->ar ps->AK X N Qf (.code c::b) .normal a σ')->AK X N Qf K .normal φ σ)(k:AK X N Qf (.code c::b) .normal φ' σ'):AK X N Qf K .normal φ σ :=
 h λ_ _ h1 h2=>AW.le k (dw h1 h2)
end
def fi{i:TypeInfo}(h:P.types[t]?=aa i):P.info? t=aa i:=by unfold Tables.info?;rw[bc (eX.1 h).1];exact h
def dj.nil:dj P []:=λ_ _ h=>by cases h
def dj.cons{i:TI}(h:du P t i)(r:dj P T):dj P ((t,i)::T):=by
 intro a i2 h2;simp only[bG]at h2;cases hb:az t a with
 |true=>rw[hb]at h2;cases h2;rw[<-b5 hb];exact h
 |false=>rw[hb]at h2;exact r a i2 h2
def du.mk1{i:TI}{n:TypeInfo}(h:P.underlying t=aa i.desc)(k:P.types[t]?=aa n)(a:(zW i.desc==i.agg&&n.size==i.size&&n.bytes==i.bytes&&(!i.agg||n.zero.any λz=>match z with|.agg _=>ab|_=>ae)&&i.zero.length==i.size&&i.eq.isEmpty)=ab:=by rfl)(b:n.zero.map (λz=>z.cells.toList.map qJ)=aa (i.zero.map aa):=by rfl):du P t i:=by
 simp only[bJ,eG,List.isEmpty_iff]at a;obtain⟨⟨⟨⟨⟨a1,a2⟩,a3⟩,a4⟩,a5⟩,a6⟩:=a;cases c:n.zero with
 |none=>rw[c]at b;cases b
 |some z =>
  rw[c]at b a4;refine⟨h,a1,⟨n,z,fi k,a2,a3,c,nA b,?_,a5⟩,λh=>absurd a6 h⟩;cases d:i.agg with
  |false=>exact⟨#[],rfl⟩
  |true =>
   rw[d]at a4;cases z<;>first|exact⟨_,rfl⟩|cases a4
def dj.c1{i:TI}{n:TypeInfo}(h:P.underlying t=aa i.desc)(k:P.types[t]?=aa n)(r:dj P T)(a:(zW i.desc==i.agg&&n.size==i.size&&n.bytes==i.bytes&&(!i.agg||n.zero.any λz=>match z with|.agg _=>ab|_=>ae)&&i.zero.length==i.size&&i.eq.isEmpty)=ab:=by rfl)(b:n.zero.map (λz=>z.cells.toList.map qJ)=aa (i.zero.map aa):=by rfl):dj P ((t,i)::T):=dj.cons (du.mk1 h k a b) r
namespace R1
abbrev pI:= "loop.example/depositary/impl"
abbrev pS:= "loop.example/depositary/spec"
abbrev f0(a:String)(b c:Nat)(d:String)(e:Nat)(f:Bool:=ae):Field:={name:=a,type:=b,offset:=c,embedded:=f,tag:= "",pkgPath:=d,byteOffset:=e}
abbrev zS:C:=.sl ab 0 0 (λ_=>[])
@[simp] def Ii(n:av):TI:=⟨1,24,ae,.slice n,[zS],[]⟩
@[simp] def Rn(n:av):TI:=⟨1,8,ae,.pointer n,[.oK],[]⟩
@[simp] def K7(b:Nat)(k:IntKind):TI:=⟨1,b,ae,.int k,[.int k 0],[]⟩
@[simp] def xE(s b:Nat)(f:Array Field)(z:List C)(e:List TypeDesc:=[]):TI:=⟨s,b,ab,.struct f,z,e⟩
def i2:TI:=K7 8 .i64
def i3:TI:=K7 8 .i64
def i4:TI:=⟨1,1,ae,TypeDesc.bool,[.bool ae],[]⟩
def i5:TI:=K7 1 .u8
def i6:TI:=K7 1 .u8
def i8:TI:=xE 4 24 #[f0 "x" 2 0 "runtime" 0,f0 "y" 3 1 "runtime" 8,f0 "signed" 4 2 "runtime" 16,f0 "code" 6 3 "runtime" 17] [.int .i64 0,.int .i64 0,.bool ae,.int .u8 0]
def i9:TI:=⟨1,16,ae,TypeDesc.string,[.str []],[]⟩
def i16:TI:=Rn 281
def i20:TI:=⟨1,16,ae,TypeDesc.interface #[],[.oN],[]⟩
def i21:TI:=K7 4 .i32
def i22:TI:=Ii 5
def i23:TI:=Ii 39
def i24:TI:=Ii 68
def i25:TI:=Ii 62
def i27:TI:=xE 3 72 #[f0 "Packs" 23 0 "" 0,f0 "Snaps" 24 1 "" 24,f0 "Log" 25 2 "" 48] [zS,zS,zS]
def i28:TI:=Ii 3
def i30:TI:=xE 5 120 #[f0 "Store" 27 0 "" 0,f0 "Marks" 28 3 "" 72,f0 "Left" 28 4 "" 96] [zS,zS,zS,zS,zS]
def i37:TI:=Ii 60
def i39:TI:=xE 2 32 #[f0 "No" 3 0 "" 0,f0 "Item" 37 1 "" 8] [.int .i64 0,zS]
def i51:TI:=Rn 93
def i60:TI:=xE 2 24 #[f0 "Name" 3 0 "" 0,f0 "Body" 9 1 "" 8] [.int .i64 0,.str []] [.int .i64,.string]
def g60:du ag 60 i60:=⟨Tryz.underlying60,rfl,⟨_,_,fi Tryz.type60,rfl,rfl,rfl,rfl,⟨_,rfl⟩,rfl⟩,λ_=>lL (fs:=[f0 "Name" 3 0 "" 0,f0 "Body" 9 1 "" 8]) Tryz.underlying60 (by decide +kernel) Tryz.eqGuardType60 ⟨by decide,rfl,Tryz.underlying3,aq,by decide,rfl,Tryz.underlying9,aq,aq⟩⟩
def i62:TI:=xE 2 16 #[f0 "By" 3 0 "" 0,f0 "Snap" 3 1 "" 8] [.int .i64 0,.int .i64 0] [.int .i64,.int .i64]
def g62:du ag 62 i62:=⟨Tryz.underlying62,rfl,⟨_,_,fi Tryz.type62,rfl,rfl,rfl,rfl,⟨_,rfl⟩,rfl⟩,λ_=>lL (fs:=[f0 "By" 3 0 "" 0,f0 "Snap" 3 1 "" 8]) Tryz.underlying62 (by decide +kernel) Tryz.eqGuardType62 ⟨by decide,rfl,Tryz.underlying3,aq,by decide,rfl,Tryz.underlying3,aq,aq⟩⟩
def i66:TI:=Ii 107
def i68:TI:=xE 2 32 #[f0 "No" 3 0 "" 0,f0 "All" 66 1 "" 8] [.int .i64 0,zS]
def i69:TI:=Ii 39
def i71:TI:=xE 3 72 #[f0 "packed" 69 0 pI 0 ab,f0 "snaps" 24 1 pI 24,f0 "log" 25 2 pI 48] [zS,zS,zS]
def i75:TI:=Ii 115
def i93:TI:=xE 2 32 #[f0 "b" 22 0 pS 0,f0 "p" 3 1 pS 24] [zS,.int .i64 0]
def i97:TI:=Rn 30
def i107:TI:=xE 2 40 #[f0 "Path" 9 0 "" 0,f0 "Names" 28 1 "" 16] [.str [],zS]
def i115:TI:=xE 2 32 #[f0 "Path" 9 0 "" 0,f0 "Text" 9 1 "" 16] [.str [],.str []] [.string,.string]
def W9:du ag 115 i115:=⟨Tryz.underlying115,rfl,⟨_,_,fi Tryz.type115,rfl,rfl,rfl,rfl,⟨_,rfl⟩,rfl⟩,λ_=>lL (fs:=[f0 "Path" 9 0 "" 0,f0 "Text" 9 1 "" 16]) Tryz.underlying115 (by decide +kernel) Tryz.eqGuardType115 ⟨by decide,rfl,Tryz.underlying9,aq,by decide,rfl,Tryz.underlying9,aq,aq⟩⟩
def i131:TI:=K7 8 .u64
def i132:TI:=Ii 9
def i140:TI:=Ii 187
def i155:TI:=K7 8 .i64
def i164:TI:=K7 4 .u32
def i166:TI:=K7 8 .u64
def i167:TI:=Ii 177
def i169:TI:=xE 0 0 #[] []
def i170:TI:=xE 0 0 #[] []
def i171:TI:=xE 0 0 #[] []
def i173:TI:=xE 1 8 #[f0 "_" 170 0 "sync/atomic" 0,f0 "_" 171 0 "sync/atomic" 0,f0 "v" 166 0 "sync/atomic" 0] [.int .u64 0]
def i175:TI:=xE 2 16 #[f0 "noCopy" 169 0 "sync" 0,f0 "state" 173 0 "sync" 0,f0 "sema" 164 1 "sync" 8] [.int .u64 0,.int .u32 0]
def i177:TI:=xE 2 24 #[f0 "piece" 9 0 pI 0,f0 "ok" 4 1 pI 16] [.str [],.bool ae] [.string,.bool]
def Xa:du ag 177 i177:=⟨Tryz.underlying177,rfl,⟨_,_,fi Tryz.type177,rfl,rfl,rfl,rfl,⟨_,rfl⟩,rfl⟩,λ_=>lL (fs:=[f0 "piece" 9 0 pI 0,f0 "ok" 4 1 pI 16]) Tryz.underlying177 (by decide +kernel) Tryz.eqGuardType177 ⟨by decide,rfl,Tryz.underlying9,aq,by decide,rfl,Tryz.underlying4,aq,aq⟩⟩
def i187:TI:=xE 2 16 #[f0 "Name" 3 0 "" 0,f0 "Pack" 3 1 "" 8] [.int .i64 0,.int .i64 0] [.int .i64,.int .i64]
def Xb:du ag 187 i187:=⟨Tryz.underlying187,rfl,⟨_,_,fi Tryz.type187,rfl,rfl,rfl,rfl,⟨_,rfl⟩,rfl⟩,λ_=>lL (fs:=[f0 "Name" 3 0 "" 0,f0 "Pack" 3 1 "" 8]) Tryz.underlying187 (by decide +kernel) Tryz.eqGuardType187 ⟨by decide,rfl,Tryz.underlying3,aq,by decide,rfl,Tryz.underlying3,aq,aq⟩⟩
def i196:TI:=K7 8 .i64
def i198:TI:=⟨1,16,ae,TypeDesc.interface #[("Error",227)],[.oN],[]⟩
def i201:TI:=K7 8 .u64
def i205:TI:=Rn 3
def i222:TI:=Rn 224
def i224:TI:=xE 2 32 #[f0 "addr" 222 0 "strings" 0,f0 "buf" 22 1 "strings" 8] [.oK,zS]
def i241:TI:=Rn 237
def i274:TI:=xE 2 2 #[f0 "lo" 5 0 "unicode/utf8" 0,f0 "hi" 5 1 "unicode/utf8" 1] [.int .u8 0,.int .u8 0] [.int .u8,.int .u8]
def Xc:du ag 274 i274:=⟨Tryz.underlying274,rfl,⟨_,_,fi Tryz.type274,rfl,rfl,rfl,rfl,⟨_,rfl⟩,rfl⟩,λ_=>lL (fs:=[f0 "lo" 5 0 "unicode/utf8" 0,f0 "hi" 5 1 "unicode/utf8" 1]) Tryz.underlying274 (by decide +kernel) Tryz.eqGuardType274 ⟨by decide,rfl,Tryz.underlying5,aq,by decide,rfl,Tryz.underlying5,aq,aq⟩⟩
def i275:TI:=⟨32,32,ab,TypeDesc.array 16 274,[.int .u8 0,.int .u8 0,.int .u8 0,.int .u8 0,.int .u8 0,.int .u8 0,.int .u8 0,.int .u8 0,.int .u8 0,.int .u8 0,.int .u8 0,.int .u8 0,.int .u8 0,.int .u8 0,.int .u8 0,.int .u8 0,.int .u8 0,.int .u8 0,.int .u8 0,.int .u8 0,.int .u8 0,.int .u8 0,.int .u8 0,.int .u8 0,.int .u8 0,.int .u8 0,.int .u8 0,.int .u8 0,.int .u8 0,.int .u8 0,.int .u8 0,.int .u8 0],[]⟩
def i276:TI:=Rn 290
def i279:TI:=⟨0,0,ab,TypeDesc.array 0 16,[],[]⟩
def i281:TI:=xE 0 0 #[f0 "_" 279 0 "runtime" 0] []
def i290:TI:=xE 1 16 #[f0 "s" 9 0 "errors" 0] [.str []] [.string]
def Xd:du ag 290 i290:=⟨Tryz.underlying290,rfl,⟨_,_,fi Tryz.type290,rfl,rfl,rfl,rfl,⟨_,rfl⟩,rfl⟩,λ_=>lL (fs:=[f0 "s" 9 0 "errors" 0]) Tryz.underlying290 (by decide +kernel) Tryz.eqGuardType290 ⟨by decide,rfl,Tryz.underlying9,aq,aq⟩⟩
def tt:List (Nat×TI):=[(2,i2),(3,i3),(4,i4),(5,i5),(6,i6),(8,i8),(9,i9),(16,i16),(20,i20),(21,i21),(22,i22),(23,i23),(24,i24),(25,i25),(27,i27),(28,i28),(30,i30),(37,i37),(39,i39),(51,i51),(60,i60),(62,i62),(66,i66),(68,i68),(69,i69),(71,i71),(75,i75),(93,i93),(97,i97),(107,i107),(115,i115),(131,i131),(132,i132),(140,i140),(155,i155),(164,i164),(166,i166),(167,i167),(169,i169),(170,i170),(171,i171),(173,i173),(175,i175),(177,i177),(187,i187),(196,i196),(198,i198),(201,i201),(205,i205),(222,i222),(224,i224),(241,i241),(274,i274),(275,i275),(276,i276),(279,i279),(281,i281),(290,i290)]
def tok:dj ag tt:=dj.c1 Tryz.underlying2 Tryz.type2 ( dj.c1 Tryz.underlying3 Tryz.type3 ( dj.c1 Tryz.underlying4 Tryz.type4 ( dj.c1 Tryz.underlying5 Tryz.type5 ( dj.c1 Tryz.underlying6 Tryz.type6 ( dj.c1 Tryz.underlying8 Tryz.type8 ( dj.c1 Tryz.underlying9 Tryz.type9 ( dj.c1 Tryz.underlying16 Tryz.type16 ( dj.c1 Tryz.underlying20 Tryz.type20 ( dj.c1 Tryz.underlying21 Tryz.type21 ( dj.c1 aJ Tryz.type22 ( dj.c1 Tryz.underlying23 Tryz.type23 ( dj.c1 Tryz.underlying24 Tryz.type24 ( dj.c1 Tryz.underlying25 Tryz.type25 ( dj.c1 Tryz.underlying27 Tryz.type27 ( dj.c1 Tryz.underlying28 Tryz.type28 ( dj.c1 Tryz.underlying30 Tryz.type30 ( dj.c1 Tryz.underlying37 Tryz.type37 ( dj.c1 Tryz.underlying39 Tryz.type39 ( dj.c1 Tryz.underlying51 Tryz.type51 ( dj.cons g60 ( dj.cons g62 ( dj.c1 Tryz.underlying66 Tryz.type66 ( dj.c1 Tryz.underlying68 Tryz.type68 ( dj.c1 Tryz.underlying69 Tryz.type69 ( dj.c1 Tryz.underlying71 Tryz.type71 ( dj.c1 Tryz.underlying75 Tryz.type75 ( dj.c1 Tryz.underlying93 Tryz.type93 ( dj.c1 Tryz.underlying97 Tryz.type97 ( dj.c1 Tryz.underlying107 Tryz.type107 ( dj.cons W9 ( dj.c1 Tryz.underlying131 Tryz.type131 ( dj.c1 Tryz.underlying132 Tryz.type132 ( dj.c1 Tryz.underlying140 Tryz.type140 ( dj.c1 Tryz.underlying155 Tryz.type155 ( dj.c1 Tryz.underlying164 Tryz.type164 ( dj.c1 Tryz.underlying166 Tryz.type166 ( dj.c1 Tryz.underlying167 Tryz.type167 ( dj.c1 Tryz.underlying169 Tryz.type169 ( dj.c1 Tryz.underlying170 Tryz.type170 ( dj.c1 Tryz.underlying171 Tryz.type171 ( dj.c1 Tryz.underlying173 Tryz.type173 ( dj.c1 Tryz.underlying175 Tryz.type175 ( dj.cons Xa ( dj.cons Xb ( dj.c1 Tryz.underlying196 Tryz.type196 ( dj.c1 Tryz.underlying198 Tryz.type198 ( dj.c1 Tryz.underlying201 Tryz.type201 ( dj.c1 Tryz.underlying205 Tryz.type205 ( dj.c1 Tryz.underlying222 Tryz.type222 ( dj.c1 Tryz.underlying224 Tryz.type224 ( dj.c1 Tryz.underlying241 Tryz.type241 ( dj.cons Xc ( dj.c1 Tryz.underlying275 Tryz.type275 ( dj.c1 Tryz.underlying276 Tryz.type276 ( dj.c1 Tryz.underlying279 Tryz.type279 ( dj.c1 Tryz.underlying281 Tryz.type281 ( dj.cons Xd (dj.nil))))))))))))))))))))))))))))))))))))))))))))))))))))))))))
end R1
abbrev Bs:=List UInt8
abbrev dS(s:Bs):D:=.e (.one (.c (.str s)))
abbrev dI(n:Int):D:=.e (.one (.c (.int .i64 n)))
abbrev dU(n:Int):D:=.e (.one (.c (.int .u8 n)))
abbrev dB(b:Bool):D:=.e (.one (.c (.bool b)))
def j7{s:Bs}:iH s i=s.getD i 0:=rfl
namespace R1
variable {X:Cx ag}
def fC:Tryz.prog.follows Departure.mixedOrders=ab:=rfl
def Ug{X:Cx ag}{CT:List (Nat×dv)}(c:bR X CT)(ds:List (Nat×Bool)){N:Nat}{Qf:Post}(n:Nat){K b:List It}{φ φ':Fr}{σ σ':List bm}{a:List Prop}(h:AM.fa tt CT ds N n K φ σ []=aa (b,φ',σ',a))(ho:ar a)(k:AK X N Qf b .normal φ' σ'):AK X N Qf K .normal φ σ:=AK.fa fC tok c ds n h ho k
def BU{X:Cx ag}(ds:List (Nat×Bool)){N:Nat}{Qf:Post}(n:Nat){K b:List It}{φ φ':Fr}{σ σ':List bm}{a:List Prop}(h:AM.fa tt [] ds N n K φ σ []=aa (b,φ',σ',a))(ho:ar a)(k:AK X N Qf b .normal φ' σ'):AK X N Qf K .normal φ σ:=AK.fa fC tok bR.nil ds n h ho k
def bA{X:Cx ag}{N:Nat}{Qf:Post}{K b:List It}{φ φ':Fr}{σ σ':List bm}{a:List Prop}(h:AM.fa tt [] [] N 100 K φ σ []=aa (b,φ',σ',a))(ho:ar a)(k:AK X N Qf b .normal φ' σ'):AK X N Qf K .normal φ σ:=AK.fa fC tok bR.nil [] 100 h ho k
def c6{X:Cx ag}{N:Nat}{Qf:Post}{K b:List It}{φ φ':Fr}{σ σ':List bm}{a:List Prop}(h:AM.fa tt [] [] N 200 K φ σ []=aa (b,φ',σ',a))(ho:ar a)(k:AK X N Qf b .normal φ' σ'):AK X N Qf K .normal φ σ:=AK.fa fC tok bR.nil [] 200 h ho k
def aO{X:Cx ag}{CT:List (Nat×dv)}(c:bR X CT)(ds:List (Nat×Bool)){N:Nat}{Qf:Post}{K b:List It}{φ φ':Fr}{σ σ':List bm}{a:List Prop}(h:AM.fa tt CT ds N 100 K φ σ []=aa (b,φ',σ',a))(ho:ar a)(k:AK X N Qf b .normal φ' σ'):AK X N Qf K .normal φ σ:=AK.fa fC tok c ds 100 h ho k
def aZ{X:Cx ag}{CT:List (Nat×dv)}(c:bR X CT)(ds:List (Nat×Bool)){N:Nat}{Qf:Post}{K b:List It}{φ φ':Fr}{σ σ':List bm}{a:List Prop}(h:AM.fa tt CT ds N 200 K φ σ []=aa (b,φ',σ',a))(ho:ar a)(k:AK X N Qf b .normal φ' σ'):AK X N Qf K .normal φ σ:=AK.fa fC tok c ds 200 h ho k
def aY{X:Cx ag}(ds:List (Nat×Bool)){N:Nat}{Qf:Post}{K b:List It}{φ φ':Fr}{σ σ':List bm}{a:List Prop}(h:AM.fa tt [] ds N 100 K φ σ []=aa (b,φ',σ',a))(ho:ar a)(k:AK X N Qf b .normal φ' σ'):AK X N Qf K .normal φ σ:=AK.fa fC tok bR.nil ds 100 h ho k
def bE{X:Cx ag}(ds:List (Nat×Bool)){N:Nat}{Qf:Post}{K b:List It}{φ φ':Fr}{σ σ':List bm}{a:List Prop}(h:AM.fa tt [] ds N 200 K φ σ []=aa (b,φ',σ',a))(ho:ar a)(k:AK X N Qf b .normal φ' σ'):AK X N Qf K .normal φ σ:=AK.fa fC tok bR.nil ds 200 h ho k
def bX{X:Cx ag}{CT:List (Nat×dv)}(c:bR X CT){N:Nat}{Qf:Post}{K b:List It}{φ φ':Fr}{σ σ':List bm}{a:List Prop}(h:AM.fa tt CT [] N 100 K φ σ []=aa (b,φ',σ',a))(ho:ar a)(k:AK X N Qf b .normal φ' σ'):AK X N Qf K .normal φ σ:=AK.fa fC tok c [] 100 h ho k
def cu{X:Cx ag}{CT:List (Nat×dv)}(c:bR X CT){N:Nat}{Qf:Post}{K b:List It}{φ φ':Fr}{σ σ':List bm}{a:List Prop}(h:AM.fa tt CT [] N 200 K φ σ []=aa (b,φ',σ',a))(ho:ar a)(k:AK X N Qf b .normal φ' σ'):AK X N Qf K .normal φ σ:=AK.fa fC tok c [] 200 h ho k
def lR(b:Int):Bool:=decide (97<=b)&&decide (b<=101)
theorem NZ(b:Int):Ev X 150 [dU b] [] (dB (lR b)) []:=by
 refine Ev.bQ Tryz.func150 rfl λ_=>?_;by_cases h:97<=b
 .refine aY [(4,ab)] rfl ?_ (AK.bq rfl ?_)<;>simp[h,lR]
 .refine aY [(4,ae)] rfl ?_ (AK.bq rfl ?_)<;>simp[h,lR]
def eJ(b:UInt8):Bool:=decide (97<=b.toNat)&&decide (b.toNat<=122)
def b9(s:Bs):Bool:=s.all eJ
def sv{s:Bs}(h:∀j,j<s.length->eJ (s.getD j 0)=ab):b9 s=ab:=by simp only[b9,List.all_eq_true];grind[List.getElem_of_mem]
def kq{s:Bs}(h:j<s.length)(b:eJ (s.getD j 0)=ae):b9 s=ae:=by
 cases a:b9 s with
 |false=>rfl
 |true =>
  simp only[b9,List.all_eq_true]at a;grind
theorem EM(s:Bs):Ev X 151 [dS s] [] (dB (b9 s)) []:=by
 refine Ev.bQ Tryz.func151 rfl λe=>?_;have f:=e.str 0 rfl;refine bA rfl aq ?_;refine AK.wa (λi=>i<=s.length/\∀j,j<i->eJ (s.getD j 0)=ab) (λi:Nat=>[(0,dS s),(3,dI i)]) (λ_=>[]) (λi=>s.length-i) 0 rfl (by simp) ⟨by omega,by omega⟩ rfl ?_;rintro i ⟨hi,c⟩;by_cases h:i<s.length
 .generalize a:s.getD i 0=b;by_cases k:b.toNat<97
  .refine aY [(7,ab),(13,ab)] rfl ?_ (AK.gO (cg.zero rfl ?_))
   .simp only[ar,j7,bh,a];omega
   .rw[ar,kq h (by rw[a];simp only[eJ,rj,bM];omega)]
  .by_cases g:b.toNat>122
   .refine aY [(7,ab),(13,ae),(18,ab)] rfl ?_ (AK.gO (cg.zero rfl ?_))
    .simp only[ar,j7,bh,bM,a];omega
    .rw[ar,kq h (by rw[a];simp only[eJ,rj,bM];omega)]
   .refine aY [(7,ab),(13,ae),(18,ae)] rfl ?_ (AK.again (i+1) rfl ?_ ?_ ?_ rfl)
    .simp only[ar,j7,bh,bM,a,bt];omega
    .simp
    .refine⟨by omega,λj d=>?_⟩;rcases uG.1 d with d|rfl
     .grind
     .rw[a];simp only[eJ,bJ,bh];omega
    .omega
 .refine aY [(7,ae)] rfl (by simp;omega) (AK.leave rfl rfl ?_);refine bA rfl aq (AK.bq rfl ?_);rw[ar,sv (λj d=>c j (by omega))]
end R1
def Ev.args{P:aK}{X:Cx P}{f:aM}{args Pd:List D}{σ σ':List bm}{res:D}(h:Ev X f Pd σ res σ')(hl:∀s vs,cn σ s vs args->cn σ s vs Pd):Ev X f args σ res σ' :=
 ⟨h.1,λs vs hr hh=>h.2 s vs (hl s vs hr) hh⟩
def jO(a:Nat):D->Option (Nat×(Nat->List C))
 |.e (.one (.c (.sl _ k n es)))=>match az k a with
  |true=>aa (n,es)
  |false=>match az n 0 with
   |true=>aa (0,λ_=>[])
   |false=>af
 |_=>af
def K8{i:Nat}{d:D}{n:Nat}{es:Nat->List C}(h:jO i d=aa (n,es)){σ:List bm}{s:St}{v:aj}(r:dk σ s v d):Rd s.M v (.sl ae i n es):=by
 unfold jO at h;split at h
 .rename_i t k u es';split at h
  .rename_i g;have e:=b5 g;subst e;cases h;exact(fM r).loose
  .split at h
   .rename_i l;have e:=b5 l;subst e;cases h;have r':=fM r;cases r' with
    |sl b off f a j m g p o q=>exact Rd.sl b off f a j (by simp) (by omega) (by omega) (by omega) (by omega)
   grind
 grind
def xS{α:Type}(enc:α->List C)(b8:α)(l:List α):Nat->List C:=λi=>enc (l.getD i b8)
structure iT(α:Type) where
 k:Nat
 enc:α->List C
 dec:List C->α
 b8:α
 inv:∀a,dec (enc a)=a
 len:∀a,(enc a).length=k
namespace iT
variable {α:Type}(c:iT α)
def list(n:Nat)(es:Nat->List C):List α:=(bg n).map λi=>c.dec (es i)
def fn(l:List α):Nat->List C:=xS c.enc c.b8 l
def fits(n:Nat)(es:Nat->List C):Prop:=∀i,i<n->es i=c.enc (c.dec (es i))
def sl(l:List α):D:=.e (.one (.c (.sl ae c.k l.length (c.fn l))))
def CO{n:Nat}{es:Nat->List C}:(c.list n es).length=n:=by simp[list]
def list_fn(l:List α):c.list l.length (c.fn l)=l:=by
 apply ry
 .simp[list]
 .intro i b a;simp[list,fn,xS,ah,bn a,c.inv]
def au(l:List α){n:Nat}:c.fits n (c.fn l):=λi _=>by simp[fn,xS,c.inv]
def N0{n:Nat}{es:Nat->List C}(h:c.fits n es):cq n es (c.fn (c.list n es)):=by intro i hi;rw[h i hi];simp[fn,xS,list,ah,hi]
def jb{d:D}{n:Nat}{es:Nat->List C}(h:jO c.k d=aa (n,es))(b:c.fits n es){σ:List bm}{s:St}{v:aj}(r:dk σ s v d):dk σ s v (c.sl (c.list n es)):=by have e:=K8 h r;have a:=e.Dl (c.N0 b);show Rd s.M v (.sl ae c.k (c.list n es).length _);rw[c.CO];exact a
end iT
def cz(s:Bs)(i:Nat):Int:=(s.getD i 0).toNat
theorem cC(s:Bs)(j:Int):((iH s j).toNat:Int)=cz s j.toNat:=rfl
abbrev bu:=Bs×Bs
def BW(cs:List C)(j:Nat):Bs:=match eB j cs with|some (.str s)=>s|_=>[]
def wE(cs:List C)(j:Nat):Int:=match eB j cs with|some (.int _ s)=>s|_=>0
def cF:iT bu:={k:=2,enc:=λf=>[.str f.1,.str f.2],dec:=λcs=>(BW cs 0,BW cs 1),b8:=([],[]),inv:=λ_=>rfl,len:=λ_=>rfl}
namespace R1
variable {X:Cx ag}
def Ro:dv:=λargs σ=>match args,σ with
 |[.e (.one (.c (.int .u8 b)))],[]=>aa (dB (lR b),[],[])
 |_,_=>af
def t150:dH X 150 Ro:=by intro args σ res σ' obs h _;unfold Ro at h;grind[NZ]
def NM:dv:=λargs σ=>match args,σ with
 |[.e (.one (.c (.str b)))],[]=>aa (dB (b9 b),[],[])
 |_,_=>af
def t151:dH X 151 NM:=by intro args σ res σ' obs h _;unfold NM at h;grind[EM]
def YB:List (Nat×dv):=[(150,Ro),(151,NM)]
def CP:bR X YB:=bR.cons t150 (bR.cons t151 bR.nil)
def dF(s:Bs):Bool:=if s.length=1 then lR (cz s 0)else if s.length=3 then lR (cz s 0)&&(cz s 1==47)&&lR (cz s 2)else ae
theorem HO(s:Bs):Ev X 106 [dS s] [] (dB (dF s)) []:=by
 refine Ev.bQ Tryz.func106 rfl λf=>?_;by_cases e:s.length=1
 .refine aO CP [(6,ab)] rfl ?_ (AK.bq rfl ?_)
  .simp[e]
  .simp[dF,e,cC]
 .by_cases a:s.length=3
  .by_cases b:lR (cz s 0)=ab
   .by_cases d:cz s 1=47
    .refine aO CP [(6,ae),(11,ab),(14,ab),(18,ab)] rfl ?_ (AK.bq rfl ?_)
     .simp[a,cC,b,d]
     .simp[dF,a,b,d,cC]
    .refine aO CP [(6,ae),(11,ab),(14,ab),(18,ae)] rfl ?_ (AK.bq rfl ?_)
     .simp[a,cC,b,d]
     .simp[dF,a,b,d]
   .refine aO CP [(6,ae),(11,ab),(14,ae)] rfl ?_ (AK.bq rfl ?_)
    .simp[a,cC,b]
    .simp[dF,a,b]
  .refine aO CP [(6,ae),(11,ae)] rfl ?_ (AK.bq rfl ?_)
   .simp;omega
   .simp[dF,e,a]
def dN(s:Bs):Bool:=decide (s.length<=40)&&b9 s
theorem HP(s:Bs):Ev X 107 [dS s] [] (dB (dN s)) []:=by
 refine Ev.bQ Tryz.func107 rfl λb=>?_;by_cases a:s.length<=40
 .refine aO CP [(5,ab)] rfl ?_ (AK.bq rfl ?_)
  .simp;omega
  .simp[dN,a]
 .refine aO CP [(5,ae)] rfl ?_ (AK.bq rfl ?_)
  .simp;omega
  .simp[dN,a]
def clash(a b:Bs):Bool:=(a.length != b.length)&&(cz a 0==cz b 0)
def K9(a b:Bs)(h:a≠[])(g:b≠[]):Ev X 111 [dS a,dS b] [] (dB (clash a b)) []:=by
 have d:=zd.2 h;have f:=zd.2 g;refine Ev.bQ Tryz.func111 rfl λi=>?_;by_cases e:a.length=b.length
 .refine aY [(9,ae)] rfl ?_ (AK.bq rfl ?_)
  .simp[e]
  .simp[clash,e]
 .refine aY [(9,ab)] rfl ?_ (AK.bq rfl ?_)
  .simp[d,f];omega
  .simp[clash,e,cC]
end R1
def GX(σ σ':List bm):Prop:=∀(s:St),aF σ s->aF σ' s/\Step σ s σ' s/\∀(v:aj)(d:D),dk σ s v d->dk σ' s v d
def Wf:bm->bm->Option (List Prop)
 |.vec E k n es,.vec E' k' n' es'=>match az E E',az k k' with
  |true,ab=>aa [n=n',cq n es es']
  |_,_=>af
 |.cells E cs,.cells E' lZ=>match az E E' with
  |true=>OP cs lZ
  |false=>af
 |.dead,.dead=>aa []
 |.dg H,.dg H'=>aa [H=H']
 |.loop N φ r,.loop N' φ' r'=>aa [bm.loop N φ r=bm.loop N' φ' r']
 |.rG,.rG=>aa []
 |.buf E k n es,.buf E' k' n' es'=>match az E E',az k k' with
  |true,ab=>aa [n=n',cq n es es']
  |_,_=>af
 |_,_=>af
def sV:List bm->List bm->Option (List Prop)
 |[],[]=>aa []
 |a::r,b::q=>match Wf a b with
  |some p=>match sV r q with
   |some ps=>aa (jY p ps)
   |none=>af
  |none=>af
 |_,_=>af
def MT(B B':bm):Prop :=
 (∀E k n es,B=.vec E k n es->∃es',B'=.vec E k n es'/\cq n es es')/\((∀E k n es,B≠.vec E k n es)->(∀E k n es,B'≠.vec E k n es)/\(B=B'∨(∃E cs lZ,B=.cells E cs/\B'=.cells E lZ/\∀σ s vs,dT σ s vs cs->dT σ s vs lZ)∨∃E k n es es',B=.buf E k n es/\B'=.buf E k n es'/\cq n es es'))
theorem P9{B B':bm}(h:Wf B B'=aa ps)(c:ar ps):MT B B':=by
 unfold Wf at h;split at h
 .rename_i E k n es E' k' n' es';split at h
  .rename_i b f;cases h;have a:=b5 b;have g:=b5 f;obtain⟨d,i⟩:n=n'/\cq n es es':=c;subst a g d;refine⟨λE0 k0 n0 XD he=>?_,λl=>absurd rfl (l _ _ _ _)⟩;grind
  grind
 .rename_i E cs E' lZ;split at h
  .rename_i b;have a:=b5 b;subst a;exact⟨λ_ _ _ _ he=>(by cases he),λ_=>⟨λ_ _ _ _ he=>(by cases he),.inr (.inl ⟨E,cs,lZ,rfl,rfl,λσ s vs r=>DU h c r⟩)⟩⟩
  grind
 .exact⟨λ_ _ _ _ he=>(by cases he),λ_=>⟨λ_ _ _ _ he=>(by cases he),.inl rfl⟩⟩
 .cases h;rename_i H H';have e:H=H':=c;subst e;exact⟨λ_ _ _ _ he=>(by cases he),λ_=>⟨λ_ _ _ _ he=>(by cases he),.inl rfl⟩⟩
 .cases h;rename_i N φ r j φ' r';have e:bm.loop N φ r=bm.loop j φ' r':=c;exact⟨λ_ _ _ _ he=>(by cases he),λ_=>⟨λ_ _ _ _ he=>(by cases he),.inl e⟩⟩
 .exact⟨λ_ _ _ _ he=>(by cases he),λ_=>⟨λ_ _ _ _ he=>(by cases he),.inl rfl⟩⟩
 .rename_i E k n es E' k' n' es';split at h
  .rename_i b f;cases h;have a:=b5 b;have g:=b5 f;obtain⟨d,i⟩:n=n'/\cq n es es':=c;subst a g d;exact⟨λ_ _ _ _ he=>(by cases he),λ_=>⟨λ_ _ _ _ he=>(by cases he),.inr (.inr ⟨E,k,n,es,es',rfl,rfl,i⟩)⟩⟩
  grind
 grind
def BC:∀{σ σ':List bm}{ps:List Prop},sV σ σ'=aa ps->ar ps->σ'.length=σ.length/\∀(l:Nat)(B B':bm),σ[l]?=aa B->σ'[l]?=aa B'->MT B B'
 |[],[],_,_,_=>⟨rfl,λl B B' h=>by grind⟩
 |[],_::_,_,h,_=>by cases h
 |_::_,[],_,h,_=>by cases h
 |a::r,b::q,ps,h,c=>by
  simp only[sV]at h;split at h
  .rename_i p e;split at h
   .rename_i p2 h2;cases h;rw[ar.cat]at c;obtain⟨f,d⟩:=BC h2 c.2;grind[P9]
   grind
  grind
def mf(h:sV σ σ'=aa ps)(hp:ar ps):GX σ σ':=by
 obtain⟨W,hg⟩:=BC h hp;intro s J;have Q:∀(l:Nat) (B:bm),σ[l]?=aa B->∃B',σ'[l]?=aa B'/\MT B B':=by grind
 have get:∀(l:Nat) (B':bm),σ'[l]?=aa B'->∃B,σ[l]?=aa B/\MT B B':=by grind
 have i:∀(l:Nat),(∀B,σ[l]?=aa B->B.gr=ae)->∀B,σ'[l]?=aa B->B.gr=ae:=by
  intro l hn B' he;obtain⟨B,u,m⟩:=get l _ he;have q:=hn B u;rcases(m.2 (λE k n es e=>by rw[e]at q;cases q)).2 with rfl|⟨E,cs,I,rfl,rfl,_⟩|⟨E,k,n,es,es',rfl,rfl,_⟩
  .exact q
  .rfl
  .cases q
 have T:∀(l:Nat) E k n es,σ'[l]?=aa (bm.buf E k n es)->∃es',σ[l]?=aa (bm.buf E k n es'):=by
  intro l E k n es he;obtain⟨B,u,m⟩:=get l _ he;by_cases p:∃E k n es,B=bm.vec E k n es
  .obtain⟨E1,k1,Y,X2,rfl⟩:=p;obtain⟨es',f,_⟩:=m.1 _ _ _ _ rfl;cases f
  .rcases(m.2 (λE k n es e=>p ⟨E,k,n,es,e⟩)).2 with rfl|⟨E,cs,I,rfl,h,_⟩|⟨E,k,n,es,es',rfl,h,_⟩
   .grind
   .cases h
   grind
 have G:∀(l:Nat) E k n es,σ'[l]?=aa (bm.vec E k n es)->∃es',σ[l]?=aa (bm.vec E k n es'):=by
  intro l E k n es he;obtain⟨B,u,m⟩:=get l _ he;by_cases p:∃E k n es,B=bm.vec E k n es
  .obtain⟨E1,k1,Y,X2,rfl⟩:=p;obtain⟨es',f,_⟩:=m.1 _ _ _ _ rfl;grind
  .exact absurd rfl ((m.2 (λE k n es e=>p ⟨E,k,n,es,e⟩)).1 E k n es)
 have R:∀(v:aj) (a:A),gD σ s v a->gD σ' s v a:=by
  intro v a r;cases a with
  |c x=>exact r
  |ptr l o=>exact⟨i l r.1,r.2⟩
  |vec l k n es =>
   refine⟨r.1,by rw[W];exact r.2.1,λE k' n' es' he=>?_⟩;obtain⟨Dm,g⟩:=G l E k' n' es' he;exact r.2.2 E k' n' Dm g
  |ref l=>exact⟨i l r.1,r.2⟩
  |bp l w =>
   obtain⟨Z,r1,r2,r3⟩:=r;refine⟨Z,r1,by grind,λE k' n' es' he=>?_⟩;grind
  |any=>exact r
 have F:∀(vs:List aj) (cs:List A),dT σ s vs cs->dT σ' s vs cs:=by
  intro vs;induction vs with
  |nil=>intro cs r;cases cs with|nil=>trivial|cons _ _=>exact r.elim
  |cons v vs ih=>intro cs r;cases cs with|nil=>exact r.elim|cons c cs=>exact⟨R _ _ r.1,ih _ r.2⟩
 have O:∀(v:aj) (e:E1),nq σ s v e->nq σ' s v e:=by
  intro v e r;cases e with
  |one a=>exact R _ _ r
  |agg cs=>obtain⟨vs,f,g⟩:=r;exact⟨vs,f,F _ _ g⟩
 have M:∀(vs:List aj) (cs:List E1),gN σ s vs cs->gN σ' s vs cs:=by
  intro vs;induction vs with
  |nil=>intro cs r;cases cs with|nil=>trivial|cons _ _=>exact r.elim
  |cons v vs ih=>intro cs r;cases cs with|nil=>exact r.elim|cons c cs=>exact⟨O _ _ r.1,ih _ r.2⟩
 have K:∀(v:aj) (d:D),dk σ s v d->dk σ' s v d:=by
  intro v d r;cases d with
  |e x=>exact O _ _ r
  |fK xs=>obtain⟨vs,f,g⟩:=r;exact⟨vs,f,M _ _ g⟩
  |any=>trivial
 refine⟨⟨J.mem,by rw[J.len,W],?_,J.fY,J.lt,J.own⟩,⟨ba _,λ_ _ _=>rfl,λ_ _ _ h=>h,λ_ _ _ _=>rfl,λL h b j=>.inr ⟨L,h,j⟩,?_,rfl,rfl,rfl,rfl⟩,K⟩
 .intro l B' L z U;obtain⟨B,u,m⟩:=get l B' z;have j:=J.box l B L u U;by_cases p:∃E k n es,B=bm.vec E k n es
  .obtain⟨E,k,n,es,rfl⟩:=p;obtain⟨es',rfl,he⟩:=m.1 _ _ _ _ rfl;refine⟨j.1.Dl he,?_⟩;rcases j.2 with⟨f,g⟩|f
   .exact .inl ⟨f,g.Dl he⟩
   grind
  .rcases(m.2 (λE k n es e=>p ⟨E,k,n,es,e⟩)).2 with rfl|⟨E,cs,I,rfl,rfl,S⟩|⟨E,k,n,es,es',rfl,rfl,S⟩
   .cases B with
    |cells E cs=>obtain⟨b,vs,f,g,y,C⟩:=j;exact⟨b,vs,f,g,F _ _ y,C⟩
    |vec E k n es=>grind
    |dg H=>exact j
    |dead=>trivial
    |loop N φ r=>obtain⟨l,tmps,fn,df,f,g,y,C,V⟩:=j;exact⟨l,tmps,fn,df,f,g,y,λt=>K _ _ (C t),V⟩
    |rG=>exact j
    |buf E k n es=>exact j
   .obtain⟨b,vs,f,g,y,C⟩:=j;exact⟨b,vs,f,g,F _ _ (S _ _ _ y),C⟩
   .rcases j with j|⟨b,c0,vs,zs,f,g,y,C,V,h6,h7⟩
    .exact .inl j
    .exact .inr ⟨b,c0,vs,zs,f,g,y,C,V,h6.Dl S,h7⟩
 .intro l B L u U;obtain⟨B',z,m⟩:=Q l B u;refine⟨B',L,z,U,?_⟩;by_cases p:∃E k n es,B=bm.vec E k n es
  .obtain⟨E,k,n,es,rfl⟩:=p;obtain⟨es',rfl,he⟩:=m.1 _ _ _ _ rfl;exact⟨λ_=>rfl,ba _⟩
  .rcases(m.2 (λE k n es e=>p ⟨E,k,n,es,e⟩)).2 with rfl|⟨E,cs,I,rfl,rfl,S⟩|⟨E,k,n,es,es',rfl,rfl,_⟩
   .exact hX.refl _ _
   .exact rfl
   .exact⟨λ_=>rfl,ba _⟩
section
variable {X:Cx P}
theorem AW.ghost{Q:Post}{φ':Fr}(h:∀s a,cx N σ s φ a->aF σ s->∃s':St,s'.w=s.w/\cx N σ' s' φ' a/\aF σ' s'/\Step σ s σ' s')(k:AW X N c Q φ' σ'):AW X N c Q φ σ:=by intro s a j hh b kk cs S hb hQ;obtain⟨s',m,g,f,st⟩:=h s a j hh;have d:=st.oe hh;refine .ghost (.of hh f m d) ?_;exact k s' a g f b kk cs S hb λe i σ2 s2 a2 q l h2 oq=>hQ e i σ2 s2 a2 q l h2 (d.trans oq)
theorem AK.ghost{φ':Fr}{σ':List bm}(h:∀s a,cx N σ s φ a->aF σ s->∃s':St,s'.w=s.w/\cx N σ' s' φ' a/\aF σ' s'/\Step σ s σ' s')(k:AK X N Qf (.code c::K) .normal φ' σ'):AK X N Qf (.code c::K) .normal φ σ :=
 AW.ghost h k
def cx.bs{a:Act}(hb:GX σ σ')(f:cx N σ s φ a)(hh:aF σ s):cx N σ' s φ a:=⟨f.size,f.defers.imp λ_ h1=>h1.mono (hb s hh).2.1.ext,λt=>(hb s hh).2.2 _ _ (f.slot t)⟩
def AK.norm(σ':List bm)(h:sV σ σ'=aa ps)(b:ar ps)(k:AK X N Qf (.code c::K) .normal φ σ'):AK X N Qf (.code c::K) .normal φ σ :=
 AK.ghost (λs a d hh=>⟨s,rfl,d.bs (mf h b) hh,(mf h b s hh).1,(mf h b s hh).2.1⟩) k
def AK.ik(t:Nat)(E:av)(k:Nat){k':Nat}(i:look φ t=.e (.one (.c (.sl ab k' n es))))(g:n=0)(kk:AK X N Qf (.code c::K) .normal ((t,.e (.one (.vec σ.length k n es)))::φ) (σ++[.vec E k n es])):AK X N Qf (.code c::K) .normal φ σ:=by
 refine AK.ghost (λs a b hh=>?_) kk;have d:=b.slot t;rw[i]at d;have h1:=Rd.zf (k:=k') (k':=k) (.inr g) (fM d);have f:eQ (σ++[.vec E k n es]) {s with β:=s.β++[⟨a.tmps.getD t ai,[]⟩]} (.vec E k n es) ⟨a.tmps.getD t ai,[]⟩:=⟨h1.loose,.inl ⟨⟨rfl,g⟩,h1⟩⟩;obtain⟨h,g2⟩:=hh.hU (.refl _ _) rfl hh f (by simp)
 refine⟨{s with β:=s.β++[⟨a.tmps.getD t ai,[]⟩]},rfl,⟨b.size,b.defers.imp λ_ h1=>h1.mono g2.ext,λu=>?_⟩,h,g2⟩;simp only[look];cases hb:az t u with
 |false=>exact(b.slot u).mono g2.ext hh.len
 |true =>
  have e:=b5 hb;subst e;exact pJ (L:=⟨a.tmps.getD t ai,[]⟩) (by simp) (by simp[<-hh.len]) f
def AK.jf{S:Type}(I:S->Prop)(fr:S->Fr)(st:S->List bm)(j:S->Nat)(x:S){qs:List Prop}(t:qm φ (fr x)=aa ps)(F:ar ps)(l:sV σ (st x)=aa qs)(E:ar qs)(C:I x)(round:∀x,I x->AK X N (λe φ' σ'=>match e with
   |.normal=>∃y,I y/\j y<j x/\rY φ' (fr y)/\GX σ' (st y)
   |e=>AK X N Qf K e φ' σ') [.code c] .normal (fr x) (st x)):AK X N Qf (.code (.loop c)::K) .normal φ σ:=by
 intro s a G hh b kk cs SS hb hQ;have h:=mf l E;obtain⟨o,p,_⟩:=h s hh;refine wc (λn a' s'=>∃y,I y/\cx N (st y) s' (fr y) a'/\aF (st y) s'/\cO σ s (st y) s'/\j y=n) ?_ ?_ ⟨x,C,(G.le (dw t F)).bs h hh,o,p.oe hh,rfl⟩
 .rintro n a' s' ⟨y,v,m,g,d,e⟩;exact⟨st y,g,λH h1=>⟨y,v,m.rely h1 g,g.rely h1,d.trans h1.stepW,e⟩⟩
 rintro n a' s' ⟨y,v,m,g,d,rfl⟩ B;refine round y v s' a' m g b (.inLoop c::kk) cs SS hb ?_;intro e A σ2 s2 a2 q w h2 oq;cases e with
 |normal =>
  obtain⟨z,D,k,i,f⟩:=q;obtain⟨r,u,_⟩:=f s2 h2;exact B a2 s2 (j z) k ⟨z,D,(w.le i).bs f h2,r,d.trans (oq.trans (u.oe h2)),rfl⟩
 |_=>exact ends.cons (λ_ _=>rfl) (by simp) (hQ _ _ _ _ _ q w h2 (d.trans oq))
def AK.fH{S:Type}{I:S->Prop}{fr:S->Fr}{st:S->List bm}{a:S->Nat}{x:S}{Qr:Post}(y:S){qs:List Prop}(d:qm φ (fr y)=aa ps)(h:ar ps)(b:sV σ (st y)=aa qs)(g:ar qs)(f:I y)(c:a y<a x):
  AK X N (λe φ' σ'=>match e with
   |.normal=>∃y,I y/\a y<a x/\rY φ' (fr y)/\GX σ' (st y)
   |e=>Qr e φ' σ') [] .normal φ σ:=⟨y,f,c,dw d h,mf b g⟩
end
def Ev.forget{X:Cx P}{f:aM}{args:List D}{res res':D}(h:Ev X f args [] res σ')(e:Dg res res'=aa ps)(i:ar ps)(a:vt 0 res'=ab):Ev X f args [] res' []:=by
 refine⟨h.1,λs vs hr hh S cs hS=>h.2 s vs hr hh S cs λfr v c hl hv h1 st=>?_⟩
 have j:s.β=[]:=iV hh.len;have g:eR c {c with β:=[]}:=⟨rfl,λ_ _ _ h=>h,λ_ _ _=>rfl,h1.mem,λb hb=>.inl (by grind)⟩
 refine .ghost g (hS fr v {c with β:=[]} (hl.mono λ_ _ _ h=>h) ?_ ⟨h1.mem,rfl,by simp,by simp,by simp,λb hb=>⟨(h1.own b hb).1,by simp⟩⟩ ⟨st.size,st.keep,st.mem,st.iI,by simp,λl B L k=>by grind,st.os,st.tape,st.output,st.own⟩)
 .have h2:=qI e i hv;have:=dk.sub (ks:=[]) (σ:=σ') (σ':=[]) (s:=c) (β':=[]) (d:=res') rfl rfl (by rw[BD a];exact h2) a;exact this
section drop
variable {σ1 rest:List bm}
def S7(n:Nat):bm->Bool
  | .cells _ cs=>Fp n cs
  | .loop ..=>ae
  | _=>ab
def xN(n:Nat):List bm->Bool
  | []=>ab
  | a::r=>match S7 n a with|true=>xN n r|false=>ae
def BE{n:Nat}:∀{l:List bm},xN n l=ab->∀B∈l,S7 n B=ab
  | [],_,B,a=>by grind
  | b::r,h,B,a=>by
    simp only[xN]at h;cases c:S7 n b with
    | false=>grind
    | true =>
      simp only[c]at h;rcases eY.1 a with rfl|a
      · exact c
      · exact BE h B a
def eQ.tO{B:bm}{L:Loc}(a:S7 σ1.length B=ab)(h:eQ (σ1++rest) s B L):eQ σ1 (s.cut σ1.length) B L:=by
  cases B with
  | cells E cs =>
    obtain⟨b,vs,h1,h2,d,c⟩:=h;exact⟨b,vs,h1,h2,dT.xK d a,c⟩
  | vec E k n es=>exact h
  | dg H=>exact h
  | dead=>trivial
  | loop N φ r=>simp[S7]at a
  | rG=>exact h
  | buf E k n es=>exact h
def aF.drop(h:aF (σ1++rest) s)(f:xN σ1.length σ1=ab):aF σ1 (s.cut σ1.length):=by
  have hl:σ1.length<=s.β.length:=by rw[h.len];simp
  refine⟨h.mem,by simp[St.cut,hl],?_,?_,?_,λb hb=>⟨(h.own b hb).1,λL a=>(h.own b hb).2 L (jR a)⟩⟩
  · intro l B L e a
    have d:l<σ1.length:=(cf.1 e).1;simp only[St.cut,eK,d,bY]at a;exact eQ.tO (rest:=rest) (BE f B (bL e)) (h.box l B L (by grind) a)
  · intro l l' L L' a c b hb oB
    simp only[St.cut,eK]at a c;split at a<;>split at c<;>first|exact h.fY l l' L L' a c b hb oB|grind|grind
  · intro L a b hb
    exact h.lt L (jR a) b hb
def ov.drop(a:mU rest=ab):∀{ds:List Deferred} {ls:List Nat},ov (σ1++rest) s ds ls->ov σ1 (s.cut σ1.length) ds ls
  | [],[],_=>trivial
  | [],_::_,r=>r.elim
  | _::_,[],r=>r.elim
  | d::ds,l::ls,⟨⟨h1,L,r,h2,e⟩,b,c⟩=>by
    have hl:l<σ1.length:=by
      rcases cM l σ1.length with h|h
      · exact h
      · rw[fR h]at h1
        exact absurd rfl (mV a _ (bL h1))
    rw[iE hl]at h1;exact⟨⟨h1,L,r,by simp only[St.cut,eK,hl,bY];exact h2,e⟩,b,ov.drop a c⟩
def zP(n:Nat)(σ:List bm):Bool:=match bC n σ.length with|true=>mU (σ.drop n)|false=>ae
theorem yg(h:zP n σ=ab):bC n σ.length=ab/\mU (σ.drop n)=ab:=by unfold zP at h;grind
end drop
def GY(n:Nat):Fr->Bool
  | []=>ab
  | (_,d)::r=>match vt n d with|true=>GY n r|false=>ae
def pW{n:Nat}:∀{φ:Fr} {t:Nat},GY n φ=ab->vt n (look φ t)=ab
  | [],t,_=>rfl
  | (u,d)::r,t,h=>by
    simp only[GY]at h;cases a:vt n d with
    | false=>grind
    | true =>
      simp only[a]at h;simp only[look];cases az u t with
      | true=>exact a
      | false=>exact pW h
section
variable {X:Cx P}
def lK{S:Type}(X:Cx P)(N:Nat)(Qf:Post)(K:List It)(I:S->Prop)(a:S->Fr)(st:S->List bm)(b:S->Nat)(n:Nat)(x:S):Post:=λe φ' σ'=>match e with
  | .normal=>∃y,I y/\b y<b x/\rY φ' (a y)/\GY n (a y)=ab/\∃σ1 rest,σ'=σ1++rest/\σ1.length=n/\(xN n σ1=ab/\mU rest=ab)/\GX σ1 (st y)
  | e=>AK X N Qf K e φ' σ'
def AK.bS{S:Type}(n:Nat)(I:S->Prop)(fr:S->Fr)(st:S->List bm)(B:S->Nat)(x:S){qs:List Prop}(A:qm φ (fr x)=aa ps)(U:ar ps)(o:sV σ (st x)=aa qs)(T:ar qs)(hn:σ.length=n)(M:I x)(round:∀x,I x->AK X N (lK X N Qf K I fr st B n x) [.code c] .normal (fr x) (st x)):AK X N Qf (.code (.loop c)::K) .normal φ σ:=by
  intro s a Y hh b kk cs SS hb hQ;have i:=mf o T;obtain⟨v,w,_⟩:=i s hh;refine wc (λm a' s'=>∃y,I y/\cx N (st y) s' (fr y) a'/\aF (st y) s'/\cO σ s (st y) s'/\B y=m) ?_ ?_ ⟨x,M,(Y.le (dw A U)).bs i hh,v,w.oe hh,rfl⟩
  · rintro n a' s' ⟨y,E,r,f,d,e⟩
    exact⟨st y,f,λs1 h1=>⟨y,E,r.rely h1 f,f.rely h1,d.trans h1.stepW,e⟩⟩
  rintro m a' s' ⟨y,E,r,f,d,rfl⟩ J;refine round y E s' a' r f b (.inLoop c::kk) cs SS hb ?_;intro e H σ2 s2 a2 q F h2 oq;cases e with
  | normal =>
    obtain⟨z,Q,k,j,R,σ1,rest,rfl,O,⟨V,C⟩,u⟩:=q;have G:=h2.drop (by grind);obtain⟨l,g,D⟩:=u _ G;have p:=F.le j;have Z:eR s2 (s2.cut σ1.length):=⟨rfl,λ_ _ _ h=>h,λ_ _ _=>rfl,h2.mem,λb hb=>hb.imp id λ⟨L,W,hb⟩=>⟨L,jR W,hb⟩⟩
    refine .ghost Z (J a2 (s2.cut σ1.length) (B z) k ⟨z,Q,⟨p.size,p.defers.imp λ_ h1=>(h1.drop C).mono g.ext,λt=>D _ _ ((p.slot t).drop (pW (by grind)))⟩,l,?_,rfl⟩);exact((d.trans oq).drop (by omega)).trans (g.oe G)
  | _=>exact ends.cons (λ_ _=>rfl) (by simp) (hQ _ _ _ _ _ q F h2 (d.trans oq))
def AK.Qa{S:Type}{I:S->Prop}{fr:S->Fr}{st:S->List bm}{g:S->Nat}{x:S}{h:List It}(y:S){qs:List Prop}(f:qm φ (fr y)=aa ps)(k:ar ps)(c:GY n (fr y)=ab)(d:zP n σ=ab)(b:sV (σ.take n) (st y)=aa qs)(j:ar qs)(a:xN n (σ.take n)=ab)(i:I y)(e:g y<g x):
    AK X N (lK X N Qf h I fr st g n x) [] .normal φ σ :=
  ⟨y,i,e,dw f k,c,σ.take n,σ.drop n,(jm n σ).symm,by grind[Nat.le_of_ble_eq_true,yg],⟨a,(yg d).2⟩,mf b j⟩
def AK.aQ{S:Type}{n:Nat}{I:S->Prop}{fr:S->Fr}{st:S->List bm}{b:S->Nat}{x:S}{c:List It}(y:S){ps qs:List Prop}(h:(qm φ (fr y),GY n (fr y),zP n σ,sV (σ.take n) (st y),xN n (σ.take n))=(aa ps,ab,ab,aa qs,ab))(f:ar ps)(e:ar qs)(d:I y)(a:b y<b x):
    AK X N (lK X N Qf c I fr st b n x) [] .normal φ σ:=by simp only[lu]at h;exact AK.Qa y h.1 f h.2.1 h.2.2.1 h.2.2.2.1 e h.2.2.2.2 d a
def AK.leaveD{S:Type}{I:S->Prop}{fr:S->Fr}{st:S->List bm}{b:S->Nat}{x:S}{id:Nat}{c a d:List It}(h1:kD id c=af)(h2:kD id a=aa d)(k:AK X N Qf d .normal φ σ):
    AK X N (lK X N Qf a I fr st b n x) (.code (.exit id)::c) .normal φ σ :=
  AW.mono (AK.leave (A:=λφ' σ'=>lK X N Qf a I fr st b n x .normal φ' σ') h1 h2 k) λe φ' σ' q=>by
    have key:∀(K:List It) e,AK X N (λe φ' σ'=>match e with
        | .normal=>lK X N Qf a I fr st b n x .normal φ' σ'
        | e=>AK X N Qf a e φ' σ') K e φ' σ'->AK X N (lK X N Qf a I fr st b n x) K e φ' σ':=by
      have e:(λe φ' σ'=>match e with
        | .normal=>lK X N Qf a I fr st b n x .normal φ' σ'
        | e=>AK X N Qf a e φ' σ')=lK X N Qf a I fr st b n x:=by funext e φ' σ';cases e<;>rfl
      grind
    exact key _ _ q
def AK.eP{S:Type}{I:S->Prop}{fr:S->Fr}{st:S->List bm}{c:S->Nat}{x:S}{b a:List It}(k:Qf .ret φ σ):AK X N (lK X N Qf a I fr st c n x) (.code .ret::b) .normal φ σ :=
  AK.ret (AK.rX (Qf:=Qf) k)
theorem cx.freeze(t l:Nat){cs:List A}{cc:List C}(y:look φ t=.e (.one (.ptr l 0)))(hl:eB l σ=aa (.cells E cs))(F:gU cs=aa cc){a:Act}(g:cx N σ s φ a)(hh:aF σ s):∃s':St,s'.w=s.w/\cx N (σ.set l .dead) s' ((t,.e (.one (.c (.rp cc))))::φ) a/\aF (σ.set l .dead) s'/\Step σ s (σ.set l .dead) s':=by
  have m:=cU hl;have i:l<σ.length:=(cf.1 m).1;have p:=g.slot t;rw[y]at p;obtain⟨_,L,b,k,f,D⟩:=p;obtain⟨d,vs,h1,h2,z,H⟩:=hh.box l _ L m k;subst h1;simp at f;subst f;let s':St:={s with M:=λq o=>if q=d then vs[o]? else s.M q o}
  have st:Step σ s (σ.set l .dead) s':=by
    refine⟨ba _,λ_ _ _=>rfl,?_,?_,λL h b hb=>.inr ⟨L,h,hb⟩,?_,rfl,rfl,rfl,rfl⟩
    · grind
    · intro b hb hn o
      have n:b≠d:=λe=>hn _ (bL k) (by simp[e]);grind
    · intro l' B L' lW gh
      by_cases e:l=l'
      · subst e
        rw[m]at lW;cases lW;exact⟨.dead,L',by grind,gh,rfl⟩
      · exact⟨B,L',by grind,gh,.refl _ _⟩
  refine⟨s',rfl,⟨g.size,g.defers.imp λ_ h1=>h1.mono st.ext,λu=>?_⟩,⟨?_,by simp[hh.len,s'],?_,hh.fY,hh.lt,hh.own⟩,st⟩
  · simp only[look]
    cases hb:az t u with
    | false=>exact(g.slot u).mono st.ext hh.len
    | true =>
      have e:=b5 hb;subst e;rw[D];have x:=lj F z;refine Rd.rp d 0 (λj=>(vs[j]?).getD ai) ?_ ?_
      · intro j c hj
        obtain⟨v,r,_⟩:=x.get (j:=j) (a:=.c c) (by grind);grind
      · intro j c hj
        obtain⟨v,r,p2⟩:=x.get (j:=j) (a:=.c c) (by grind);simp only[r,gx];exact Rd.mono st.mem p2
  · intro b o v hm
    by_cases e:b=d
    · subst e
      have hm':vs[o]?=aa v:=by grind
      show s.w.cell? _=_;simp[aR,h2,hm']
    · exact hh.mem b o v (by grind)
  · intro l' B L' lW gh
    by_cases e:l=l'
    · subst e
      rw[gw i]at lW;cases lW;trivial
    · rw[kM e]at lW
      refine(hh.box l' B L' lW gh).carry st.ext hh.len λb hb=>⟨rfl,λo=>?_⟩
      have n:b≠d:=λG=>e (hh.fY l l' _ L' k gh b (by grind) hb);grind
theorem AK.freeze(t l:Nat){E:av}{cs:List A}{cc:List C}(b:look φ t=.e (.one (.ptr l 0)))(hl:eB l σ=aa (.cells E cs))(a:gU cs=aa cc)(kk:AK X N Qf (.code c::K) .normal ((t,.e (.one (.c (.rp cc))))::φ) (ee.sK l .dead σ)):AK X N Qf (.code c::K) .normal φ σ:=by grind[k8,AK.ghost,cx.freeze]
def AK.one{rest:List aD}{x:D}(h:OA X N all o φ σ x σ')(a:gm N o.dst=ab)(k:AK X N Qf (.ops all rest::K) .normal (kO o.dst x φ) σ'):AK X N Qf (.ops all (o::rest)::K) .normal φ σ :=
  jl.zQ h (gM a) k
end
structure DW(d:TypeDesc)(es:Array MapEntry)(k:aj)(a:Option (Nat×aj)):Prop where
 key:MapKept.IsKey d k
 now:Instr.findNow d k es.toList 0=aa a
 no:a=af->∀e∈es.toList,e.key≠k
 yes:∀j v,a=aa (j,v)->∃e,es[j]?=aa e/\e.key=k/\e.val=v
def yi{d:TypeDesc}{es:Array MapEntry}{k:aj}(b:MapKept.IsKey d k)(h:∀e∈es.toList,MapKept.IsKey d e.key):∃a,DW d es k a:=by
 rcases MapKept.findNow_spec b es.toList 0 h with⟨g,i⟩|⟨j,e,g,i,m⟩
 .exact⟨af,b,g,λ_=>i,by simp⟩
 .refine⟨_,b,g,by simp,λn v l=>?_⟩;grind
section
variable {c f:av}{d:TypeDesc}{r:Nat}{es:Array MapEntry}{clock:Nat}{k:aj}{ok:Bool}
def FP(a:P.underlying c=aa d):(underlying c).run P w=.ok d w:=by simp[underlying,a]
def mg(e:P.underlying c=aa d)(a:MapKept.IsKey d k)(b:Bool)(evs:Array Event):(Instr.checkKey b 10000 c k).events P w evs=evs:=by show(Instr.checkKey b (9999+1) c k).events P w evs=evs;unfold Instr.checkKey;simp only[aP,FP e,aV,events_underlying];cases d<;>cases k<;>first|exact a.elim|simp
def nU{l:List MapEntry}{a:Option (Nat×aj)}(b:P.underlying c=aa d)(h:Instr.findNow d k l 0=aa a)(evs:Array Event):(Instr.findKey c k l).events P w evs=evs:=by simp[Instr.findKey,FP b,h]
def km(a:w.heap[r]?=aa (.map es clock))(evs:Array Event):(getObj r).events P w evs=evs.push ⟨.obj r,ae,ae⟩:=by simp only[getObj,Sem.events,Sem.runT,a];rfl
def qu(a:w.heap[r]?=aa (.map es clock)){es':Array MapEntry}{b:Nat}(evs:Array Event):(setObj r (.map es' b)).events P w evs=evs.push ⟨.obj r,ab,ae⟩:=by simp only[setObj,Sem.events,Sem.runT,a];rfl
def qv(e:P.underlying c=aa d)(a:MapKept.IsKey d k)(b:Bool):(Instr.checkKey b 10000 c k).run P w=.ok () w:=MapKept.run_checkKey e a b 9999
def tP(m:P.underlying t=aa (.map c f))(e:P.underlying c=aa d)(h:w.heap[r]?=aa (.map es clock)){a:Option (Nat×aj)}(g:DW d es k a){z:aj}(l:a=af->(zeroValue f).run P w=.ok z w):
  (Instr.lookup t (.map (aa r)) k ok).run P w=.ok (match a with
   |some (_,v)=>if ok=ab then .tuple #[v,.bool ab]else v
   |none=>if ok=ab then .tuple #[z,.bool ae]else z) w/\(Instr.lookup t (.map (aa r)) k ok).events P w #[]=#[⟨.obj r,ae,ae⟩]:=by
 have i:(underlying t).run P w=.ok (.map c f) w:=by simp[underlying,m]
 have j:=qv (w:=w) e g.key es.isEmpty;have b:(Instr.findKey c k es.toList).run P w=.ok a w:=MapKept.run_findKey e g.now;cases a with
 |some jv =>
  constructor
  .simp only[Instr.lookup,bU,i,cw,MapKept.run_getObj_map h,cY,j,b]
  .simp only[Instr.lookup,aP,i,aV,MapKept.run_getObj_map h,cY,Sem.events_pure,j,b,events_underlying,km h,mg e g.key,nU e g.now];rfl
 |none =>
  constructor
  .simp only[Instr.lookup,bU,i,cw,MapKept.run_getObj_map h,cY,j,b,l rfl]
  .simp only[Instr.lookup,aP,i,aV,MapKept.run_getObj_map h,cY,Sem.events_pure,j,b,events_underlying,km h,mg e g.key,nU e g.now,l rfl,events_zeroValue];rfl
def tQ(s:P.underlying t=aa (.map c f))(i:P.underlying c=aa d)(b:w.heap[r]?=aa (.map es clock)){a:Option (Nat×aj)}{x:aj}(h:DW d es k a):
  (Instr.mapUpdate t (.map (aa r)) k x).run P w=.ok () {w with heap:=w.heap.setIfInBounds r (match a with
   |some (j,_)=>.map (es.modify j λe=>{key:=k,val:=x,born:=e.born}) clock
   |none=>.map (es.push {key:=k,val:=x,born:=clock}) (clock+1))} /\
  (Instr.mapUpdate t (.map (aa r)) k x).events P w #[]=#[⟨.obj r,ae,ae⟩,⟨.obj r,ab,ae⟩]:=by
 have o:(underlying t).run P w=.ok (.map c f) w:=by simp[underlying,s]
 have p:=qv (w:=w) i h.key ae;have g:(Instr.findKey c k es.toList).run P w=.ok a w:=MapKept.run_findKey i h.now;cases a with
 |some jv =>
  obtain⟨j,v⟩:=jv;obtain⟨e,n,m,_⟩:=h.yes j v rfl;have l:(Instr.keyThatStays k k).run P w=.ok k w:=MapKept.run_keyThatStays h.key;have q:∀evs,(Instr.keyThatStays k k).events P w evs=evs:=λevs=>by simp[Instr.keyThatStays,MapKept.sameBits_self h.key]
  constructor
  .simp only[Instr.mapUpdate,bU,o,cw,MapKept.run_getObj_map b,p,g,n,mz,gx,m,l,MapKept.run_setObj_map _ b]
  .simp only[Instr.mapUpdate,aP,o,aV,MapKept.run_getObj_map b,p,g,n,mz,gx,m,l,q,events_underlying,km b,qu b,mg i h.key,nU i h.now];rfl
 |none =>
  constructor
  .simp only[Instr.mapUpdate,bU,o,cw,MapKept.run_getObj_map b,p,g,MapKept.run_setObj_map _ b]
  .simp only[Instr.mapUpdate,aP,o,aV,MapKept.run_getObj_map b,p,g,events_underlying,km b,qu b,mg i h.key,nU i h.now];rfl
end
def aF.jk(h:aF σ s){H H':aj->(Nat->Option Obj)->Prop}{L L':Loc}(x:σ[l]?=aa (.dg H))(t:s.β[l]?=aa L)(D:L'.v=L.v)(p:s.w.heap.size<=w'.heap.size)(z:∀b,b<s.w.heap.size->b∉L.bs->w'.heap[b]?=s.w.heap[b]?)(i:∀b∈L'.bs,b∈L.bs∨(s.w.heap.size<=b/\b<w'.heap.size))(hb:∃ch,H' L'.v ch/\(∀(b:Nat) (o:Obj),ch b=aa o->w'.heap[b]?=aa o)/\(∀b,b∈L'.bs↔(ch b).isSome=ab))(ho:w'.os=s.w.os)(C:w'.tape=s.w.tape)(K:w'.output=s.w.output):
  aF (σ.set l (.dg H')) ⟨s.β.set l L',s.M,w',s.own⟩/\Step σ s (σ.set l (.dg H')) ⟨s.β.set l L',s.M,w',s.own⟩:=by
 have u:l<σ.length:=(cf.1 x).1;have y:l<s.β.length:=by grind
 obtain⟨O,_,_,_,J⟩:=h.box l _ L x t;have n:∀b∈L'.bs,∀o,s.M b o=af:=by
  intro b j o;rcases i b j with h1|⟨h1,_⟩
  .grind
  .cases hm:s.M b o with
   |none=>rfl
   |some v=>have:=h.block hm;omega
 have st:Step σ s (σ.set l (.dg H')) ⟨s.β.set l L',s.M,w',s.own⟩:=by
  refine⟨p,?_,λ_ _ _ h=>h,λ_ _ _ _=>rfl,?_,?_,ho,C,K,rfl⟩
  .grind
  .grind
  .intro l' B a c f;by_cases e:l=l'
   .subst e;rw[x]at c;cases c;rw[t]at f;cases f;exact⟨.dg H',L',by grind,by grind,D⟩
   .exact⟨B,a,by grind,by grind,.refl _ _⟩
 have g:∀(l':Nat) (a:Loc),(s.β.set l L')[l']?=aa a->(l'=l/\a=L')∨(l≠l'/\s.β[l']?=aa a):=by grind
 refine⟨⟨?_,by simp[h.len],?_,?_,?_,?_⟩,st⟩
 .intro b o v hm;have G:=h.block hm;have E:b∉L.bs:=λm=>by grind
  rw[<-h.mem b o v hm];simp only[aR];grind
 .intro l' B a c f;rcases g l' a f with⟨rfl,rfl⟩|⟨e,h2⟩
  .rw[gw u]at c;cases c;obtain⟨ch,k1,A,F⟩:=hb;exact⟨ch,k1,A,F,n⟩
  .rw[kM e]at c;refine(h.box l' B a c h2).carry st.ext h.len λb j=>⟨z b (h.lt a (bL h2) b j) λm=>e (h.fY l l' L a t h2 b m j),λ_=>rfl⟩
 .intro N I L1 a h1 h2 b k d;rcases g N L1 h1 with⟨rfl,rfl⟩|⟨e1,q⟩<;>rcases g I a h2 with⟨rfl,rfl⟩|⟨e2,r⟩
  .rfl
  .rcases i b k with m|m
   .exact h.fY _ _ L a t r b m d
   .have:=h.lt a (bL r) b d;omega
  .rcases i b d with m|m
   .exact h.fY _ _ L1 L q t b k m
   .have:=h.lt L1 (bL q) b k;omega
  .exact h.fY _ _ L1 a q r b k d
 .intro a f b d;rcases List.mem_or_eq_of_mem_set f with h1|h1
  .exact cA (h.lt a h1 b d) p
  .subst h1;rcases i b d with h2|h2
   .exact cA (h.lt L (bL t) b h2) p
   grind
 .intro b hb;obtain⟨P,Q⟩:=h.own b hb;grind
section
variable {H H':aj->(Nat->Option Obj)->Prop}
end
def cg.sW{fn:Func}{a:Nat}{res:D}(ks:List Nat)(h:zw fn.results.toList ks φ res=aa ps)(f:ar ps)(d:kh ks σ=aa σ')(b:kP σ'=ab)(e:dX ks=ab)(c:∀j,j<a->ks[j]?=aa j):
  cg fn a res σ' .normal φ σ:=by refine⟨.inr rfl,ks,?_⟩;unfold zw at h;grind
def AK.Pw{X:Cx P}{f:aM}{σ1:List bm}{res:D}(h:Ev X f cy σs res σ1)(ks:List Nat)(g:o.guard=af)(ho:o.op=.call {callee:=.value fo,args:=xs,argTypes:=jN})(j:eD (bO φ fo)=aa (f,cap))(a:oO (xs.toList.map (bO φ)++fX cap)=g6 ks cy)(e:mG ks.length cy=ab)(b:kh ks σ=aa σs)(m:cV σs=ab)(d:cV σ1=ab)(l:dX ks=ab)(c:bC ks.length σ1.length=ab)(i:gm N o.dst=ab)(k:AK X N Qf (.ops all rest::K) .normal (kO o.dst (iL (ks++l0 σ.length (σ1.length-ks.length)) res) φ) (ee ks σ1 σ)):AK X N Qf (.ops all (o::rest)::K) .normal φ σ :=
 jl.call (λ_ _ _ _=>dD g) ho j ks h a e b m d l (ez c) o.dst rfl (gM i) k
def AK.Ml{X:Cx P}{f:aM}(h:dW X f cy σs res σ1)(ks:List Nat)(g:o.guard=af)(ho:o.op=.call {callee:=.value fo,args:=xs,argTypes:=jN})(l:eD (bO φ fo)=aa (f,cap))(a:oO (xs.toList.map (bO φ)++fX cap)=g6 ks cy)(e:mG ks.length cy=ab)(b:kh ks σ=aa σs)(n:cV σs=ab)(d:∀j,cV (σ1 j)=ab)(m:dX ks=ab)(c:∀j,bC ks.length (σ1 j).length=ab)(i:gm N o.dst=ab)(k:∀j,AK X N Qf (.ops all rest::K) .normal (kO o.dst (iL (ks++l0 σ.length ((σ1 j).length-ks.length)) (res j)) φ) (ee ks (σ1 j) σ)):AK X N Qf (.ops all (o::rest)::K) .normal φ σ :=
 jl.Ox (λ_ _ _ _=>dD g) ho l ks h a e b n d m (λj=>ez (c j)) o.dst rfl (gM i) k
def AK.cQ{P:aK}{X:Cx P}{N:Nat}{Qf:Post}{K:List It}{φ:Fr}{σ:List bm}{all rest:List aD}{o:aD}{fo:aE}{xs:Array aE}{jN:Array av}{f:aM}{cap:List C}{cy:List D}{σs σ1:List bm}{res:D}(n:Ev X f cy σs res σ1)(ks:List Nat)(h:(o.guard,o.op,eD (bO φ fo),oO (xs.toList.map (bO φ)++fX cap),mG ks.length cy,kh ks σ,cV σs,cV σ1,dX ks,bC ks.length σ1.length,gm N o.dst)=(af,.call {callee:=.value fo,args:=xs,argTypes:=jN},aa (f,cap),g6 ks cy,ab,aa σs,ab,ab,ab,ab,ab))(k:AK X N Qf (.ops all rest::K) .normal (kO o.dst (iL (ks++l0 σ.length (σ1.length-ks.length)) res) φ) (ee ks σ1 σ)):AK X N Qf (.ops all (o::rest)::K) .normal φ σ:=by simp only[lu]at h;obtain⟨a,b,c,d,e,f,g,i,j,l,m⟩:=h;exact AK.Pw n ks a b c d e f g i j l m k
def AK.cP{P:aK}{ι:Type}{X:Cx P}{N:Nat}{Qf:Post}{K:List It}{φ:Fr}{σ:List bm}{all rest:List aD}{o:aD}{fo:aE}{xs:Array aE}{jN:Array av}{f:aM}{cap:List C}{cy:List D}{σs:List bm}{σ1:ι->List bm}{res:ι->D}(i:dW X f cy σs res σ1)(ks:List Nat)(h:(o.guard,o.op,eD (bO φ fo),oO (xs.toList.map (bO φ)++fX cap),mG ks.length cy,kh ks σ,cV σs,dX ks,gm N o.dst)=(af,.call {callee:=.value fo,args:=xs,argTypes:=jN},aa (f,cap),g6 ks cy,ab,aa σs,ab,ab,ab))(q:∀j,(cV (σ1 j),bC ks.length (σ1 j).length)=(ab,ab))(k:∀j,AK X N Qf (.ops all rest::K) .normal (kO o.dst (iL (ks++l0 σ.length ((σ1 j).length-ks.length)) (res j)) φ) (ee ks (σ1 j) σ)):AK X N Qf (.ops all (o::rest)::K) .normal φ σ:=by simp only[lu]at h q;obtain⟨a,b,c,d,e,f,g,j,m⟩:=h;exact AK.Ml i ks a b c d e f g (λj=>(q j).1) j (λj=>(q j).2) m k
def uk:List D->List D->Option (List Prop)
 |[],[]=>aa []
 |a::al,b::bs=>match Dg a b with
  |some p=>match uk al bs with
   |some q=>aa (jY p q)
   |none=>af
  |none=>af
 |_,_=>af
def rC{σ:List bm}{s:St}:∀{vs:List aj}{xs ys:List D}{ps:List Prop},uk xs ys=aa ps->ar ps->cn σ s vs xs->cn σ s vs ys
 |[],[],[],_,_,_,_=>trivial
 |_::_,[],_,_,_,_,h=>h.elim
 |[],_::_,_,_,_,_,h=>h.elim
 |[],[],_::_,_,h,_,_=>by simp[uk]at h
 |_::_,_::_,[],_,h,_,_=>by simp[uk]at h
 |v::vs,a::al,b::bs,ps,h,c,e=>by
  simp only[uk]at h;cases f:Dg a b with
  |none=>grind
  |some p =>
   cases d:uk al bs with
   |none=>grind
   |some q =>
    simp[f,d]at h;subst h;rw[ar.cat]at c;exact⟨qI f c.1 e.1,rC d c.2 e.2⟩
def AK.pO{X:Cx P}{f:aM}(i:dW X f cy σs res σ1)(ks:List Nat)(g:o.guard=af)(ho:o.op=.call {callee:=.value fo,args:=xs,argTypes:=jN})(n:eD (bO φ fo)=aa (f,cap))(a:uk (xs.toList.map (bO φ)++fX cap) (g6 ks cy)=aa ps)(l:ar ps)(e:mG ks.length cy=ab)(b:kh ks σ=aa σs)(q:cV σs=ab)(d:∀j,cV (σ1 j)=ab)(p:dX ks=ab)(c:∀j,bC ks.length (σ1 j).length=ab)(m:gm N o.dst=ab)(k:∀j,AK X N Qf (.ops all rest::K) .normal (kO o.dst (iL (ks++l0 σ.length ((σ1 j).length-ks.length)) (res j)) φ) (ee ks (σ1 j) σ)):AK X N Qf (.ops all (o::rest)::K) .normal φ σ :=
 jl.Ft (λ_ _ _ _=>dD g) ho n ks i (λs vs h=>rC a l h) e b q d p (λj=>ez (c j)) o.dst rfl (gM m) k
def Jd{a:Act}{d:Nat}(h:d<a.tmps.size):(a.put (aa d) v).tmps.getD d ai=v:=by simp[Act.put,dK,vj h]
def lB{f:aM}{fn:Func}{e:Array aj->Sem aj}(c:P.funcs[f]?=aa fn)(a:(fn.name== "runtime.NumGoroutine")=ae)(d:fn.body.isNone=ab)(i:Extern.findNext fn=af)(h:Extern.find fn=aa e)(args:Array aj)(b:c9 P (e args))(w:aA)(es:Array Event):
  (callFunc f args).events P w es=es.push ⟨.mark (.extern f),ae,ab⟩:=by
 have j:fn.name≠ "runtime.NumGoroutine":=by grind
 have g:fn.body=af:=by simpa using d
 simp[callFunc,c,j,g,i,h];rw[b w]
section
variable {X:Cx P}
def tG(P:aK)(N:Nat)(o:aD)(φ:Fr)(σ:List bm)(x:ι->D)(σ':ι->List bm):Prop :=
 ∀s a,cx N σ s φ a->aF σ s->∃i b s' v,(an a.eval o).run P s.w=.ok b s'.w/\(b=.value v∨(b=.skip/\v=ai))/\dk (σ' i) s' v (x i)/\aF (σ' i) s'/\Step σ s (σ' i) s'/\eN s ((an a.eval o).events P s.w #[])
def AK.hand(x:ι->D)(σ':ι->List bm)(u:o.guard=af)(p:gm N o.dst=ab)(h:tG P N o φ σ x σ')(k:∀i,AK X N Qf (.ops all rest::K) .normal (kO o.dst (x i) φ) (σ' i)):AK X N Qf (.ops all (o::rest)::K) .normal φ σ:=by
 intro s a f hh b kk cs S idx hb ia hQ;cases idx with
 |nil=>exact ia.elim
 |cons j idx =>
 refine DQ hb ia.1 (dD u) λz d=>?_;have c:=hh.rely d;have e:=f.rely d hh;obtain⟨i,y,s',v,h1,h2,r,n,m,A⟩:=h z a e c;have l:=m.oe c;refine⟨y,s',v,h1,h2,⟨⟨σ,σ' i,c,n,m⟩,A⟩,?_⟩;refine k i s' _ ?_ n b kk cs S idx hb ia.2 λg σ2 s2 a2 q w h2 st=>hQ g σ2 s2 a2 q w h2 ((d.stepW.trans l).trans st);cases B:o.dst with
 |none=>exact e.mono l c.len
 |some t=>exact(e.mono l c.len).put (gM p t B) r
def AK.law{x:D}(h:bF P o (bO φ) σ x σ')(a:o.guard=af)(b:gm N o.dst=ab)(k:AK X N Qf (.ops all rest::K) .normal (kO o.dst x φ) σ'):AK X N Qf (.ops all (o::rest)::K) .normal φ σ :=
 AK.one (.mN (λ_ _ _ _=>dD a) h) b k
def Bw(all:List aD)(φ:Fr)(o:aD):Bool:=match o.guard with
 |none=>ab
 |some (j,b)=>match zG φ all j with
  |some (aa ab)=>b
  |some (aa ae)=>!b
  |_=>ae
def Je(h:Bw all φ o=ab):∀σ s a,cx N σ s φ a->a9 o (yielded all.toArray a.tmps)=ab:=by
 intro σ s a f;unfold Bw at h;split at h
 .grind [dD]
 .rename_i j b d;split at h
  .rename_i c;simp only[a9,d,pT c f,h];rfl
  .rename_i c;simp only[a9,d,pT c f];grind
  grind
end
inductive AY where
 |nil (a:Option Addr)
 |row (b cap:Nat)
def AZ(bf:AY)(n:Nat):aj:=match bf with
 |.nil a=>.slice a 0 0
 |.row b cap=>.slice (aa ⟨b,0,af⟩) n cap
def Mh(xs:List aj):Nat->List C:=λi=>[.val (xs.getD i ai)]
section
variable {X:Cx P}
def AW.Dt{Q:Post}{φ':ι->Fr}{σ':ι->List bm}(h:∀s a,cx N σ s φ a->aF σ s->∃(i:ι)(s':St),s'.w=s.w/\cx N (σ' i) s' (φ' i) a/\aF (σ' i) s'/\Step σ s (σ' i) s')(k:∀i,AW X N c Q (φ' i) (σ' i)):AW X N c Q φ σ:=by intro s a l hh b kk cs S hb hQ;obtain⟨i,s',n,g,f,st⟩:=h s a l hh;have d:=st.oe hh;refine .ghost (.of hh f n d) ?_;exact k i s' a g f b kk cs S hb λe j σ2 s2 a2 q m h2 oq=>hQ e j σ2 s2 a2 q m h2 (d.trans oq)
def AK.Vm(l:Nat){B:bm}(B':ι->bm)(hl:σ[l]?=aa B)(h:∀s L,eQ σ s B L->∃i,(∀σ',eQ σ' s (B' i) L)/\hX B L (B' i) L)(kk:∀i,AK X N Qf (.code c::K) .normal φ (σ.set l (B' i))):AK X N Qf (.code c::K) .normal φ σ:=by
 refine AW.Dt (φ':=λ_=>φ) (σ':=λi=>σ.set l (B' i)) (λs a j hh=>?_) kk;have g:l<σ.length:=(cf.1 hl).1;have f:l<s.β.length:=by rw[hh.len];grind
 have d:=bn f;generalize s.β[l]=L at d;obtain⟨i,hi,k⟩:=h s L (hh.box l _ L hl d);have ex:Ext σ s (σ.set l (B' i)) s:=by
  refine⟨λ_ _ _ h=>h,λl' B2 L' lW gh=>?_⟩;by_cases e:l=l'
  .subst e;rw[hl]at lW;cases lW;rw[d]at gh;cases gh;exact⟨B' i,_,by grind,d,k⟩
  .exact⟨B2,L',by grind,gh,.refl _ _⟩
 have st:Step σ s (σ.set l (B' i)) s :=
  ⟨ba _,λ_ _ _=>rfl,λ_ _ _ h=>h,λ_ _ _ _=>rfl,λL h b hb=>.inr ⟨L,h,hb⟩,ex.box,rfl,rfl,rfl,rfl⟩
 refine⟨i,s,rfl,⟨j.size,j.defers.imp λ_ h1=>h1.mono st.ext,λu=>(j.slot u).mono st.ext hh.len⟩,⟨hh.mem,by simp[hh.len],?_,hh.fY,hh.lt,hh.own⟩,st⟩;intro l' B2 L' lW gh;by_cases e:l=l'
 .subst e;rw[gw g]at lW;cases lW;rw[d]at gh;cases gh;exact hi _
 .rw[kM e]at lW;exact(hh.box l' B2 L' lW gh).carry ex hh.len λ_ _=>⟨rfl,λ_=>rfl⟩
def AK.Ov(l:Nat){E:Nat}(es':Nat->List C)(hl:σ[l]?=aa (.buf E k n es))(q:∀i,i<n->(es' i).length=k)(h:∀(M:Mem) (i:Nat),i<n->∀(j:Nat) a,(es' i)[j]?=aa a->∃c,(es i)[j]?=aa c/\∀v,Rd M v c->Rd M v a)(kk:AK X N Qf (.code c::K) .normal φ (σ.set l (.buf E k n es'))):AK X N Qf (.code c::K) .normal φ σ:=by
 refine AK.Vm (ι:=Unit) l (λ_=>.buf E k n es') hl (λs L hb=>⟨(),λσ'=>?_,λ_=>rfl,ba _⟩) λ_=>kk;rcases hb with f|⟨b,x,vs,u,h1,h2,g,t,m,e,o⟩
 .exact .inl f
 .refine .inr ⟨b,x,vs,u,h1,h2,g,t,m,⟨e.len,q,λi hi j a hj=>?_⟩,o⟩;obtain⟨c,r,w⟩:=h s.M i hi j a hj;obtain⟨v,p,d⟩:=e.rd i hi j c r;exact⟨v,p,w v d⟩
end
def A5:C->Bool
 |.int _ _|.bool _|.str _|.oK|.oN|.zm|.val _=>ab
 |_=>ae
def vo:A->Bool
 |.c x=>A5 x
 |.any=>ab
 |_=>ae
def Me:List A->Bool
 |[]=>ab
 |a::r=>match vo a with|true=>Me r|false=>ae
def Ix:E1->Bool
 |.one a=>vo a
 |.agg cs=>Me cs
def Fi:List E1->Bool
 |[]=>ab
 |a::r=>match Ix a with|true=>Fi r|false=>ae
def Mf:D->Bool
 |.e x=>Ix x
 |.fK xs=>Fi xs
 |.any=>ab
section
theorem uT{M':Mem}{c:C}(h:A5 c=ab)(r:Rd M v c):Rd M' v c:=by
 cases r<;>first|(simp[A5]at h;done)|skip
 case int h1=>exact .int h1
 case bool=>exact .bool
 case str h1 h2=>exact .str h1 h2
 case oK=>exact .oK
 case oN=>exact .oN
 case zm=>exact .zm
 case val h1=>exact .val h1
def Fj{a:A}(h:vo a=ab)(r:gD σ s v a):gD σ' s' v a:=by
 cases a with
 |c x=>exact uT h r
 |any=>exact r
 |_=>simp[vo]at h
def Fl:∀{vs:List aj}{cs:List A},Me cs=ab->dT σ s vs cs->dT σ' s' vs cs
 |[],[],_,_=>trivial
 |[],_::_,_,r=>r.elim
 |_::_,[],_,r=>r.elim
 |v::vs,c::cs,h,r=>by
  simp only[Me]at h;cases a:vo c with
  |false=>grind
  |true=>simp only[a]at h;exact⟨Fj a r.1,Fl h r.2⟩
def zn{x:E1}(h:Ix x=ab)(r:nq σ s v x):nq σ' s' v x:=by
 cases x with
 |one a=>exact Fj h r
 |agg cs=>obtain⟨vs,c,b⟩:=r;exact⟨vs,c,Fl h b⟩
def A6:∀{vs:List aj}{cs:List E1},Fi cs=ab->gN σ s vs cs->gN σ' s' vs cs
 |[],[],_,_=>trivial
 |[],_::_,_,r=>r.elim
 |_::_,[],_,r=>r.elim
 |v::vs,c::cs,h,r=>by
  simp only[Fi]at h;cases a:Ix c with
  |false=>grind
  |true=>simp only[a]at h;exact⟨zn a r.1,A6 h r.2⟩
def Mg{d:D}(h:Mf d=ab)(r:dk σ s v d):dk σ' s' v d:=by
 cases d with
 |e x=>exact zn h r
 |fK xs=>obtain⟨vs,b,a⟩:=r;exact⟨vs,b,A6 h a⟩
 |any=>trivial
end
def A7:List bm->Bool
 |[]=>ab
 |.dg _::r=>A7 r
 |.dead::r=>A7 r
 |_=>ae
def A8:∀{l:List bm},A7 l=ab->∀B∈l,(∃H,B=.dg H)∨B=.dead
 |[],_,B,a=>by grind
 |b::r,h,B,a=>by
  have c:((∃H,b=.dg H)∨b=.dead)/\A7 r=ab:=by cases b<;>simp_all[A7]
  rcases eY.1 a with rfl|a
  .exact c.1
  .exact A8 c.2 B a
def jw(σ:List bm)(a:Nat)(u:aj)(k n:Nat)(es:Nat->List C):Prop :=
 ∀s,aF σ s->∃(L:Loc) (M':Mem),s.β[a]?=aa L/\(∀b o v,s.M b o=aa v->M' b o=aa v)/\(∀b,b∉L.bs->∀o,M' b o=s.M b o)/\(∀b o v,M' b o=aa v->s.w.cell? ⟨b,o,af⟩=aa v) /\
  (∀b∈L.bs,∀o,s.M b o=af)/\Rd M' u (.sl ae k n es)
section
variable {X:Cx P}
def cn.setAt{σ:List bm}{s:St}{d:D}:∀{vs:List aj}{ds:List D}{p:Nat}{v:aj},cn σ s vs ds->vs[p]?=aa v->dk σ s v d->cn σ s vs (ds.set p d)
 |[],[],_,_,_,h,_=>by grind
 |[],_::_,_,_,h,_,_=>h.elim
 |_::_,[],_,_,h,_,_=>h.elim
 |u::vs,e::ds,0,v,h,b,a=>by simp at b;subst b;exact⟨a,h.2⟩
 |u::vs,e::ds,p+1,v,h,b,a=>⟨h.1,cn.setAt (p:=p) h.2 (by grind) a⟩
def iQ(σ:List bm)(ds Fo:List D):Prop :=
 ∀s vs,aF σ s->cn σ s vs ds->∃(B:Nat->Prop) (M':Mem),(∀b,B b->∃L∈s.β,b∈L.bs)/\(∀b o v,s.M b o=aa v->M' b o=aa v)/\(∀b,¬B b->∀o,M' b o=s.M b o) /\
  (∀b o v,M' b o=aa v->s.w.cell? ⟨b,o,af⟩=aa v)/\(∀b,B b->∀o,s.M b o=af)/\cn σ {s with M:=M'} vs Fo
def iQ.refl(σ:List bm)(ds:List D):iQ σ ds ds:=λs vs hh hr=>⟨λ_=>False,s.M,λ_ h=>h.elim,λ_ _ _ h=>h,λ_ _ _=>rfl,hh.mem,λ_ h=>h.elim,hr⟩
def iQ.step{ds Fo:List D}(h:iQ σ ds Fo)(p x:Nat){u:aj}(y:Fo[p]?=aa (.e (.one (.v u))))(hl:jw σ x u k n es):iQ σ ds (Fo.set p (.e (.one (.c (.sl ae k n es))))):=by
 classical
 intro s vs hh hr;obtain⟨B,M1,F,z,J,A,C,j⟩:=h s vs hh hr;obtain⟨L,a,m,G,E,H,I,w⟩:=hl s hh;have h1:∀b o v,M1 b o=aa v->(M1 b o).or (a b o)=aa v:=λb o v d=>by grind
 have h2:∀b o v,a b o=aa v->(M1 b o).or (a b o)=aa v:=λb o v d=>by
  cases e:M1 b o with
  |none=>grind
  |some v' =>
   grind
 refine⟨λb=>B b∨b∈L.bs,λb o=>(M1 b o).or (a b o),?_,λb o v d=>h1 b o v (z b o v d),?_,?_,?_,?_⟩
 .grind
 .grind
 .intro b o v d;cases e:M1 b o with
  |none=>grind
  |some v'=>grind
 .grind
 .have e1:Ext σ {s with M:=M1} σ {s with M:=λb o=>(M1 b o).or (a b o)}:=⟨h1,λl B L q m=>⟨B,L,q,m,.refl _ _⟩⟩
  have t:=j.mono e1 hh.len;obtain⟨r,f⟩:=cn.get j;have i:p<vs.length:=by grind
  have g:vs[p]?=aa u:=by have:=f p;rw[y,bn i]at this;have:=Rd.fN (show Rd M1 vs[p] (.val u)from this);grind
  exact t.setAt g (show dk σ {s with M:=λb o=>(M1 b o).or (a b o)} u (.e (.one (.c (.sl ae k n es))))from Rd.mono h2 w)
end
def jX(E:av)(k:Nat)(bf:AY)(n:Nat)(xs:List aj):aj->(Nat->Option Obj)->Prop:=λv a=>v=.nilFunc/\(∀x∈xs,dn x=ab)/\xs.length=n*k/\match bf with
 |.nil _=>n=0/\a=λ_=>af
 |.row b cap=>n<=cap/\cap<=9223372036854775807/\∃c,(xs++c).length=cap*k/\a=λd=>if d=b then aa (.cells (xs++c).toArray E (0,0))else af
def sJ(k:Nat)(xs:List aj):Nat->List C:=λi=>((xs.drop (i*k)).take k).map .val
def A9{xs:List aj}(a:xs.length=n*k)(hi:i<n):(sJ k xs i).length=k:=by
 have:i*k+k<=n*k:=by rw[<-kN];exact ek _ hi
 simp[sJ,a];omega
def Ba{xs:List aj}{c:C}(h:(sJ k xs i)[j]?=aa c):∃u,xs[i*k+j]?=aa u/\c=.val u:=by simp only[sJ,nD,eK,oF]at h;grind
def jX.lookup{cap:Nat}{xs:List aj}{ch:Nat->Option Obj}(h:jX E k (.row b cap) n xs v ch):∃a,(xs++a).length=cap*k/\ch b=aa (.cells (xs++a).toArray E (0,0))/\∀c,(ch c).isSome=ab↔c=b:=by obtain⟨_,_,_,_,_,a,h1,h2⟩:=h;grind
def Rd.Sv{cap:Nat}{xs:List aj}(d:∀x∈xs,dn x=ab)(hl:xs.length=n*k)(f:n<=cap)(e:cap<=9223372036854775807)(g:∀o,M b o=xs[o]?):Rd M (.slice (aa ⟨b,0,af⟩) n cap) (.sl ae k n (sJ k xs)):=by refine Rd.mE (M:=M) (k:=k) (n:=n) (es:=sJ k xs) (vs:=xs) (a:=aa ⟨b,0,af⟩) (b:=b) (off:=0) (cap:=cap) (t:=ae) ⟨hl,λi hi=>A9 hl hi,λi hi j c hj=>?_⟩ (λ_=>rfl) f e (by simp) (λp u h=>by grind);obtain⟨u,h1,rfl⟩:=Ba hj;exact⟨u,h1,.val (d u (bL h1))⟩
section
variable {X:Cx P}
def jX.Bb{f:Nat}{bf:AY}{xs:List aj}(hl:σ[f]?=aa (.dg (jX E k bf n xs)))(es:Nat->List C)(m:∀i,i<n->(es i).length=k/\∀M j c x,(es i)[j]?=aa c->xs[i*k+j]?=aa x->Rd M x c):jw σ f (AZ bf n) k n es:=by
 intro s hh;have I:f<σ.length:=(cf.1 hl).1;have y:f<s.β.length:=by rw[hh.len];grind
 have z:=bn y;generalize s.β[f]=L at z;obtain⟨ch,B,d,A,e⟩:=hh.box f _ L hl z;cases bf with
 |nil a0 =>
  obtain⟨_,_,_,rfl,_⟩:=B;exact⟨L,s.M,z,λ_ _ _ h=>h,λ_ _ _=>rfl,hh.mem,e,Rd.ic⟩
 |row b cap =>
  obtain⟨R,K,r,J⟩:=B.lookup;obtain⟨O,D,l,w,H,_⟩:=B;have G:b∈L.bs:=(A b).2 (by grind)
  have q:=d b _ r;obtain⟨c1,c2⟩:=hh.zh (b:=b) (vs:=xs) (e b G) (λo v ho=>by
   simp only[aR,q]
   grind)
  refine⟨L,λF o=>if F=b then xs[o]? else s.M F o,z,c2,λF Q o=>aW (by grind),c1.mem,e,?_⟩;refine Rd.mE (k:=k) (n:=n) (es:=es) (vs:=xs) (a:=aa ⟨b,0,af⟩) (b:=b) (off:=0) (cap:=cap) (t:=ae) ⟨l,λi hi=>(m i hi).1,λi hi j c hj=>?_⟩ (λ_=>rfl) w H (by simp) (λp u S=>by grind);have N:j<k:=by grind
  have g:i*k+j<xs.length:=by
   rw[l];have:i*k+k<=n*k:=by rw[<-kN];exact ek _ hi
   omega
  exact⟨xs[i*k+j],bn g,(m i hi).2 _ j c _ hj (bn g)⟩
def tG.qH(h:ly P o x y E ie)(hs:ie.size=k){bf:AY}{xs:List aj}(hx:bO φ x=.e (.one (.v (AZ bf n))))(hl:σ[l]?=aa (.dg (jX E k bf n xs))){es':Nat->List C}(hy:bO φ y=.e (.one (.c (.sl tx k 1 es')))){xv:List aj}(hxv:xv.length=k)(hcx:∀(M:Mem) (v:aj) (j:Nat) (c:C),(es' 0)[j]?=aa c->Rd M v c->xv[j]?=aa v/\dn v=ab)(hb:(n+1)*ie.bytes<=140737488355328):
  tG P N o φ σ (λR:AY=>.e (.one (.v (AZ R (n+1))))) λR=>σ.set l (.dg (jX E k R (n+1) (xs++xv))):=by
 intro s a hf hh;obtain⟨t,t2,i,i2,ho,hi,G,F,B⟩:=h.op;have Pn:l<σ.length:=(cf.1 hl).1;have Io:l<s.β.length:=by rw[hh.len];grind
 have hL:=bn Io;generalize s.β[l]=L at hL;obtain⟨ch,V,O,Sk,Vn⟩:=hh.box l _ L hl hL;have U:=bL hL;have Q:=dt hf x;rw[hx]at Q;have Q:=Rd.fN Q;have Y:=dt hf y;rw[hy]at Y;have Y:=fM Y;have K:=V.2.1;have I:=V.2.2.1;have nM:∀b,s.w.heap.size<=b->∀o,s.M b o=af:=λb hb o=>by
  cases hm:s.M b o with
  |none=>rfl
  |some v=>have:=hh.block hm;omega
 have mk:∀(M':Mem) (a0:Option Addr) (cap:Nat),AZ bf n=.slice a0 n cap->cap<n+1->aF (σ.map λ_=>.dead) {s with M:=M'}->(∀f o v,s.M f o=aa v->M' f o=aa v) ->
   Rd M' (.slice a0 n cap) (.sl ae k n (sJ k xs))->(∀{es},eN {s with M:=M'} es->eN s es) ->
   ∃i nx s' v,(an a.eval o).run P s.w=.ok nx s'.w/\(nx=.value v∨(nx=.skip/\v=ai))/\dk (σ.set l (.dg (jX E k i (n+1) (xs++xv)))) s' v (.e (.one (.v (AZ i (n+1)))))/\aF (σ.set l (.dg (jX E k i (n+1) (xs++xv)))) s'/\Step σ s (σ.set l (.dg (jX E k i (n+1) (xs++xv)))) s'/\eN s ((an a.eval o).events P s.w #[]):=by
  intro M' a0 cap Za GG Ou Zb hR UH;have H:Rd ({s with M:=M'}:St).M (a.eval y) (.sl tx ie.size 1 es'):=by rw[hs];exact Y.mono Zb
  have Z:Rd ({s with M:=M'}:St).M (.slice a0 n cap) (.sl ae ie.size n (sJ k xs)):=by grind
  obtain⟨vs,g,z,A,f2,f3,f4,f5⟩:=ib (P:=P) (s:={s with M:=M'}) (ty:=o.type) hi G F B h.elem Ou Z H GG hb h.bytes;have f6:=iJ (P:=P) (s:={s with M:=M'}) (ty:=o.type) hi G F B h.elem Ou Z H GG hb h.bytes;rw[hs]at A f4;have Pk:vs.length=(n+1)*k:=A.len;have LS:xs.length+k=(n+1)*k:=by grind
  have Vo:0<k:=by have:=h.size;omega
  have Mi:∀j,j<k->∃v,vs[n*k+j]?=aa v/\xv[j]?=aa v/\dn v=ab:=λj hj=>by
   have Ps:=A.width n (by omega);have Zc:cR n (sJ k xs) es' n=es' 0:=by simp[cR]
   rw[Zc]at Ps;obtain⟨v,v1,v2⟩:=A.rd n (by omega) j ((es' 0)[j]'(by omega)) (by grind);grind
  have Ow:vs=xs++xv:=by
   apply g9;intro q;by_cases e:q<xs.length
   .have hi:q / k<n:=rl (by grind);have Sj:q / k*k+q % k=q:=rr q k;have Zd:=A9 (k:=k) I hi;have hap:cR n (sJ k xs) es' (q / k)=sJ k xs (q / k):=by simp[cR,hi]
    have Ze:q % k<(sJ k xs (q / k)).length:=by rw[Zd];exact iO _ Vo
    obtain⟨v,v1,v2⟩:=A.rd (q / k) (by omega) (q % k) ((sJ k xs (q / k))[q % k]) (by grind);obtain⟨u,u1,u2⟩:=Ba (bn Ze);grind[Rd.fN]
   grind
  subst Ow;have W:∀x∈xv,dn x=ab:=λx hx=>by grind[List.getElem_of_mem]
  let w':aA:=s.w.drew.alloc (.cells (xs++xv++g).toArray E);have Mc:w'.heap[s.w.heap.size]?=aa (.cells (xs++xv++g).toArray E (0,0)):=ei s.w.drew _;have Iw:w'.heap.size=s.w.heap.size+1:=by show(s.w.drew.heap.push _).size=_;simp
  obtain⟨t1,S⟩:=hh.jk (l:=l) (H':=jX E k (.row s.w.heap.size z) (n+1) (xs++xv)) (L':=⟨L.v,[s.w.heap.size]⟩) (w':=w') hl hL rfl (by omega)
   (λb hb _=>cZ s.w.drew _ hb) (λb hb=>by grind)
   ⟨λf=>if f=s.w.heap.size then aa (.cells (xs++xv++g).toArray E (0,0))else af,⟨V.1,λx hx=>by
    grind,by grind,f2,f3,g,by rw[f4],rfl⟩,λb o hb=>by grind,λb=>by by_cases e:b=s.w.heap.size<;>simp[e]⟩ rfl rfl rfl
  refine⟨.row s.w.heap.size z,.value (.slice (aa ⟨s.w.heap.size,0,af⟩) (n+1) z),_,_,?_,.inl rfl,Rd.val rfl,t1,S,?_⟩
  .rw[cN ho,Q,Za];simp only[bU,cY];have Vp:(bj #[t,t2] o.type #[.slice a0 n cap,a.eval y]).run P s.w=_:=f5;rw[Vp];rfl
  grind[cN,et]
 cases bf with
 |nil a0 =>
  obtain⟨_,_,_,rfl,_⟩:=V;refine mk s.M a0 0 rfl (by simp) (by have:=hh.kg;exact⟨this.mem,this.len,this.box,this.fY,this.lt,this.own⟩) (λ_ _ _ h=>h) Rd.ic (λh=>h)
 |row b cap =>
  obtain⟨g,Xz,Pt,Sw⟩:=V.lookup;obtain⟨Po,_,_,GG,Ot,_⟩:=V;have D:b∈L.bs:=(Sk b).2 (by grind);have m:=O b _ Pt;have UI:=Vn b D;have Sx:b<s.w.heap.size:=hh.lt L U b D;have Oo:∀o v,xs[o]?=aa v->s.w.cell? ⟨b,o,af⟩=aa v:=by intro o v ho;simp only[aR,m];grind
  obtain⟨c1,c2⟩:=hh.zh (b:=b) (vs:=xs) UI Oo;have UH:∀{es:Array Event},eN {s with M:=λf o=>if f=b then xs[o]? else s.M f o} es->eN s es:=λhe =>
   he.vk (b:=b) U D c2 λf o v Q=>by grind
  have hR:=Rd.Sv (M:=λf o=>if f=b then xs[o]? else s.M f o) (b:=b) (cap:=cap) (xs:=xs) K I GG Ot (λo=>by simp);by_cases p:n+1<=cap
  .have H:Rd ({s with M:=λf o=>if f=b then xs[o]? else s.M f o}:St).M (a.eval y) (.sl tx ie.size 1 es'):=by rw[hs];exact Y.mono c2
   obtain⟨d,A,f2⟩:=jU (P:=P) (s:={s with M:=λf o=>if f=b then xs[o]? else s.M f o}) (ty:=o.type) (n:=n) (b:=b) (cap:=cap) hi G F B h.elem c1 m (by grind) H p;have f6:=lz (P:=P) (s:=s) (ty:=o.type) (n:=n) (b:=b) (cap:=cap) hi G F B h.elem hh m (by grind) (x:=a.eval y) (tx:=tx) (es':=es') (by grind) p U D (λo _=>UI o);rw[hs]at A f2;have RR:d.length=k:=by have:=A.len;omega
   have Vq:=A.width 0 (by omega);have Mi:∀j,j<k->∃v,d[j]?=aa v/\xv[j]?=aa v/\dn v=ab:=λj hj=>by obtain⟨v,v1,v2⟩:=A.rd 0 (by omega) j ((es' 0)[j]'(by omega)) (bn (by omega));grind
   have J:d=xv:=by apply g9;grind
   subst J;have W:∀x∈d,dn x=ab:=λx hx=>by grind[List.getElem_of_mem]
   have hfk:n*k+k<=cap*k:=by rw[<-kN];exact ek _ p
   have hzk:k<=g.length:=by grind
   have T:((xs++g).take (n*k)++d++(xs++g).drop (n*k+d.length))=xs++d++g.drop k:=by rw[<-I,RR];simp[List.drop_append]
   rw[T]at f2;have Im:(s.w.setRow b (xs++d++g.drop k).toArray).heap[b]?=aa (.cells (xs++d++g.drop k).toArray E (0,0)):=setRow_heap s.w b _ _ E _ m;have Du:∀f,f≠b->(s.w.setRow b (xs++d++g.drop k).toArray).heap[f]?=s.w.heap[f]?:=λf r=>setRow_other s.w b f _ r;obtain⟨t1,S⟩:=hh.jk (l:=l) (H':=jX E k (.row b cap) (n+1) (xs++d)) (L':=L) (w':=s.w.setRow b (xs++d++g.drop k).toArray) hl hL rfl (by simp)
    (λf r hn=>Du f (by grind)) (λf r=>.inl r)
    ⟨λf=>if f=b then aa (.cells (xs++d++g.drop k).toArray E (0,0))else af,⟨Po,λx hx=>by
     grind,by grind,p,Ot,g.drop k,by grind,rfl⟩,λf o r=>by
     grind,λf=>by grind⟩ rfl rfl rfl
   refine⟨.row b cap,.value (.slice (aa ⟨b,0,af⟩) (n+1) cap),_,_,?_,.inl rfl,Rd.val rfl,t1,S,?_⟩
   .rw[cN ho,Q];simp only[bU,cY,AZ];have Zf:(bj #[t,t2] o.type #[.slice (aa ⟨b,0,af⟩) n cap,a.eval y]).run P s.w=_:=f2;rw[Zf];rfl
   .rw[cN ho,Q];exact et f6
  .exact mk _ (aa ⟨b,0,af⟩) cap rfl (by omega) c1 c2 hR UH
def AK.qH(h:ly P o x y E ie)(m:ie.size=k){d:Nat}(r:o.dst=aa d)(p:o.guard=af)(i:gm N o.dst=ab){bf:AY}{xs:List aj}(q:bO φ x=.e (.one (.v (AZ bf n))))(hl:σ[l]?=aa (.dg (jX E k bf n xs))){es':Nat->List C}(g:bO φ y=.e (.one (.c (.sl tx k 1 es')))){xv:List aj}(b:xv.length=k)(f:∀(M:Mem) (v:aj) (j:Nat) (c:C),(es' 0)[j]?=aa c->Rd M v c->xv[j]?=aa v/\dn v=ab)(hb:(n+1)*ie.bytes<=140737488355328)(kk:∀a:AY,AK X N Qf (.ops all rest::K) .normal ((d,.e (.one (.v (AZ a (n+1)))))::φ) (σ.set l (.dg (jX E k a (n+1) (xs++xv))))):AK X N Qf (.ops all (o::rest)::K) .normal φ σ :=
 AK.hand (ι:=AY) (λa=>.e (.one (.v (AZ a (n+1))))) (λa=>σ.set l (.dg (jX E k a (n+1) (xs++xv)))) p i (.qH h m q hl g b f hb) λa=>by rw[r];exact kk a
def AK.Mj(t:Nat)(E:av)(k:Nat){i:Nat}(h:look φ t=.e (.one (.c (.sl ab i 0 es))))(kk:∀bf:AY,AK X N Qf (.code c::K) .normal ((t,.e (.one (.v (AZ bf 0))))::φ) (σ++[.dg (jX E k bf 0 [])])):AK X N Qf (.code c::K) .normal φ σ:=by
 refine AW.Dt (λs a d hh=>?_) kk;have f:=d.slot t;rw[h]at f;obtain⟨a0,cap,vs,j,_,_,b,_,_⟩:=(fM f).flat;have b:=b rfl;subst b;obtain⟨g,g2⟩:=hh.hU (B:=.dg (jX E k (.nil a0) 0 [])) (L:=⟨.nilFunc,[]⟩) (.refl _ _) rfl hh ⟨λ_=>af,⟨rfl,by simp,by simp,rfl,rfl⟩,by simp,by simp,by simp⟩ (by simp);refine⟨.nil a0,{s with β:=s.β++[⟨.nilFunc,[]⟩]},rfl,⟨d.size,d.defers.imp λ_ h1=>h1.mono g2.ext,λu=>?_⟩,g,g2⟩;simp only[look];cases hb:az t u with
 |false=>exact(d.slot u).mono g2.ext hh.len
 |true =>
  have e:=b5 hb;subst e;show Rd _ _ _;rw[j];exact Rd.val rfl
def AK.vp(t l:Nat){bf:AY}{xs:List aj}(es:Nat->List C)(y:look φ t=.e (.one (.v (AZ bf n))))(hl:σ[l]?=aa (.dg (jX E k bf n xs)))(g:∀i,i<n->(es i).length=k/\∀M j c x,(es i)[j]?=aa c->xs[i*k+j]?=aa x->Rd M x c)(kk:AK X N Qf (.code c::K) .normal ((t,.e (.one (.c (.sl ae k n es))))::φ) (σ.set l .dead)):AK X N Qf (.code c::K) .normal φ σ:=by
 refine AK.ghost (λs a f hh=>?_) kk;obtain⟨L,M',p,m,q,w,D,G⟩:=jX.Bb hl es g s hh;have d:l<σ.length:=(cf.1 hl).1;have r:=f.slot t;rw[y]at r;have F:=Rd.fN r;have ex:Ext σ s (σ.set l .dead) {s with M:=M'}:=by
  refine⟨m,λl' B L' lW gh=>?_⟩;by_cases e:l=l'
  .subst e;rw[hl]at lW;cases lW;exact⟨.dead,L',by grind,gh,rfl⟩
  .exact⟨B,L',by grind,gh,.refl _ _⟩
 have st:Step σ s (σ.set l .dead) {s with M:=M'}:=by refine⟨ba _,λ_ _ _=>rfl,m,λb _ A o=>q b (A L (bL p)) o,λL h b hb=>.inr ⟨L,h,hb⟩,ex.box,rfl,rfl,rfl,rfl⟩
 refine⟨{s with M:=M'},rfl,⟨f.size,f.defers.imp λ_ h1=>h1.mono st.ext,λu=>?_⟩,⟨w,by simp[hh.len],?_,hh.fY,hh.lt,hh.own⟩,st⟩
 .simp only[look];cases hb:az t u with
  |false=>exact(f.slot u).mono st.ext hh.len
  |true =>
   have e:=b5 hb;subst e;show Rd _ _ _;grind
 .intro l' B L' lW gh;by_cases e:l=l'
  .subst e;rw[gw d]at lW;cases lW;trivial
  .rw[kM e]at lW;exact(hh.box l' B L' lW gh).carry ex hh.len λb hb=>⟨rfl,q b λz=>e (hh.fY l l' L L' p gh b z hb)⟩
end
structure kz(k n:Nat)(es:Nat->List C)(xs:List aj):Prop where
 len:xs.length=n*k
 wid:∀i,i<n->(es i).length=k
 at':∀i,i<n->∀j c,(es i)[j]?=aa c->∃x,xs[i*k+j]?=aa x/\∀M,Rd M x c
def kz.rd{xs:List aj}(h:kz k n es xs):∀i,i<n->(es i).length=k/\∀M j c x,(es i)[j]?=aa c->xs[i*k+j]?=aa x->Rd M x c:=λi hi =>
 ⟨h.wid i hi,λM j c x hj hx=>by obtain⟨y,h1,h2⟩:=h.at' i hi j c hj;grind⟩
def OR(v:aj):A->A
 |.vec 0 _ _ _=>.v v
 |a=>a
def JC(v:aj):E1->E1
 |.one a=>.one (OR v a)
 |e=>e
def D1(v:aj):List E1->List E1
 |[]=>[]
 |a::r=>JC v a::D1 v r
def OS(v:aj):D->D
 |.e x=>.e (JC v x)
 |.fK xs=>.fK (D1 v xs)
 |.any=>.any
def nW(n:Nat):A->Bool
 |.vec 0 _ b _=>az b n
 |a=>vo a
def r6(n:Nat):E1->Bool
 |.one a=>nW n a
 |e=>Ix e
def oZ(n:Nat):List E1->Bool
 |[]=>ab
 |a::r=>match r6 n a with|true=>oZ n r|false=>ae
def z8(n:Nat):D->Bool
 |.e x=>r6 n x
 |.fK xs=>oZ n xs
 |.any=>ab
section
variable {L:Loc}
def JD(g:s.β[0]?=aa L){a:A}(h:nW n a=ab)(r:gD [bm.vec E k n es] s v a):gD σ' s' v (OR L.v a):=by
 cases a with
 |c x=>exact uT h r
 |any=>exact r
 |vec l k' n' es' =>
  cases l with
  |zero =>
   obtain⟨i,_,b⟩:=r;have b:=b E k n es rfl;have e:=b5 h;obtain⟨L',f,d⟩:=b.2 e.symm;rw[g]at f;cases f;show Rd _ _ _;rw[d];exact .val (d▸i.cell)
  |succ l=>simp[nW,vo]at h
 |ptr=>simp[nW,vo]at h
 |ref=>simp[nW,vo]at h
 |bp=>simp[nW,vo]at h
def BJ(b:s.β[0]?=aa L){x:E1}(h:r6 n x=ab)(r:nq [bm.vec E k n es] s v x):nq σ' s' v (JC L.v x):=by
 cases x with
 |one a=>exact JD b h r
 |agg cs=>exact zn (x:=.agg cs) h r
def yq(a:s.β[0]?=aa L):∀{vs:List aj}{cs:List E1},oZ n cs=ab->gN [bm.vec E k n es] s vs cs->gN σ' s' vs (D1 L.v cs)
 |[],[],_,_=>trivial
 |[],_::_,_,r=>r.elim
 |_::_,[],_,r=>r.elim
 |v::vs,c::cs,h,r=>by
  simp only[oZ]at h;cases b:r6 n c with
  |false=>grind
  |true=>simp only[b]at h;exact⟨BJ a b r.1,yq a h r.2⟩
def BK(a:s.β[0]?=aa L){d:D}(h:z8 n d=ab)(r:dk [bm.vec E k n es] s v d):dk σ' s' v (OS L.v d):=by
 cases d with
 |e x=>exact BJ a h r
 |fK xs=>obtain⟨vs,c,b⟩:=r;exact⟨vs,c,yq a h b⟩
 |any=>trivial
end
def u5:List ResultVar->Bool
 |[]=>ab
 |.tmp _::r=>u5 r
 |.cell _ _::_=>ae
def tU{P:aK}{a:Act}:∀{rs:List ResultVar},u5 rs=ab->∃vs,(∀w,(rs.mapM (gk a)).run P w=Result.ok vs w)/\c9 P (rs.mapM (gk a))
 |[],_=>⟨[],by simp,by rw[List.mapM_nil];exact .pure⟩
 |.tmp t::r,h=>by
  obtain⟨vs,c,b⟩:=tU (P:=P) (a:=a) (rs:=r) h;refine⟨a.tmps.getD t ai::vs,λw=>?_,?_⟩
  .simp only[nB,bU,gk,cY,cw,c]
  .rw[nB];exact .bind .pure λ_=>.bind b λ_=>.pure
def um.tmp{f:aM}{fn:Func}{fr:aU}(h:um P f fr v s)(p:P.funcs[f]?=aa fn)(g:u5 fn.results.toList=ab)(hm:∀b o u,s.M b o=aa u->s.w.cell? ⟨b,o,af⟩=aa u):um P f fr v s':=by
 obtain⟨h1,h2,i,n,c,j,m⟩:=h;have e:c=fn:=by grind
 subst e;let a:Act:={tmps:=fr.tmps,defers:=[]}
 obtain⟨vs,k1,k⟩:=tU (P:=P) (a:=a) g;have e1:∀w,(c.results.mapM (gk a)).run P w=Result.ok vs.toArray w:=λw=>by grind[Array.mapM_eq_mapM_toList,Sem.run_map,Go.Result.andThen_ok]
 have e2:∀w,(results c fr.tmps).run P w=.ok (if h:vs.toArray.size=1 then vs.toArray[0]else .tuple vs.toArray) w:=λw=>by unfold results;rw[bU];refine(dA (λr=>Result.andThen r _) (e1 w)).trans ?_;simp
 have e3:c9 P (results c fr.tmps):=by
  unfold results;have e:c9 P (c.results.mapM (gk a)):=by rw[qB];exact .map k
  exact .bind e λ_=>.pure
 have d:=(m s.w hm).1;rw[e2]at d;cases d;exact⟨h1,h2,i,n,c,j,λw _=>⟨e2 w,λe l=>by rw[e3 w #[]]at l;grind⟩⟩
def Ev.thaw{X:Cx P}[X.jw]{f:aM}{args:List D}{res:D}(h:Ev X f args [] res [.vec E k n es]){fn:Func}(hf:P.funcs[f]?=aa fn)(ht:u5 fn.results.toList=ab)(Q:z8 n res=ab)(I:∀i,i<n->(es i).length=k/\∀c∈es i,A5 c=ab):
  dW (ι:={q:AY×List aj // kz k n es q.2}) X f args [] (λq=>OS (AZ q.1.1 n) res) (λq=>[.dg (jX E k q.1.1 n q.1.2)]):=by
 refine⟨h.1,λs vs hr hh S cs hS=>h.2 s vs hr hh S cs λfr v s' hl lY jL st=>?_⟩;have hβ0:s.β=[]:=iV hh.len;have hlen:s'.β.length=1:=jL.len;obtain⟨L,N⟩:∃L,s'.β=[L]:=by
  match hq:s'.β with
  |[L]=>grind
  |[]=>grind
  |_::_::_=>grind
 have hL:s'.β[0]?=aa L:=by grind
 obtain⟨XO,VJ⟩:=jL.box 0 _ L rfl hL;rcases VJ with⟨⟨Sk,T⟩,t⟩|⟨b,cap,cells,Y,A,Z,FB⟩
 .subst T;obtain⟨a,cap,vs0,hv,GG,Ot,htc,_⟩:=t.flat;have H:cap=0:=htc rfl;subst H;let z:St:={s' with β:=[⟨.nilFunc,[]⟩]}
  have hg:eR s' z:=⟨rfl,λ_ _ _ h=>h,λ_ _ _=>rfl,jL.mem,λb hb=>by grind⟩
  have y:kz k 0 es []:=⟨by simp,λi hi=>by omega,λi hi=>by omega⟩
  refine .ghost hg (hS ⟨(.nil a,[]),y⟩ fr v z (hl.tmp hf ht jL.mem) ?_ ?_ ?_)
  .have:=BK (σ':=[bm.dg (jX E k (.nil a) 0 [])]) (s':=z) hL Q lY;rw[hv]at this;exact this
  .refine⟨jL.mem,rfl,λl B L' hB gh=>?_,?_,by grind,λb hb=>⟨(jL.own b hb).1,by grind⟩⟩
   .cases l with
    |zero=>cases hB;cases gh;exact⟨λ_=>af,⟨rfl,by simp,by simp,rfl,rfl⟩,by simp,by simp,by simp⟩
    |succ l=>grind
   grind
  .refine⟨st.size,st.keep,st.mem,st.iI,λL' gh b hb=>?_,λl B L' hB=>by grind,st.os,st.tape,st.output,st.own⟩;grind
 .subst Y;have R:b∈(⟨.slice (aa ⟨b,0,af⟩) n cap,[b]⟩:Loc).bs:=by simp
  have Yk:s.w.heap.size<=b:=by
   rcases st.uP _ (by grind) b R with h1|⟨L0,h1,_⟩
   .exact h1
   grind
  have Sx:b<s'.w.heap.size:=jL.lt _ (by grind) b R;obtain⟨a1,aaK,m,V,r,O,_,hF,hm⟩:=XO.flat;cases V;have K:m.length=n*k:=hF.len;have aaL:∀p u,m[p]?=aa u->cells[p]?=aa u:=λp u hp=>by obtain⟨b1,aaM,e,Wx⟩:=hm p u hp;cases e;have:=jL.mem _ _ _ Wx;simp only[aR,A]at this;simpa using this
  have hnk:n*k<=cells.length:=by rw[Z];exact ek _ r
  have U:cells.take (n*k)=m:=by apply g9;grind
  have Pl:m++cells.drop (n*k)=cells:=by grind[List.take_append_drop]
  have y:kz k n es m:=by refine⟨K,λi hi=>(I i hi).1,λi hi j c hj=>?_⟩;obtain⟨u,u1,u2⟩:=hF.rd i hi j c hj;grind[uT]
  have F:∀x∈m,dn x=ab:=λx hx=>by
   obtain⟨p,hp,rfl⟩:=dL hx;have hk:0<k:=by grind
   have hi:p / k<n:=rl (by grind);have Sj:p / k*k+p % k=p:=rr p k;have hj:p % k<(es (p / k)).length:=by rw[(I _ hi).1];exact iO _ hk
   obtain⟨u,u1,u2⟩:=y.at' _ hi _ _ (bn hj);rw[Sj,bn hp]at u1;cases u1;exact(u2 s.M).cell
  have G:∀d o v',s.M d o=aa v'->d≠b:=λd o v' hm' e=>by have:=hh.block hm';omega
  let J:Mem:=λd o=>if d=b then af else s'.M d o;let s1:St:={s' with β:=[],own:=λx=>s'.own x∨x=b}
  let s2:St:={s1 with M:=J}
  let z:St:={s' with β:=[⟨.nilFunc,[b]⟩],M:=J}
  have C:∀d o v',J d o=aa v'->s'.M d o=aa v':=λd o v' h'=>by grind
  have Wm:eR s' s1:=⟨rfl,λ_ _ _ h=>h,λ_ _ _=>rfl,jL.mem,λd g=>by
   rcases g with(g|g)|⟨L',gh,_⟩
   .grind
   .exact .inr ⟨_,by rw[N];simp;rfl,by grind⟩
   grind⟩
  have W:mF s1 s2:=⟨rfl,rfl,rfl,C,λd o v' h'=>by grind⟩
  have hg3:eR s2 z:=⟨rfl,λ_ _ _ h=>h,λ_ _ _=>rfl,λd o v' h'=>jL.mem _ _ _ (C _ _ _ h'),λd g=>by grind⟩
  refine .ghost Wm (.forget Cx.jw.ok W (.ghost hg3 (hS ⟨(.row b cap,m),y⟩ fr v z (hl.tmp hf ht jL.mem) ?_ ?_ ?_)))
  .exact BK (L:=⟨.slice (aa ⟨b,0,af⟩) n cap,[b]⟩) hL Q lY
  .refine⟨λd o v' h'=>jL.mem _ _ _ (C _ _ _ h'),rfl,λl B L' hB gh=>?_,?_,λL' gh d g=>?_,λd g=>⟨(jL.own d g).1,λL' gh=>?_⟩⟩
   .cases l with
    |zero =>
     cases hB;cases gh;refine⟨λd=>if d=b then aa (.cells (m++cells.drop (n*k)).toArray E (0,0))else af,⟨rfl,F,K,r,O,cells.drop (n*k),?_,rfl⟩,λd o g=>?_,λd=>?_,λd g o=>?_⟩
     .grind
     .grind
     .by_cases e:d=b<;>simp[e]
     grind
    |succ l=>grind
   .grind
   .grind
   .simp[z]at gh;subst gh;have:=(jL.own d g).2 _ (by rw[N];simp;rfl);grind
  .refine⟨st.size,st.keep,λd o v' h'=>?_,λd g hn o=>?_,λL' gh d g=>?_,λl B L' hB=>by grind,st.os,st.tape,st.output,st.own⟩
   .simp only[z,J,aW (G d o v' h')];exact st.mem _ _ _ h'
   .have:d≠b:=by omega
    simp only[z,J,aW this];exact st.iI d g hn o
   grind
section
variable {X:Cx P}
def AK.Sy{p:Prop}(h:∀s,aF σ s->p)(k:p->AK X N Qf (.ops all rest::K) .normal φ σ):AK X N Qf (.ops all rest::K) .normal φ σ :=
 λs a b hh=>k (h s hh) s a b hh
def jX.len{E:av}{k n l:Nat}{bf:AY}{xs:List aj}(hl:σ[l]?=aa (.dg (jX E k bf n xs)))(s:St)(hh:aF σ s):xs.length=n*k/\n<=9223372036854775807/\(0<n->∃b cap,bf=.row b cap)/\∀a,bf=.nil a->n=0:=by
 have c:l<s.β.length:=by rw[hh.len];grind
 obtain⟨ch,e,_⟩:=hh.box l _ _ hl (bn c);cases bf with
 |nil a=>obtain⟨_,_,f,rfl,_⟩:=e;grind
 |row b cap=>obtain⟨_,_,f,h,g,_⟩:=e;grind
def qq:List A->Bool
 |[]=>ab
 |.c x::r=>match A5 x with|true=>qq r|false=>ae
 |_=>ae
def nO(vs:List aj)(cs:List A):Prop:=vs.length=cs.length/\∀(j:Nat)(c:C),cs[j]?=aa (A.c c)->∃v,vs[j]?=aa v/\∀M,Rd M v c
def nO.of{σ:List bm}{s:St}:∀{vs:List aj}{cs:List A},qq cs=ab->dT σ s vs cs->nO vs cs
 |[],[],_,_=>⟨rfl,λj c h=>by grind⟩
 |[],_::_,_,r=>r.elim
 |_::_,[],_,r=>r.elim
 |v::vs,.c x::cs,h,r=>by
  simp only[qq]at h;cases a:A5 x with
  |false=>grind
  |true =>
   simp only[a]at h;obtain⟨h1,h2⟩:=nO.of h r.2;refine⟨by grind,λj c hj=>?_⟩;cases j with
   |zero=>simp at hj;subst hj;exact⟨v,rfl,λM=>uT a r.1⟩
   |succ j=>grind
 |_::_,.ptr _ _::_,h,_=>by simp[qq]at h
 |_::_,.vec _ _ _ _::_,h,_=>by simp[qq]at h
 |_::_,.ref _::_,h,_=>by simp[qq]at h
 |_::_,.bp _ _::_,h,_=>by simp[qq]at h
 |_::_,.any::_,h,_=>by simp[qq]at h
theorem dT.dn{σ:List bm}{s:St}:∀{vs:List aj}{cs:List A},dT σ s vs cs->∀v∈vs,AM.dn v=ab
 |[],[],_,v,h=>by grind
 |[],_::_,r,_,_=>r.elim
 |_::_,[],r,_,_=>r.elim
 |u::vs,c::cs,r,v,h=>by
  rcases eY.1 h with rfl|h
  .exact gD.cell r.1
  .exact dT.dn r.2 v h
def tG.Dv(hT:dj P T)(l:Nat){cap:Nat}{xs:List aj}{new:List A}{i:TI}(h:o.op=.store t x y)(hi:bG T t=aa i)(hx:bO φ x=.e (.one (.v (.pointer (aa ⟨b,off,af⟩)))))(hy:lC (bO φ y)=aa new)(Mc:new.length=i.size)(V:qq new=ab)(hl:σ[l]?=aa (.dg (jX E k (.row b cap) n xs)))(Sz:off+new.length<=xs.length):
  tG P N o φ σ (ι:={vs:List aj // nO vs new}) (λ_=>.any) (λvs=>σ.set l (.dg (jX E k (.row b cap) n (xs.take off++vs.1++xs.drop (off+vs.1.length))))):=by
 intro s a hf hh;have G:=dt hf x;rw[hx]at G;have G:=Rd.fN G;have B:=mP hy (dt hf y);have Pn:l<σ.length:=(cf.1 hl).1;have R:l<s.β.length:=by rw[hh.len];grind
 have S:=bn R;generalize s.β[l]=L at S;obtain⟨ch,hH,z,U,Vn⟩:=hh.box l _ L hl S;obtain⟨c,Xz,H,Sw⟩:=jX.lookup hH;obtain⟨Y,W,XA,J,Z,_⟩:=hH;have K:b∈L.bs:=(U b).2 (by grind);have m:=z b _ H;let vs:=(a.eval y).cells.toList;have O:nO vs new:=nO.of V B;have Pk:vs.length=new.length:=O.1;have q:off+0+vs.length<=(xs++c).toArray.size:=by grind
 have D:=run_storeCells_at P b off E vs 0 (xs++c).toArray s.w m q B.cell;simp only[fS]at D;have C:(xs++c).take off++vs++(xs++c).drop (off+vs.length)=(xs.take off++vs++xs.drop (off+vs.length))++c:=by grind
 rw[C]at D;have Zg:(xs.take off++vs++xs.drop (off+vs.length)).length=xs.length:=by grind
 have Im:=setRow_heap s.w b (xs++c).toArray ((xs.take off++vs++xs.drop (off+vs.length))++c).toArray E (0,0) m;have Q:∀f,f≠b->(s.w.setRow b ((xs.take off++vs++xs.drop (off+vs.length))++c).toArray).heap[f]?=s.w.heap[f]?:=λf p=>setRow_other s.w b f _ p;obtain⟨t1,t2⟩:=hh.jk (l:=l) (H':=jX E k (.row b cap) n (xs.take off++vs++xs.drop (off+vs.length))) (L':=L) (w':=s.w.setRow b ((xs.take off++vs++xs.drop (off+vs.length))++c).toArray) hl S rfl (by simp)
  (λf p hn=>Q f (by grind)) (λf p=>.inl p)
  ⟨λf=>if f=b then aa (.cells ((xs.take off++vs++xs.drop (off+vs.length))++c).toArray E (0,0))else af,⟨Y,λx hx=>by
   grind[dT.dn],by grind,J,Z,c,by grind,rfl⟩,λf o p=>by
   simp_all,λf=>by simp_all⟩ rfl rfl rfl
 have I:(a.eval y).cells.size=i.size:=by grind
 refine⟨⟨vs,O⟩,.skip,_,ai,?_,.inr ⟨rfl,rfl⟩,aq,t1,t2,?_⟩
 .have F:(storeCells ⟨b,off,af⟩ (a.eval y).cells.toList).run P s.w=_:=D;simp[an,h,G,Instr.storeAt,Instr.sureAddr,storeVar,(hT t i hi).run_sizeOf,I,F]
 .intro ev g;have e:an a.eval o=(do storeVar t ⟨b,off,af⟩ (a.eval y);pure .skip):=by simp[an,h,G,Instr.storeAt,Instr.sureAddr]
  rw[e]at g;have M:ev∈(storeCells ⟨b,off,af⟩ (a.eval y).cells.toList).events P s.w #[]:=by
   simp only[storeVar,aP,(hT t i hi).run_sizeOf,I,aV,events_sizeOf,cT,fD,b6,bU,cw,Sem.events_pure]at g;generalize(storeCells ⟨b,off,af⟩ (a.eval y).cells.toList).run P s.w=r at g;cases r with
   |ok v w'=>simpa using g
   |halt x w'=>simpa using g
  rcases eh (a.eval y).cells.toList 0 (xs++c).toArray s.w #[] m q B.cell ev M with Ou|⟨j,_,_,rfl⟩
  .grind
  .exact k7 (bL S) K (Vn b K _)
def AK.Dv{T:List (Nat×TI)}(m:dj P T)(l:Nat){t:av}{x y:aE}{E:av}{k n b cap off:Nat}{xs:List aj}{new:List A}{i:TI}(h:o.op=.store t x y)(hi:bG T t=aa i)(q:bO φ x=.e (.one (.v (.pointer (aa ⟨b,off,af⟩)))))(g:lC (bO φ y)=aa new)(c:new.length=i.size)(f:qq new=ab)(hl:σ[l]?=aa (.dg (jX E k (.row b cap) n xs)))(a:off+new.length<=xs.length)(p:o.guard=af)(j:gm N o.dst=ab)(kk:∀vs,nO vs new->AK X N Qf (.ops all rest::K) .normal (kO o.dst .any φ) (σ.set l (.dg (jX E k (.row b cap) n (xs.take off++vs++xs.drop (off+vs.length)))))):AK X N Qf (.ops all (o::rest)::K) .normal φ σ :=
 AK.hand _ _ p j (tG.Dv m l h hi q g c f hl a) λvs=>kk vs.1 vs.2
def AK.swap(i j:Nat){H1 H2:aj->(Nat->Option Obj)->Prop}(F:i≠j)(hi:σ[i]?=aa (.dg H1))(hj:σ[j]?=aa (.dg H2))(h1:∀v ch,H1 v ch->v=.nilFunc)(h2:∀v ch,H2 v ch->v=.nilFunc)(kk:AK X N Qf (.code c::K) .normal φ ((σ.set i (.dg H2)).set j (.dg H1))):AK X N Qf (.code c::K) .normal φ σ:=by
 refine AK.ghost (λs a z hh=>?_) kk;have C:i<σ.length:=(cf.1 hi).1;have A:j<σ.length:=(cf.1 hj).1;have r:i<s.β.length:=by rw[hh.len];grind
 have t:j<s.β.length:=by rw[hh.len];grind
 obtain⟨k,x⟩:∃L,s.β[i]?=aa L:=⟨_,bn r⟩;obtain⟨m,o⟩:∃L,s.β[j]?=aa L:=⟨_,bn t⟩;have E:=hh.box i _ k hi x;have D:=hh.box j _ m hj o;have I:k.v=.nilFunc:=by obtain⟨ch,G,_⟩:=E;grind
 have J:m.v=.nilFunc:=by obtain⟨ch,G,_⟩:=D;grind
 let s':St:={s with β:=(s.β.set i m).set j k}
 have p:∀l,((σ.set i (.dg H2)).set j (.dg H1))[l]?=if l=j then aa (.dg H1)else if l=i then aa (.dg H2)else σ[l]?:=λl=>by grind
 have n:∀l,s'.β[l]?=if l=j then aa k else if l=i then aa m else s.β[l]?:=λl=>by grind
 have y:∀L∈s'.β,L∈s.β:=λL f=>by grind
 have ex:Ext σ s ((σ.set i (.dg H2)).set j (.dg H1)) s':=by
  refine⟨λ_ _ _ h=>h,λl B L g f=>?_⟩;rw[p,n];by_cases e:l=j
  .subst e;rw[hj]at g;cases g;rw[o]at f;cases f;exact⟨.dg H1,k,by simp,by simp,by show k.v=_;grind⟩
  .by_cases w:l=i
   .subst w;rw[hi]at g;cases g;rw[x]at f;cases f;exact⟨.dg H2,m,by simp[e],by simp[e],by show m.v=_;grind⟩
   .exact⟨B,L,by grind,by grind,.refl _ _⟩
 have st:Step σ s ((σ.set i (.dg H2)).set j (.dg H1)) s':=by exact⟨ba _,λ_ _ _=>rfl,λ_ _ _ h=>h,λ_ _ _ _=>rfl,λL h b hb=>.inr ⟨L,y L h,hb⟩,ex.box,rfl,rfl,rfl,rfl⟩
 refine⟨s',rfl,⟨z.size,z.defers.imp λ_ h1=>h1.mono ex,λu=>(z.slot u).mono ex hh.len⟩,⟨hh.mem,by simp[s',hh.len],?_,?_,λL f b hb=>hh.lt L (y L f) b hb,λb hb=>⟨(hh.own b hb).1,λL f=>(hh.own b hb).2 L (y L f)⟩⟩,st⟩
 .intro l B L g f;rw[p]at g;rw[n]at f;split at g
  .rename_i e;rw[bc e]at f;cases g;cases f;exact E
  .rename_i e;rw[aW e]at f;split at g
   .rename_i w;rw[bc w]at f;cases g;cases f;exact D
   .rename_i w;rw[aW w]at f;exact(hh.box l B L g f).carry ex hh.len λb hb=>⟨rfl,λ_=>rfl⟩
 .intro l l' L1 L2 q1 q2 b hb oB;rw[n]at q1 q2;have key:∀l L,(if l=j then aa k else if l=i then aa m else s.β[l]?)=aa L->s.β[if l=j then i else if l=i then j else l]?=aa L:=λl L q=>by grind
  have:=hh.fY _ _ L1 L2 (key l L1 q1) (key l' L2 q2) b hb oB;by_cases e1:l=j<;>by_cases e2:l'=j<;>by_cases e3:l=i<;>by_cases H:l'=i<;>simp_all
def AK.Iy(S:dj P T){i:TI}{H L:IntKind}(h:o.op=.makeSlice t x y)(hi:bG T t=aa i)(hd:i.desc=.slice E)(hE:bG T E=aa ie)(hx:bO φ x=.e (.one (.c (.int H n))))(hy:bO φ y=.e (.one (.c (.int L n))))(hb:n*ie.bytes<=140737488355328)(V:n<=140737488355328)(hg:o.guard=af)(hN:gm N o.dst=ab)(kk:∀b xs,AK X N Qf (.ops all rest::K) .normal (kO o.dst (.e (.one (.v (AZ (.row b n) n)))) φ) (σ++[.dg (jX E ie.size (.row b n) n xs)])):AK X N Qf (.ops all (o::rest)::K) .normal φ σ:=by
 refine AK.hand (ι:=Nat×List aj) (λq=>.e (.one (.v (AZ (.row q.1 n) n)))) (λq=>σ++[.dg (jX E ie.size (.row q.1 n) n q.2)]) hg hN (λs a U hh=>?_) λq=>kk q.1 q.2;have k:=dt U x;rw[hx]at k;have k:=fM k;generalize A:a.eval x=vx at k;cases k;have l:=dt U y;rw[hy]at l;have l:=fM l;generalize C:a.eval y=vy at l;cases l;have j:=(S t i hi).RS;rw[hd]at j;obtain⟨f,z,D,z2,z3,Q,R,z6,z7⟩:=(S E ie hE).info;have g:(f.bytes:Int)*(n:Int)<=281474976710656:=by grind
 have m:=run_make (P:=P) (w:=s.w) t E f z j D Q H L n n (by omega) (rB _) g (by omega);simp only[bD]at m;let xs:=(madeCells z.cells (n*f.size)).toList;have F:xs.length=n*ie.size:=by grind[size_madeCells]
 have Zh:∀v∈z.cells.toList,dn v=ab:=dT.dn (ky (σ:=σ) (s:=s) R);have W:z.cells.toList.length=ie.size:=by have:=dA List.length R;grind
 have O:∀v∈xs,dn v=ab:=by intro v hv;simp only[xs,madeCells,Array.toList_map,nG]at hv;grind[Nat.mod_lt]
 have Z:eQ (σ++[.dg (jX E ie.size (.row s.w.heap.size n) n xs)]) {s with w:=s.w.alloc (.cells xs.toArray E),β:=s.β++[⟨.nilFunc,[s.w.heap.size]⟩]} (.dg (jX E ie.size (.row s.w.heap.size n) n xs)) ⟨.nilFunc,[s.w.heap.size]⟩:=by
  refine⟨λr=>if r=s.w.heap.size then aa (.cells (xs++[]).toArray E (0,0))else af,⟨rfl,O,F,ba _,by omega,[],by grind,rfl⟩,λr o g=>?_,λr=>?_,λr g o=>?_⟩
  .by_cases e:r=s.w.heap.size
   .subst e;simp only[bY]at g;grind[ei]
   grind
  .by_cases e:r=s.w.heap.size<;>simp[e]
  .simp at g;subst g;cases hm:s.M s.w.heap.size o with
   |none=>rfl
   |some v=>have:=hh.block hm;omega
 have B:aF σ {s with w:=s.w.alloc (.cells xs.toArray E)}/\Step σ s σ {s with w:=s.w.alloc (.cells xs.toArray E)} :=
  hh.grow (by simp) (λb hb=>cZ s.w _ hb) (λb hb o=>rfl) (λb hb o v hm=>by have:=hh.block hm;omega) rfl rfl rfl
 obtain⟨g1,g2⟩:=B.1.hU B.2 rfl hh Z (λb hb=>by simp_all)
 refine⟨(s.w.heap.size,xs),.value (.slice (aa ⟨s.w.heap.size,0,af⟩) n n),_,_,?_,.inl rfl,Rd.val rfl,g1,g2,?_⟩
 .simp[an,h,A,C,m,xs]
 .have e:an a.eval o=(do pure (.value (<-Instr.makeSlice t (.int H n) (.int L n)))):=by simp[an,h,A,C]
  rw[e];refine et ?_;intro e p;have hu:∀u,(underlying t).run P u=.ok (.slice E) u:=λu=>by simp[underlying,j]
  have G:∀u,(typeInfo E).run P u=.ok f u:=λu=>by simp[typeInfo,D]
  have I:∀u,(zeroValue E).run P u=.ok z u:=λu=>by simp[zeroValue,typeInfo,D,Q]
  have J:∀u,(sizeOf E).run P u=.ok f.size u:=λu=>by simp[sizeOf,typeInfo,D]
  have wl:IntKind.i64.wrap (n:Int)=n:=by grind[IntKind.wrap_i64]
  have Y:¬(n:Int)<0:=by omega
  have n2:¬(281474976710656<(f.bytes:Int)*n):=by omega
  simp[Instr.makeSlice,hu,G,J,asInt,asIntOf,wl,Y,n2]at p;rw[I]at p;simp only[aV,(c9.newRow (P:=P)) _ _,ite_self]at p;unfold askRoom at p;split at p
  .have:e=⟨.mark .noRoom,ae,ab⟩:=by simpa using p
   rw[this];exact .inl rfl
  .simp at p
end
section
variable {d:Nat}{u:aj}
end
def uq{xs vs:List α}{a:Nat}(h:a+vs.length<=xs.length)(p:Nat):(xs.take a++vs++xs.drop (a+vs.length))[p]?=if a<=p/\p<a+vs.length then vs[p-a]? else xs[p]?:=by
 have b:(xs.take a).length=a:=by grind
 grind
def kz.fh{es':Nat->List C}{xs:List aj}{new:List A}(h:kz k n es xs)(i j:Nat)(hi:i<n)(o:nO vs new)(p:j+new.length<=k)(v:∀a,a<n->a≠i->es' a=es a)(hl:(es' i).length=k)(x:∀(q:Nat) (c:C),(es' i)[q]?=aa c->(j<=q/\q<j+new.length/\new[q-j]?=aa (A.c c))∨(¬(j<=q/\q<j+new.length)/\(es i)[q]?=aa c)):kz k n es' (xs.take (i*k+j)++vs++xs.drop (i*k+j+vs.length)):=by
 have s:i*k+k<=n*k:=by rw[<-kN];exact ek _ hi
 have z:=o.1;have r:=h.len;have f:i*k+j+vs.length<=xs.length:=by omega
 refine⟨by grind,λa b=>?_,λa b q c y=>?_⟩
 .by_cases e:a=i
  .grind
  .rw[v a b e];exact h.wid a b
 .rw[uq f];by_cases e:a=i
  .subst e;rcases x q c y with⟨h1,h2,t⟩|⟨h1,h2⟩
   .rw[bc (by omega),show a*k+q-(a*k+j)=q-j by omega];exact o.2 _ c t
   .rw[aW (by omega)];exact h.at' a b q c h2
  .have g:(es a)[q]?=aa c:=by grind
   have w:q<k:=by rw[<-h.wid a b];grind
   rw[aW ?_]
   .exact h.at' a b q c g
   .rcases Nat.lt_or_gt_of_ne e with l|m
    .have:a*k+k<=i*k:=by rw[<-kN];exact ek _ l
     omega
    .have:i*k+k<=a*k:=by rw[<-kN];exact ek _ m
     omega
def kz.snoc{es':Nat->List C}{xs:List aj}(h:kz k n es xs)(g:∀i,i<n->es' i=es i)(hl:(es' n).length=k)(l:vs.length=k)(m:∀(q:Nat)(c:C),(es' n)[q]?=aa c->∃v,vs[q]?=aa v/\∀M,Rd M v c):kz k (n+1) es' (xs++vs):=by
 have f:=h.len;refine⟨by grind,λi hi=>?_,λi hi q c o=>?_⟩
 .by_cases e:i=n
  .grind
  .rw[g i (by omega)];exact h.wid i (by omega)
 .by_cases e:i=n
  .grind
  .have a:i<n:=by omega
   have b:(es i)[q]?=aa c:=by grind
   have j:q<k:=by rw[<-h.wid i a];grind
   have:i*k+k<=n*k:=by rw[<-kN];exact ek _ a
   rw[iE (by omega)];exact h.at' i a q c b
def zu(T:List (Nat×TI))(φ:Fr):List ResultVar->Option (List D)
 |[]=>aa []
 |.tmp t::r=>match zu T φ r with
  |some q=>aa (look φ t::q)
  |none=>af
 |.cell ad t::r=>match zu T φ r with
  |some q=>match look φ ad with
   |.e (.one (.c (.rp cs)))=>match bG T t with
    |some i=>match mR i (cs.map A.c)with
     |some e=>aa (.e e::q)
     |none=>af
    |none=>af
   |_=>af
  |none=>af
def zv{P:aK}{T:List (Nat×TI)}(O:dj P T){N:Nat}{σ:List bm}{s:St}{φ:Fr}{a:Act}(f:cx N σ s φ a):∀{rs:List ResultVar}{ds:List D},zu T φ rs=aa ds ->
  ∃vs,cn σ s vs ds/\∀w,(∀b o u,s.M b o=aa u->w.cell? ⟨b,o,af⟩=aa u)->(rs.mapM (gk a)).run P w=Result.ok vs w/\∀es,∀e∈(rs.mapM (gk a)).events P w es,e∈es∨∃b o u,e=⟨.cell ⟨b,o,af⟩,ae,ae⟩/\s.M b o=aa u
 |[],ds,h=>by cases h;exact⟨[],aq,λw _=>⟨by simp,λes e l=>.inl (by simpa using l)⟩⟩
 |.tmp t::r,ds,h=>by
  simp only[zu]at h;cases G:zu T φ r with
  |none=>grind
  |some q =>
   simp[G]at h;subst h;obtain⟨vs,V,R⟩:=zv O f G;refine⟨a.tmps.getD t ai::vs,⟨f.slot t,V⟩,λw p=>?_⟩;obtain⟨k1,Q⟩:=R w p;refine⟨by simp only[nB,bU,gk,cY,cw,k1],λes e l=>Q es e ?_⟩;simpa[nB,gk,k1]using l
 |.cell ad t::r,ds,h=>by
  simp only[zu]at h;cases G:zu T φ r with
  |none=>grind
  |some q =>
   simp only[G]at h;have hs:=f.slot ad;generalize look φ ad=x at h hs;split at h
   case h_2=>cases h
   rename_i cs;cases hi:bG T t with
   |none=>grind
   |some i =>
    simp only[hi]at h;cases k:mR i (cs.map A.c)with
    |none=>grind
    |some e0 =>
     simp[k]at h;subst h;obtain⟨vs,V,R⟩:=zv O f G;have K:=fM hs;generalize Zl:a.tmps.getD ad ai=vx at K;cases K;rename_i b off g S LU;let y:=(bg cs.length).map g;have I:dT σ s y (cs.map A.c):=by
      have key:∀(n:Nat) (ds:List C),(∀j c,ds[j]?=aa c->Rd s.M (g (n+j)) c)->dT σ s ((bg ds.length).map λj=>g (n+j)) (ds.map A.c):=by
       intro n ds;induction ds generalizing n with
       |nil=>intro _;trivial
       |cons d ds ih =>
        intro hd;rw[en,y4];refine⟨hd 0 d rfl,?_⟩;have:=ih (n+1) (λj c m=>by have:=hd (j+1) c (by grind);grind);grind[Function.comp_def]
      have:=key 0 cs (by grind);grind
     have H:∀(j:Nat) (v:aj),y[j]?=aa v->s.M b (off+j)=aa v:=λj v m=>by
      simp only[y,nD]at m;by_cases z:j<cs.length
      .simp[z]at m;subst m;exact S j cs[j] (bn z)
      grind
     let w0:aA:={s.w with heap:=s.w.heap}
     have B:∃v,nq σ s v e0/\∀w,(∀b o u,s.M b o=aa u->w.cell? ⟨b,o,af⟩=aa u)->(loadVar t ⟨b,off,af⟩).run P w=.ok v w:=by
      have W:=O t i hi;cases Z:i.agg<;>simp only[mR,Z]at k
      .cases F:eB 0 (cs.map A.c)with
       |none=>grind
       |some a0 =>
        simp[F]at k;subst k;obtain⟨v,hv,UJ⟩:=I.get (cU F);refine⟨v,UJ,λw p=>?_⟩;have:=p _ _ _ (H 0 v hv);simp only[loadVar,bU,W.jV,cw,Z];grind[run_load]
      .cases F:og i.size (cs.map A.c)with
       |none=>grind
       |some r0 =>
        simp[F]at k;subst k;obtain⟨q1,q2⟩:=mS F;have J:=I.take i.size;rw[<-q1]at J;have hl:(y.take i.size).length=i.size:=by grind
        refine⟨.agg (y.take i.size).toArray,⟨y.take i.size,rfl,J⟩,λw p=>?_⟩
        have E:=run_loadCells_list (P:=P) w ⟨b,off,af⟩ (y.take i.size) (λj v m=>by grind[de])
        rw[hl]at E;simp only[loadVar,bU,W.jV,cw,Z];simp[W.run_sizeOf,E]
     obtain⟨v,U,Y⟩:=B;refine⟨v::vs,⟨U,V⟩,λw p=>?_⟩;obtain⟨k1,Q⟩:=R w p;have L:(gk a (.cell ad t))=loadVar t ⟨b,off,af⟩:=by simp[gk,Zl,asAddr]
     refine⟨by grind[Go.Sem.run_bind,Go.Sem.run_pure,Go.Result.andThen_ok],λes e l=>?_⟩;rw[nB,L]at l;simp only[aP,Y w p,aV,k1,Sem.events_pure]at l;rcases Q _ e l with l|l
     .rcases Dp l with l|l
      .grind
      .obtain⟨j,m,rfl⟩:=jW (O t i hi) (w:=w) (n:=cs.length) (λj m=>⟨g j,p _ _ _ (S j cs[j] (bn m))⟩) (by have:=rL k;grind) e l;exact .inr ⟨b,off+j,g j,rfl,S j cs[j] (bn m)⟩
     grind
theorem Bg.UK(g:dj P T){fn:Func}{ds:List D}{d:D}(h:zu T φ fn.results.toList=aa ds)(hj:rK ds=aa d):Bg P fn φ d:=by
 intro N σ s a f;obtain⟨vs,h1,h2⟩:=zv g f h;refine⟨_,Bf hj h1,λw j=>?_⟩;obtain⟨k1,i⟩:=h2 w j;have e1:(fn.results.mapM (gk a)).run P w=Result.ok vs.toArray w:=by grind[Array.mapM_eq_mapM_toList,Sem.run_map,Go.Result.andThen_ok]
 have e2:∀es,∀e∈(fn.results.mapM (gk a)).events P w es,e∈es∨∃b o u,e=⟨.cell ⟨b,o,af⟩,ae,ae⟩/\s.M b o=aa u:=by rw[qB];intro es e c;exact i es e (by simpa using c)
 constructor
 .unfold results;rw[bU];refine(dA (λr=>Result.andThen r _) (Eq.trans ?_ e1)).trans ?_
  .congr 2
  .simp
 .intro e c;have k:e∈(fn.results.mapM (gk a)).events P w #[]:=by unfold results at c;rw[aP]at c;change e∈((fn.results.mapM (gk a)).run P w).evThen ((fn.results.mapM (gk a)).events P w #[]) _ at c;rw[e1]at c;simpa using c
  grind
section
variable {X:Cx P}
def Mm(T:List (Nat×TI))(rs:List ResultVar)(ks:List Nat)(φ:Fr)(res:D):Option (List Prop) :=
 match zu T φ rs with
 |some ds=>match rK ds with
  |some d=>match vt ks.length res with
   |true=>Dg d (iL ks res)
   |false=>af
  |none=>af
 |none=>af
def AK.lD(e:dj P T){fn:Func}{a:Nat}{res:D}(ks:List Nat)(h:Mm T fn.results.toList ks φ res=aa ps)(g:ar ps)(d:kh ks σ=aa σ')(b:kP σ'=ab)(f:dX ks=ab)(c:∀j,j<a->ks[j]?=aa j):
  AK X N (Bh P fn a res σ') (.code .ret::K) .normal φ σ:=by refine AK.ret ⟨.inl rfl,ks,?_⟩;unfold Mm at h;grind[Bg.UK]
def Ev.mb{f:aM}{fn:Func}{args:List D}{res:D}(d:P.funcs[f]?=aa fn)(a:(fn.name== "runtime.NumGoroutine")=ae)(hb:fn.body=aa c)(b:bC args.length fn.ntmps=ab)(h:Fits args σ->AK X fn.ntmps (Bh P fn σ.length res σ') [.code c] .normal (je 0 args) σ):Ev X f args σ res σ':=by refine⟨⟨fn,d,a,by grind⟩,λs vs hr hh=>?_⟩;have:=dW.Dy (X:=X) (ι:=Unit) (σ':=λ_=>σ') (res:=λ_=>res) d a hb (ez b) (AW.mono (AK.of_code (h ⟨s,vs,hr,hh⟩)) λ_ _ _ q=>⟨(),q⟩);exact this.GI.2 s vs hr hh
def cg.mk{fn:Func}{a:Nat}{res:D}(ks:List Nat)(h:zw fn.results.toList ks φ res=aa ps)(f:ar ps)(d:kh ks σ=aa σ')(b:kP σ'=ab)(e:dX ks=ab)(c:∀j,j<a->ks[j]?=aa j):cg fn a res σ' .ret φ σ:=by refine⟨.inl rfl,ks,?_⟩;unfold zw at h;grind
end
def Gy{X:Cx P}{b:aU}{k:List Item}{a:Act}{rest:List Nat}{f:aM}(z:b.kind≠.early)(ho:ops[i]?=aa o)(A:a9 o (yielded ops a.tmps)=ab)(y:aF σ s)(p:∀w,(an a.eval o).run P w=.ok (.enter f vs.toArray) w)(n:∀w,(an a.eval o).events P w #[]=#[])(t:dW X f cy σ res σ1)(g:cn σ s vs cy)(h:∀j v s',dk (σ1 j) s' v (res j)->aF (σ1 j) s'->cO σ s (σ1 j) s'->fA X S (G (b.aT (a.put o.dst v) (.inRegion ops rest::k)) cs) s'):
  fA X S (G (b.aT a (.inRegion ops (i::rest)::k)) cs) s:=by
 obtain⟨_,m⟩:=t;refine .next rfl λr u=>?_;have x:=X.hZ u;have l:=y.rely x;have d:cn σ r vs cy:=g.mono x.stepW.ext y.len;refine⟨_,r,_,oH ho A z (p r.w),?_,m _ vs d l S _ λj C v s2 hl lY Fa oq=>?_⟩
 .refine⟨⟨σ,σ,l,l,.refl _ _⟩,eN.seen ?_⟩;rw[n];exact .nil
 refine pG (cs:=cs) (c:=b.aT a (.inRegion ops (i::rest)::k)) Fa hl λB e=>?_;have q:=jd (b:=b) (a:=a) (k:=k) ops i rest v;rw[ho]at q;simp only[my]at q;rw[q];exact h j v B (lY.mono e.stepW.ext Fa.len) (Fa.rely e) (x.stepW.trans (oq.trans e.stepW))
def AK.Fb{X:Cx P}{f:aM}(r:dW X f cy σ res σ1)(E:o.guard=af)(ho:o.op=.call {callee:=.value fo,args:=xs,argTypes:=jN})(x:eD (bO φ fo)=aa (f,cap))(m:uk (xs.toList.map (bO φ)++fX cap) cy=aa ps)(A:ar ps)(L:gm N o.dst=ab)(k:∀j,AK X N Qf (.ops all rest::K) .normal (kO o.dst (res j) φ) (σ1 j)):AK X N Qf (.ops all (o::rest)::K) .normal φ σ:=by
 intro s a e hh b kk cs S idx hb ia hQ;cases idx with
 |nil=>exact ia.elim
 |cons i idx =>
 obtain⟨hi,ia⟩:=ia;have n:=dt e fo;unfold eD at x;split at x
 case h_2=>cases x
 case h_1 f' Ik he =>
  cases x;rw[he]at n;have h:=fM n;generalize G:a.eval fo=fv at h;cases h with
  |fn fs lZ hl Df f1 f2 h1 h2 r1 r2 =>
   have y:fs=[]:=iV hl;subst y;have l:cn σ s lZ (fX cap):=lx (λj c hj=>⟨f2 j,h2 j (by grind),r2 j c hj⟩) Df;have p:cn σ s (xs.toList.map a.eval++lZ) cy:=rC m A ((nI (dt e) xs.toList).append l);obtain⟨fn,u,g,d⟩:=r.1;refine Gy hb hi (dD E) hh (λw=>(gQ ho u g d G w).1) (λw=>(gQ ho u g d G w).2) r p λj v s' hr jL st=>?_;refine k j s' _ ?_ jL b kk cs S idx hb ia λz B J a3 q H I D=>hQ z B J a3 q H I (st.trans D);have C:=gM L;cases F:o.dst with
   |none=>exact e.mono st hh.len
   |some t=>exact(e.mono st hh.len).put (C t F) hr
def FV{α:Type}{l:Nat}{x:α}:∀{ks:List Nat}{a r:List α},kh ks a=aa r->l∉ks->kh ks (a.set l x)=aa r
 |[],a,r,h,_=>h
 |k::ks,a,r,h,c=>by
  simp only[eY,not_or]at c;simp only[kh,fb]at h⊢;rw[kM c.1];cases d:a[k]? with
  |none=>simp[d]at h
  |some y =>
   simp only[d]at h⊢;cases b:kh ks a with
   |none=>simp[b]at h
   |some q=>rw[FV b c.2];simp only[b]at h;exact h
def BI{l:List Nat}(h:ix k l=ae):k∉l:=λa=>by rw[uU a]at h;cases h
def oR:Option (Tmp×E1)->List ResultVar
 |none=>[]
 |some q=>[.tmp q.1]
def oD(cs:List A):Option (Tmp×E1)->D
 |none=>.e (.agg cs)
 |some q=>.fK [.agg cs,q.2]
def JA(T:List (Nat×TI))(fn:Func)(a:Nat)(res:D)(σ':List bm):Post:=λe φ σ1 =>
 (e=.ret∨e=.normal)/\∃ks l E cs t ty it ps,∃o:Option (Tmp×E1),(∀q,o=aa q->look φ q.1=.e q.2)/\fn.results.toList=.cell t ty::oR o/\bG T ty=aa it/\it.agg=ab/\cs.length=it.size/\look φ t=.e (.one (.ptr l 0))/\σ1[l]?=aa (.cells E cs)/\l∉ks /\
  Dg (oD cs o) (iL ks res)=aa ps/\ar ps/\vt ks.length res=ab/\kh ks σ1=aa σ'/\kP σ'=ab/\dX ks=ab/\(∀j,j<a->ks[j]?=aa j)
def dW.Qn{X:Cx P}(hT:dj P T){f:aM}{fn:Func}{args:List D}{σ':ι->List bm}(hf:P.funcs[f]?=aa fn)(Y:(fn.name== "runtime.NumGoroutine")=ae)(hb:fn.body=aa c)(hlen:args.length<=fn.ntmps)(h:∀s a,cx fn.ntmps σ s (je 0 args) a->aF σ s->∀(b:aU) (k:List Item) (cs:List aU) (S:ak->St->Prop),b.kind≠.early->b.roundOf=af ->
  (∀e φ' σ1 s' a',(∃j,JA T fn σ.length (res j) (σ' j) e φ' σ1)->cx fn.ntmps σ1 s' φ' a'->aF σ1 s'->cO σ s σ1 s'->ends X S b k cs e a' s')->fA X S (G (b.aT a (.code c::k)) cs) s):dW X f args σ res σ':=by
 refine⟨⟨fn,hf,Y,by rw[hb];rfl⟩,λs vs hr hh S cs hS=>?_⟩;obtain⟨hl,hg⟩:=cn.get hr;let b:aU:={fn:=f,tmps:=#[],todo:=[],defers:=[],mode:=.run,kind:=.normal,roundOf:=af}
 have I:Frame.enter P f vs.toArray .normal=b.aT {tmps:=vs.toArray++Array.replicate (fn.ntmps-vs.toArray.size) ai,defers:=[]} [.code c]:=by simp[Frame.enter,Frame.aT,hf,hb,b]
 rw[I];refine h s {tmps:=vs.toArray++Array.replicate (fn.ntmps-vs.toArray.size) ai,defers:=[]} ⟨by simp;omega,⟨[],aq⟩,λt=>?_⟩ hh b [] cs S (by simp[b]) rfl ?_
 .rw[nP];simp only[j9,bY,l8];have:=hg t;rcases cM t vs.length with uS|RZ
  .have e:(vs.toArray++Array.replicate (fn.ntmps-vs.toArray.size) ai).getD t ai=(vs[t]?).getD ai:=by simp only[dK];grind
   rw[e];exact this
  .rw[qC (by omega)];trivial
 .rintro e φ' σ0 s0 a1 ⟨jj,Z,ks,l,E,Yc,t,ty,it,ps,o,q0,q1,q2,q3,q4,q5,q6,q7,h3,h4,h5,h6',h7',h8,h9⟩ f0 h0 V2;obtain⟨h7,h7n⟩:=yh h7';have A:=f0.slot t;rw[q5]at A;obtain⟨_,L,bb,p,U2,Wv⟩:=A;obtain⟨b2,d,VG,N,Yd,hM⟩:=h0.box l _ L q6 p;subst VG;cases U2;let M':Mem:=λm o=>if m=bb then d[o]? else s0.M m o;have Ye:∀o v,d[o]?=aa v->s0.w.cell? ⟨bb,o,af⟩=aa v:=λo v ho=>by simpa[aR,N]using ho
  have Sl:∀m o v,s0.M m o=aa v->M' m o=aa v:=λm o v hv=>by grind
  have Yf:∀m o v,M' m o=aa v->s0.w.cell? ⟨m,o,af⟩=aa v:=λm o v hv=>by
   by_cases e:m=bb
   .grind
   .simp only[M',e,b6]at hv;exact h0.mem m o v hv
  obtain⟨h',H⟩:=h0.gy (M':=M') (w':=s0.w) (B':=.dead) (L':=⟨.pointer (aa ⟨bb,0,af⟩),[]⟩) q6 p rfl (ba _) (λ_ _ _=>rfl) (λm _ Q o=>by grind) Sl Yf (by simp) rfl rfl rfl aq
  have UY:eR s0 ⟨s0.β.set l ⟨.pointer (aa ⟨bb,0,af⟩),[]⟩,M',s0.w,s0.own⟩:=⟨rfl,Sl,λm Q o=>by
   have:m≠bb:=by rintro rfl;exact Q _ (bL p) (by simp)
   simp only[M',this,b6],Yf,λm Q=>by grind⟩
  have f':cx fn.ntmps (σ0.set l .dead) ⟨s0.β.set l ⟨.pointer (aa ⟨bb,0,af⟩),[]⟩,M',s0.w,s0.own⟩ φ' a1:=⟨f0.size,f0.defers.imp λ_ h1=>h1.mono H.ext,λu=>(f0.slot u).mono H.ext h0.len⟩
  have h6:=FV (x:=bm.dead) h6' q7;have W:dT (σ0.set l .dead) ⟨s0.β.set l ⟨.pointer (aa ⟨bb,0,af⟩),[]⟩,M',s0.w,s0.own⟩ d Yc:=Yd.mono H.ext h0.len;have st:=V2.trans (H.oe h0);let V:aj:=match o with|none=>.agg d.toArray|some q=>.tuple #[.agg d.toArray,a1.tmps.getD q.1 ai]
  have K:∀w,(∀b o u,M' b o=aa u->w.cell? ⟨b,o,af⟩=aa u)->(results fn a1.tmps).run P w=.ok V w/\∀e∈(results fn a1.tmps).events P w #[],∃b o u,e=⟨.cell ⟨b,o,af⟩,ae,ae⟩/\M' b o=aa u:=by
   intro w hw;have O:=hT ty it q2;have Yg:d.length=it.size:=by rw[Yd.length,q4]
   have Mi:∀j v,d[j]?=aa v->w.cell? ⟨bb,0+j,af⟩=aa v:=λj v hj=>hw _ _ _ (by grind);have U:=run_loadCells_list (P:=P) w ⟨bb,0,af⟩ d (λj v hj=>by rw[de];exact Mi j v hj);rw[Yg]at U;have GA:(loadVar ty ⟨bb,0,af⟩).run P w=.ok (.agg d.toArray) w:=by simp only[loadVar,bU,O.jV,cw,q3];simp[O.run_sizeOf,U]
   have UJ:fn.results=(ResultVar.cell t ty::oR o).toArray:=by apply Array.ext';simpa using q1
   have J:asAddr (a1.tmps[t]?.getD ai)=(pure ⟨bb,0,af⟩:Sem Addr):=by rw[<-dK,Wv];rfl
   refine⟨by cases o<;>simp[results,UJ,J,GA,V,oR],λe Z=>?_⟩;have SE:e∈(loadVar ty ⟨bb,0,af⟩).events P w #[]:=by cases o<;>simpa[results,UJ,J,GA,oR]using Z
   obtain⟨j,hj,rfl⟩:=jW O (w:=w) (n:=d.length) (λj hj=>⟨_,Mi j d[j] (bn hj)⟩) (by rw[q3,Yg];simp) e SE;exact⟨bb,0+j,d[j],rfl,by grind⟩
  have fin:∀(fr:aU) s2,bZ (⟨s0.β.set l ⟨.pointer (aa ⟨bb,0,af⟩),[]⟩,M',s0.w,s0.own⟩:St) s2->fr.fn=f->fr.tmps=a1.tmps->fr.defers=a1.defers->fr.mode=.returning->fr.kind=.normal->fA X S (G fr cs) s2:=by
   intro fr s2 ri e1 e2 e3 e4 e5;have f2:=f'.rely ri h';have r:=h'.rely ri;have g:=st.trans ri.stepW;have r2:dk (σ0.set l .dead) s2 V (oD Yc o):=by
    have Yh:=W.mono ri.stepW.ext h'.len;cases o with
    |none=>exact⟨d,rfl,Yh⟩
    |some q =>
     have hx:=f2.slot q.1;rw[q0 q rfl]at hx;exact⟨[.agg d.toArray,a1.tmps.getD q.1 ai],rfl,⟨d,rfl,Yh⟩,hx,aq⟩
   obtain⟨i,F⟩:=zo (l':=s2.β) h6 r.len;have r4:=(qI h3 h4 r2).sub h6 F h5;obtain⟨c1,c2⟩:=iw h6;obtain⟨d1,d2⟩:=iw F;have R:∀L∈i,L∈s2.β:=zt F;have R4:aF (σ' jj) {s2 with β:=i}:=by obtain⟨g1,_⟩:=r.sub h6 F h7 h8;refine⟨g1.mem,g1.len,λj B L hB p=>?_,g1.fY,g1.lt,λb hb=>⟨(r.own b hb).1,λL p=>(r.own b hb).2 L (R L p)⟩⟩;exact eQ.plain (σ:=σ' jj) (s:={s2 with β:=i,own:=zr s2 i}) (s':={s2 with β:=i}) rfl rfl (kA h7 B (bL hB)) (g1.box j B L hB p)
   have Tk:cO σ s (σ' jj) {s2 with β:=i}:=by refine⟨g.size,g.keep,g.mem,g.iI,λL p b hb=>g.uP _ (R L p) b hb,λl B L hB p=>?_,g.os,g.tape,g.output,g.own⟩;have hl:l<σ.length:=(cf.1 hB).1;obtain⟨B',L',p1,p2,p3⟩:=g.box l B L hB p;grind
   obtain⟨ls,P8⟩:=f2.defers;refine qN ls fr s2 _ r.kg (by grind) e4 (by rw[e3];exact P8.taken r) λs3 z=>?_;have C:bZ {s2 with β:=i} {s3 with β:=i}:=by
    refine⟨rfl,z.M,z.own,z.size,λb hb=>z.keep b (hb.imp id ?_),z.mem,z.os,z.tape,z.output⟩;rintro⟨L,p,hb⟩;obtain⟨j,hj,rfl⟩:=dL p;have Yi:j<ks.length:=by rw[<-d1];exact hj
    obtain⟨y,y1,y2⟩:=d2 j _ (bn Yi);obtain⟨x,x1,x2⟩:=c2 j _ (bn Yi);rw[bn hj]at y1;cases y1;refine⟨_,_,y2,λhc=>?_,hb⟩;rw[P8.BA _ hc]at x2;cases x2;exact mV h7n _ (bL x1) rfl
   have hG:eR s3 {s3 with β:=i}:=⟨rfl,λ_ _ _ h=>h,λ_ _ _=>rfl,λb o v hv=>z.mem b o v (by rw[<-z.M];exact hv),λb hb=>hb.imp id λ⟨L,p,hb⟩=>⟨L,by rw[z.β];exact R L p,hb⟩⟩
   have Ww:s2.M=M':=ri.M;refine .ghost hG (hS jj _ V _ ⟨e1,e4,rfl,e5,fn,by grind,λw hw=>?_⟩ (r4.mono C.stepW.ext R4.len) (R4.rely C) (Tk.trans C.stepW));show(results fn fr.tmps).run P w=_/\∀e∈(results fn fr.tmps).events P w #[],_;rw[e2];have Yj:∀b o u,M' b o=aa u->w.cell? ⟨b,o,af⟩=aa u:=λb o u h=>hw b o u (by show s3.M b o=aa u;rw[z.M,Ww];exact h);refine⟨(K w Yj).1,λe Z=>?_⟩;obtain⟨b,o,u,q1,q2⟩:=(K w Yj).2 e Z;exact⟨b,o,u,q1,by show s3.M b o=aa u;rw[z.M,Ww];exact q2⟩
  rcases Z with rfl|rfl
  .intro pre;exact .ghost UY (.ctl h' rfl (λ_=>Dq rfl) λs2 ri=>fin _ s2 ri rfl rfl (lr _) rfl rfl)
  .exact .ghost UY (.ctl h' rfl (λ_=>Dr rfl) λs2 ri=>fin _ s2 ri rfl rfl (lr _) rfl rfl)
def dW.mb{X:Cx P}(m:dj P T){f:aM}{fn:Func}{args:List D}{σ':ι->List bm}(i:P.funcs[f]?=aa fn)(d:(fn.name== "runtime.NumGoroutine")=ae)(hb:fn.body=aa c)(g:bC args.length fn.ntmps=ab)(h:Fits args σ->AK X fn.ntmps (λe φ σ1=>∃j,JA T fn σ.length (res j) (σ' j) e φ σ1) [.code c] .normal (je 0 args) σ):dW X f args σ res σ':=by refine⟨⟨fn,i,d,by rw[hb];rfl⟩,λs0 vs hr Ou=>?_⟩;have:=dW.Qn (X:=X) (σ':=σ') (res:=res) m i d hb (ez g) λs a f hh b k cs S l _ n=>(show AW X fn.ntmps c _ (je 0 args) σ from AK.of_code (h ⟨s0,vs,hr,Ou⟩)) s a f hh b k cs S l n;exact this.2 s0 vs hr Ou
def dT.set{σ:List bm}{s:St}{a:A}{v:aj}:∀{vs:List aj}{cs:List A}{j:Nat},dT σ s vs cs->vs[j]?=aa v->gD σ s v a->dT σ s vs (cs.set j a)
 |[],[],_,_,h,_=>by grind
 |[],_::_,_,h,_,_=>h.elim
 |_::_,[],_,h,_,_=>h.elim
 |u::vs,c::cs,0,h,d,b=>by simp at d;subst d;exact⟨b,h.2⟩
 |u::vs,c::cs,j+1,h,d,b=>⟨h.1,dT.set h.2 (by grind) b⟩
section
variable {X:Cx P}
def AK.iv(l j:Nat)(E k:Nat)(es':Nat->List C){E0:av}{cs:List A}{k':Nat}{t:Nat->List C}(hl:eB l σ=aa (.cells E0 cs))(hj:eB j cs=aa (.c (.sl ab k' 0 t)))(kk:AK X N Qf (.code c::K) .normal φ ((σ++[bm.vec E k 0 es']).set l (.cells E0 (cs.set j (.vec σ.length k 0 es'))))):AK X N Qf (.code c::K) .normal φ σ:=by
 refine AK.ghost (λs a D hh=>?_) kk;have F:=cU hl;have I:=cU hj;have G:l<σ.length:=(cf.1 F).1;have o:l<s.β.length:=by rw[hh.len];grind
 have z:=bn o;generalize s.β[l]=L at z;obtain⟨b,vs,p,d,n,S⟩:=hh.box l _ L F z;obtain⟨v,Q,O⟩:=n.get I;have h1:Rd s.M v (.sl ab k 0 es'):=(Rd.zf (k:=k') (k':=k) (.inr rfl) O).Dl λi hi=>by omega
 have q:eQ (σ++[bm.vec E k 0 es']) {s with β:=s.β++[⟨v,[]⟩]} (.vec E k 0 es') ⟨v,[]⟩:=⟨h1.loose,.inl ⟨⟨rfl,rfl⟩,h1⟩⟩;obtain⟨H,g2⟩:=hh.hU (.refl _ _) rfl hh q (by simp)
 have r:(σ++[bm.vec E k 0 es'])[l]?=aa (.cells E0 cs):=by grind
 have y:(s.β++[(⟨v,[]⟩:Loc)])[l]?=aa L:=by grind
 have m:(s.β++[(⟨v,[]⟩:Loc)]).set l L=s.β++[⟨v,[]⟩]:=by apply g9;grind
 have x:hX (.cells E0 cs) L (.cells E0 (cs.set j (.vec σ.length k 0 es'))) L:=rfl;have J:σ.length≠l:=by omega
 have f:eQ ((σ++[bm.vec E k 0 es']).set l (.cells E0 (cs.set j (.vec σ.length k 0 es')))) ⟨(s.β++[(⟨v,[]⟩:Loc)]).set l L,s.M,s.w,s.own⟩ (.cells E0 (cs.set j (.vec σ.length k 0 es'))) L:=by
  rw[m];refine⟨b,vs,p,d,?_,S⟩;have ex:Ext (σ++[bm.vec E k 0 es']) {s with β:=s.β++[⟨v,[]⟩]} ((σ++[bm.vec E k 0 es']).set l (.cells E0 (cs.set j (.vec σ.length k 0 es')))) {s with β:=s.β++[⟨v,[]⟩]}:=by
   refine⟨λ_ _ _ h=>h,λi B L' lW gh=>?_⟩;by_cases e:l=i
   .grind
   .exact⟨B,L',by grind,gh,.refl _ _⟩
  have g:dT (σ++[bm.vec E k 0 es']) {s with β:=s.β++[⟨v,[]⟩]} vs cs:=n.mono g2.ext hh.len;refine dT.set (g.mono ex H.len) Q ?_;refine⟨h1.loose,by simp,λE2 k2 n2 Dm h=>?_⟩;rw[kM (by omega),fR (by omega),Nat.sub_self]at h;cases h;refine⟨ba _,λ_=>⟨⟨v,[]⟩,?_,rfl⟩⟩;simp[<-hh.len]
 obtain⟨R,q2⟩:=H.gy (M':=s.M) (w':=s.w) (L':=L) r y x (ba _) (λ_ _ _=>rfl) (λ_ _ _ _=>rfl) (λ_ _ _ h=>h) hh.mem (λb hb=>⟨.inl hb,hh.lt L (bL z) b hb⟩) rfl rfl rfl f;have st:=g2.trans q2;exact⟨⟨(s.β++[(⟨v,[]⟩:Loc)]).set l L,s.M,s.w,s.own⟩,rfl,⟨D.size,D.defers.imp λ_ h1=>h1.mono st.ext,λu=>(D.slot u).mono st.ext hh.len⟩,R,st⟩
end
section
variable {X:Cx P}
def AK.Qu(t:Nat)(E k:Nat)(es':Nat->List C){k':Nat}{d:Nat->List C}(h:look φ t=.e (.one (.c (.sl ab k' 0 d))))(kk:AK X N Qf (.code c::K) .normal ((t,.e (.one (.bp σ.length (.sl 0 k 0 0))))::φ) (σ++[.buf E k 0 es'])):AK X N Qf (.code c::K) .normal φ σ:=by
 refine AK.ghost (λs a b hh=>?_) kk;have f:=b.slot t;rw[h]at f;obtain⟨g,g2⟩:=hh.hU (B:=.buf E k 0 es') (L:=⟨.slice af 0 0,[]⟩) (.refl _ _) rfl hh (.inl ⟨rfl,rfl⟩) (by simp);refine⟨{s with β:=s.β++[⟨.slice af 0 0,[]⟩]},rfl,⟨b.size,b.defers.imp λ_ h1=>h1.mono g2.ext,λu=>?_⟩,g,g2⟩;simp only[look];cases hb:az t u with
 |false=>exact(b.slot u).mono g2.ext hh.len
 |true =>
  have e:=b5 hb;subst e;exact uO (E:=E) (es:=es') (fM f) (by simp) (by simp[<-hh.len])
def AK.wv(l j:Nat)(E k:Nat)(es':Nat->List C){E0:av}{cs:List A}{k':Nat}{t:Nat->List C}(hl:eB l σ=aa (.cells E0 cs))(hj:eB j cs=aa (.c (.sl ab k' 0 t)))(kk:AK X N Qf (.code c::K) .normal φ ((σ++[bm.buf E k 0 es']).set l (.cells E0 (cs.set j (.bp σ.length (.sl 0 k 0 0)))))):AK X N Qf (.code c::K) .normal φ σ:=by
 refine AK.ghost (λs a F hh=>?_) kk;have G:=cU hl;have J:=cU hj;have H:l<σ.length:=(cf.1 G).1;have p:l<s.β.length:=by rw[hh.len];grind
 have z:=bn p;generalize s.β[l]=L at z;obtain⟨b,vs,q,f,o,T⟩:=hh.box l _ L G z;obtain⟨v,Q,O⟩:=o.get J;let d:Loc:=⟨.slice af 0 0,[]⟩
 obtain⟨I,g2⟩:=hh.hU (B:=.buf E k 0 es') (L:=d) (.refl _ _) rfl hh (.inl ⟨rfl,rfl⟩) (by grind);have r:(σ++[bm.buf E k 0 es'])[l]?=aa (.cells E0 cs):=by grind
 have y:(s.β++[d])[l]?=aa L:=by grind
 have n:(s.β++[d]).set l L=s.β++[d]:=by apply g9;grind
 have x:hX (.cells E0 cs) L (.cells E0 (cs.set j (.bp σ.length (.sl 0 k 0 0)))) L:=rfl;have g:eQ ((σ++[bm.buf E k 0 es']).set l (.cells E0 (cs.set j (.bp σ.length (.sl 0 k 0 0))))) ⟨(s.β++[d]).set l L,s.M,s.w,s.own⟩ (.cells E0 (cs.set j (.bp σ.length (.sl 0 k 0 0)))) L:=by
  rw[n];refine⟨b,vs,q,f,?_,T⟩;have ex:Ext (σ++[bm.buf E k 0 es']) {s with β:=s.β++[d]} ((σ++[bm.buf E k 0 es']).set l (.cells E0 (cs.set j (.bp σ.length (.sl 0 k 0 0))))) {s with β:=s.β++[d]}:=by
   refine⟨λ_ _ _ h=>h,λi B L R D=>?_⟩;by_cases e:l=i
   .grind
   .exact⟨B,L,by grind,D,.refl _ _⟩
  have m:dT (σ++[bm.buf E k 0 es']) {s with β:=s.β++[d]} vs cs:=o.mono g2.ext hh.len;exact dT.set (m.mono ex I.len) Q (uO (E:=E) (es:=es') O (by grind) (by simp[<-hh.len,d]))
 obtain⟨S,q2⟩:=I.gy (M':=s.M) (w':=s.w) (L':=L) r y x (ba _) (λ_ _ _=>rfl) (λ_ _ _ _=>rfl) (λ_ _ _ h=>h) hh.mem (λb hb=>⟨.inl hb,hh.lt L (bL z) b hb⟩) rfl rfl rfl g;have st:=g2.trans q2;exact⟨⟨(s.β++[d]).set l L,s.M,s.w,s.own⟩,rfl,⟨F.size,F.defers.imp λ_ h1=>h1.mono st.ext,λu=>(F.slot u).mono st.ext hh.len⟩,S,st⟩
end
def qK:Nat->(Nat->List C)->Nat->List C
 |0,es=>es
 |o+1,es=>k9 (o+1) es
def uV(o:Nat)(es:Nat->List C)(i:Nat):qK o es i=es (o+i):=by cases o<;>simp[qK,k9]
def Aa(l k n:Nat)(es:Nat->List C)(a:A):Option (A×List Prop):=match GH l a with
 |true=>aa (a,[])
 |false=>match a with
  |.bp l' (.sl g k' o m)=>match az l' l,az k' k with
   |true,ab=>aa (.c (.sl ae k m (qK o es)),[g=n,o+m<=n])
   |_,_=>af
  |_=>af
def Ab(l k n:Nat)(es:Nat->List C):List A->Option (List A×List Prop)
 |[]=>aa ([],[])
 |a::r=>match Aa l k n es a with
  |some (a',p)=>match Ab l k n es r with
   |some (r',q)=>aa (a'::r',jY p q)
   |none=>af
  |none=>af
def wx(l k n:Nat)(es:Nat->List C):E1->Option (E1×List Prop)
 |.one a=>match Aa l k n es a with|some (a,p)=>aa (.one a,p)|none=>af
 |.agg cs=>match Ab l k n es cs with|some (cs,p)=>aa (.agg cs,p)|none=>af
def u6(l k n:Nat)(es:Nat->List C):List E1->Option (List E1×List Prop)
 |[]=>aa ([],[])
 |a::r=>match wx l k n es a with
  |some (a',p)=>match u6 l k n es r with
   |some (r',q)=>aa (a'::r',jY p q)
   |none=>af
  |none=>af
def wy(l k n:Nat)(es:Nat->List C):D->Option (D×List Prop)
 |.e x=>match wx l k n es x with|some (x,p)=>aa (.e x,p)|none=>af
 |.fK xs=>match u6 l k n es xs with|some (xs,p)=>aa (.fK xs,p)|none=>af
 |.any=>aa (.any,[])
section
variable {σ1:List bm}{s2:St}{E:Nat}
structure lM(σ1:List bm)(E k n:Nat)(es:Nat->List C)(s s2:St):Prop where
 keep:∀v a,gD (σ1++[.buf E k n es]) s v a->GH σ1.length a=ab->gD σ1 s2 v a
 ID:∀v k' o m,gD (σ1++[.buf E k n es]) s v (.bp σ1.length (.sl n k' o m))->k'=k->o+m<=n->Rd s2.M v (.sl ae k m (qK o es))
def lM.a(h:lM σ1 E k n es s s2){v:aj}{a a':A}{ps:List Prop}(b:Aa σ1.length k n es a=aa (a',ps))(d:ar ps)(r:gD (σ1++[.buf E k n es]) s v a):gD σ1 s2 v a':=by
 unfold Aa at b;split at b
 .rename_i c;cases b;exact h.keep v a r c
 .split at b
  .rename_i l' g k' o m _;split at b
   .rename_i e1 e2;cases b;have e1:=b5 e1;have e2:=b5 e2;subst e1 e2;obtain⟨rfl,h2⟩:g=n/\o+m<=n:=d;exact h.ID v _ _ _ r rfl h2
   grind
  grind
def lM.cl(h:lM σ1 E k n es s s2):∀{vs:List aj}{cs lZ:List A}{ps:List Prop},Ab σ1.length k n es cs=aa (lZ,ps)->ar ps->dT (σ1++[.buf E k n es]) s vs cs->dT σ1 s2 vs lZ
 |[],[],_,_,b,_,_=>by cases b;trivial
 |[],_::_,_,_,_,_,r=>r.elim
 |_::_,[],_,_,_,_,r=>r.elim
 |v::vs,c::cs,lZ,ps,b,d,r=>by
  simp only[Ab]at b;split at b
  .rename_i a' p h1;split at b
   .rename_i r' q h2;cases b;rw[ar.cat]at d;exact⟨h.a h1 d.1 r.1,h.cl h2 d.2 r.2⟩
   grind
  grind
def lM.e(h:lM σ1 E k n es s s2){x c:E1}(b:wx σ1.length k n es x=aa (c,ps))(d:ar ps)(r:nq (σ1++[.buf E k n es]) s v x):nq σ1 s2 v c:=by
 cases x with
 |one a =>
  simp only[wx]at b;split at b
  .rename_i a' p h1;cases b;exact h.a h1 d r
  grind
 |agg cs =>
  simp only[wx]at b;split at b
  .rename_i a' p h1;cases b;obtain⟨vs,g,f⟩:=r;exact⟨vs,g,h.cl h1 d f⟩
  grind
def lM.es'(h:lM σ1 E k n es s s2):∀{vs:List aj}{cs lZ:List E1}{ps:List Prop},u6 σ1.length k n es cs=aa (lZ,ps)->ar ps->gN (σ1++[.buf E k n es]) s vs cs->gN σ1 s2 vs lZ
 |[],[],_,_,a,_,_=>by cases a;trivial
 |[],_::_,_,_,_,_,r=>r.elim
 |_::_,[],_,_,_,_,r=>r.elim
 |v::vs,c::cs,lZ,ps,a,b,r=>by
  simp only[u6]at a;split at a
  .rename_i a' p h1;split at a
   .rename_i r' q h2;cases a;rw[ar.cat]at b;exact⟨h.e h1 b.1 r.1,h.es' h2 b.2 r.2⟩
   grind
  grind
def lM.d(h:lM σ1 E k n es s s2){x b:D}(a:wy σ1.length k n es x=aa (b,ps))(c:ar ps)(r:dk (σ1++[.buf E k n es]) s v x):dk σ1 s2 v b:=by
 cases x with
 |e x =>
  simp only[wy]at a;split at a
  .rename_i a' p h1;cases a;exact h.e h1 c r
  grind
 |fK xs =>
  simp only[wy]at a;split at a
  .rename_i a' p h1;cases a;obtain⟨vs,g,f⟩:=r;exact⟨vs,g,h.es' h1 c f⟩
  grind
 |any=>cases a;trivial
def aF.ID(hh:aF (σ1++[.buf E k n es]) s)(C:xN σ1.length σ1=ab):
  ∃s2:St,aF σ1 s2/\eR s s2/\lM σ1 E k n es s s2/\∀{σ0:List bm} {s0:St},cO σ0 s0 (σ1++[.buf E k n es]) s->σ0.length<=σ1.length->cO σ0 s0 σ1 s2:=by
 have B:(σ1++[bm.buf E k n es])[σ1.length]?=aa (.buf E k n es):=by simp
 have D:s.β.length=σ1.length+1:=by rw[hh.len];simp
 have y:s.β[σ1.length]?=aa s.β[σ1.length]:=bn (by omega);generalize s.β[σ1.length]=L at y;have q:=hh.box _ _ L B y;obtain⟨M',H,G,I,U⟩:∃M':Mem,(∀b o v,s.M b o=aa v->M' b o=aa v)/\(∀b,b∉L.bs->∀o,M' b o=s.M b o)/\(∀b o v,M' b o=aa v->s.w.cell? ⟨b,o,af⟩=aa v) /\
   (∀v k' o m,gD (σ1++[.buf E k n es]) s v (.bp σ1.length (.sl n k' o m))->k'=k->o+m<=n->Rd M' v (.sl ae k m (qK o es))):=by
  rcases q with⟨rfl,rfl⟩|⟨b,Z,vs,zs,rfl,S,T,O,V,F,hM⟩
  .refine⟨s.M,λ_ _ _ h=>h,λ_ _ _=>rfl,hh.mem,λv k' o m r e g=>?_⟩;obtain⟨lv,⟨a,a0,cap,Z,l,h1,h2,R,t,W⟩,_,K⟩:=r;grind[Rd.ic]
  .let M':Mem:=λd o=>if d=b then vs[o]? else s.M d o;have N:∀d o v,s.M d o=aa v->M' d o=aa v:=λd o v l=>by grind
   refine⟨M',N,λd Y o=>?_,λd o v l=>?_,λv k' o m r e g=>?_⟩
   .grind
   .by_cases e:d=b
    .subst e;simp only[M',bY]at l;simp only[aR,S];grind
    .simp only[M',e,b6]at l;exact hh.mem d o v l
   .subst e;obtain⟨lv,⟨a,a0,cap,c1,l,h1,h2,R,t,W⟩,_,K⟩:=r;obtain⟨L',f,A⟩:=(K _ _ _ _ B).2 rfl;rw[y]at f;cases f;rw[t]at A;cases A;rw[l];have z:∀i,i<m->∀j c,(qK o es i)[j]?=aa c->∃u,vs[(o+i)*k'+j]?=aa u/\Rd s.M u c:=λi hi j c hj=>by rw[uV]at hj;exact F.rd (o+i) (by omega) j c hj
    refine .sl b (o*k') (λi j=>(vs[(o+i)*k'+j]?).getD ai) h1 (by omega) (by simp) (λi hi=>by rw[uV];exact F.width _ (by omega)) (λhm=>?_) (λi hi j c hj=>?_) (λi hi j c hj=>?_)
    .grind
    .grind
    .obtain⟨u,u1,Q⟩:=z i hi j c hj;rw[u1];exact Q.mono N
 have x:(σ1++[bm.buf E k n es]).set σ1.length .dead=σ1++[.dead]:=by simp
 obtain⟨J,q2⟩:=hh.gy (M':=M') (w':=s.w) (B':=.dead) (L':=⟨L.v,[]⟩) B y aq (ba _) (λ_ _ _=>rfl) (λb _ hb o=>G b hb o) H I (by simp) rfl rfl rfl aq;rw[x]at J q2;have q3:=J.drop (rest:=[.dead]) C;refine⟨_,q3,⟨rfl,H,λb hb o=>G b (hb L (bL y)) o,I,λb hb=>?_⟩,⟨λv a r p=>?_,λv k' o m r e g=>U v k' o m r e g⟩,λ{σ0 s0} st hle=>(st.trans (q2.oe hh)).drop (rest:=[.dead]) hle⟩
 .rcases hb with hb|⟨L',f,hb⟩
  .exact .inl hb
  .have:=jR f;grind
 .exact(r.mono q2.ext hh.len).drop (rest:=[.dead]) p
end
def dW.FZ{X:Cx P}{f:aM}{args:List D}{res':ι->D}{σ1:ι->List bm}{E:Nat}{n:ι->Nat}{es:ι->Nat->List C}(h:dW X f args σ res (λi=>σ1 i++[.buf E k (n i) (es i)])){ps:ι->List Prop}(c:∀i,wy (σ1 i).length k (n i) (es i) (res i)=aa (res' i,ps i))(e:∀i,ar (ps i))(b:∀i,xN (σ1 i).length (σ1 i)=ab)(a:∀i,σ.length<=(σ1 i).length):dW X f args σ res' σ1:=by refine⟨h.1,λs vs hr hh S cs hS=>h.2 s vs hr hh S cs λi fr v s' hl lY jL st=>?_⟩;obtain⟨s2,c1,c2,c3,c4⟩:=jL.ID (b i);exact .ghost c2 (hS i fr v s2 (hl.mono c2.mem) (c3.d (c i) (e i) lY) c1 (c4 st (a i)))
def Ev.FZ{P:aK}{X:Cx P}{f:aM}{args:List D}{σ:List bm}{res res':D}{σ1:List bm}{E k n:Nat}{es:Nat->List C}(h:Ev X f args σ res (σ1++[.buf E k n es])){ps:List Prop}(c:wy σ1.length k n es res=aa (res',ps))(d:ar ps)(b:xN σ1.length σ1=ab)(a:σ.length<=σ1.length):Ev X f args σ res' σ1 :=
 (dW.FZ (ι:=Unit) h.Dx (λ_=>c) (λ_=>d) (λ_=>b) (λ_=>a)).GI
section
def zz(h:o.op=.call {callee:=.builtin .clear,args:=#[x],argTypes:=#[t]})(a:aE->aj):
  an a o=(do pure (.value (<-Builtin.clear_ #[t] o.type #[a x]))):=by simp[an,h,resolve,invoke,builtin]
def IC{z:aj}{e:List C}{m:Nat}(l:z.cells.toList.map qJ=e.map aa)(o:e.length=k):Flat M k m (λ_=>e) (Builtin.zeroCells z.cells m).toList:=by
 have b:z.cells.size=k:=by have:=dA List.length l;grind
 have h:dT [] ⟨[],M,default,λ_=>False⟩ z.cells.toList (e.map A.c):=ky l;refine⟨by simp[Builtin.zeroCells,b],λ_ _=>o,λi hi j c s=>?_⟩;have n:j<k:=by grind
 obtain⟨v,v1,p⟩:=h.get (j:=j) (a:=A.c c) (by grind);refine⟨v,?_,p⟩;have f:i*k+j<m*k:=by
  have:i*k+k<=m*k:=by rw[<-kN];exact ek k hi
  omega
 have d:(i*k+j) % k=j:=by grind[Nat.add_mul_mod_self_right,Nat.mod_eq_of_lt]
 have q:j<z.cells.size:=by omega
 have r:z.cells[j]=v:=by grind
 have g:z.cells[j]! = v:=by grind
 simp[Builtin.zeroCells,b,f,d,g]
def bF.Dz(Z:dj P T)(h:o.op=.call {callee:=.builtin .clear,args:=#[x],argTypes:=#[t]}){i:TI}(hi:bG T t=aa i)(hd:i.desc=.slice E)(hE:bG T E=aa ie){q m:Nat}{G:av}(hx:η x=.e (.one (.bp l (.sl n ie.size q m))))(hl:σ[l]?=aa (.buf G ie.size n es))(C:q+m<=n):
  bF P o η σ .any (σ.set l (.buf G ie.size n (nQ q (q+m) ie.zero es))):=by
 intro s ρ hh hr;have h1:=hr x;rw[hx]at h1;change gD σ s (ρ x) (.bp l _)at h1;obtain⟨lv,⟨a,a0,cap,c0,hv,UM,RQ,hc3,K,H⟩,_,N⟩:=h1;obtain⟨L,O,r⟩:=(N _ _ _ _ hl).2 rfl;rw[K]at r;have c:=(Z t i hi).RS;rw[hd]at c;rw[zz h,hv];by_cases hm:m=0
 .subst hm;have hz:nQ q (q+0) ie.zero es=es:=by funext j;simp only[nQ];grind
  have hs:σ.set l (.buf G ie.size n es)=σ:=by apply g9;grind
  rw[hz,hs];refine⟨.value (.tuple #[]),s,?_,aq,hh,.refl _ _,?_⟩
  .cases a<;>simp[Builtin.clear_,run_underlying c]
  .intro Q g;cases a<;>simp[Builtin.clear_,run_underlying c,aP]at g
 .obtain⟨b,rfl,rfl⟩:=H (by omega);rcases hh.box l _ L hl O with⟨_,rfl⟩|⟨b',c1,vs,B,rfl,d,R,J,S,W,Y⟩
  .cases r
  .cases r;obtain⟨inf,z,X,z2,z3,U,z5,z6,z7⟩:=(Z E ie hE).info;have k:=IC (M:=s.M) (m:=m) z5 z7;have V:(Builtin.zeroCells z.cells m).toList.length=m*ie.size:=k.len;have Pk:=W.len;have hb:q*ie.size+m*ie.size<=n*ie.size:=by rw[<-gI];exact ek _ C
   have q2:=W.Sg k C;have he:(λi=>if q<=i/\i<q+m then(λ_=>ie.zero) (i-q)else es i)=nQ q (q+m) ie.zero es:=rfl;rw[he]at q2;obtain⟨t1,t2⟩:=hh.ee hl O R J S d q2 (by grind) Y;have f:∀v∈(Builtin.zeroCells z.cells m).toList,v.oneCell'=ab:=k.cell;have p:=run_storeCells_at P b (q*ie.size) G (Builtin.zeroCells z.cells m).toList 0 (vs++B).toArray s.w d (by grind) f;have A:((vs++B).toArray.toList.take (q*ie.size+0)++(Builtin.zeroCells z.cells m).toList++(vs++B).toArray.toList.drop (q*ie.size+0+(Builtin.zeroCells z.cells m).toList.length))=vs.take (q*ie.size)++(Builtin.zeroCells z.cells m).toList++vs.drop (q*ie.size+(Builtin.zeroCells z.cells m).toList.length)++B:=by grind
   rw[A]at p;have y:∀u,(zeroValue E).run P u=.ok z u:=λu=>by simp[zeroValue,typeInfo,X,U]
   have I:∀u es,(zeroValue E).events P u es=es:=λu es=>by simp[zeroValue,typeInfo,X,U,aP]
   obtain⟨F,rfl⟩:∃F,m=F+1:=⟨m-1,by omega⟩
   refine⟨.value (.tuple #[]),_,?_,aq,t1,t2,?_⟩
   .simp[Builtin.clear_,run_underlying c,y,p]
   .intro Q g;have D:Q∈(storeCells ⟨b,q*ie.size,af⟩ (Builtin.zeroCells z.cells (F+1)).toList).events P s.w #[]:=by simp only[Builtin.clear_,aP,gT,iF]at g;simpa[run_underlying c,y,I,p]using g
    rcases eh (Builtin.zeroCells z.cells (F+1)).toList 0 (vs++B).toArray s.w #[] d (by grind) f Q D with Ou|⟨j,_,_,rfl⟩
    .grind
    .exact k7 (bL O) (by simp) (Y _)
end
section
variable {X:Cx P}
def AK.Qc{φ':Fr}(h:∀s a,cx N σ s φ a->aF σ s->∃s':St,s'.w=s.w/\cx N σ' s' φ' a/\aF σ' s'/\Step σ s σ' s')(k:AK X N Qf (.ops all rest::K) .normal φ' σ'):AK X N Qf (.ops all rest::K) .normal φ σ:=by intro s a g hh b kk cs S idx hb ia hQ;obtain⟨s',j,e,d,st⟩:=h s a g hh;have c:=st.oe hh;refine .ghost (.of hh d j c) ?_;exact k s' a e d b kk cs S idx hb ia λf σ2 s2 a2 q i h2 oq=>hQ f σ2 s2 a2 q i h2 (c.trans oq)
def AK.Tb(t:Nat)(E k:Nat)(es':Nat->List C){k':Nat}{d:Nat->List C}(h:look φ t=.e (.one (.c (.sl ab k' 0 d))))(kk:AK X N Qf (.ops all rest::K) .normal ((t,.e (.one (.bp σ.length (.sl 0 k 0 0))))::φ) (σ++[.buf E k 0 es'])):AK X N Qf (.ops all rest::K) .normal φ σ:=by
 refine AK.Qc (λs a b hh=>?_) kk;have f:=b.slot t;rw[h]at f;obtain⟨g,g2⟩:=hh.hU (B:=.buf E k 0 es') (L:=⟨.slice af 0 0,[]⟩) (.refl _ _) rfl hh (.inl ⟨rfl,rfl⟩) (by simp);refine⟨{s with β:=s.β++[⟨.slice af 0 0,[]⟩]},rfl,⟨b.size,b.defers.imp λ_ h1=>h1.mono g2.ext,λu=>?_⟩,g,g2⟩;simp only[look];cases hb:az t u with
 |false=>exact(b.slot u).mono g2.ext hh.len
 |true =>
  have e:=b5 hb;subst e;exact uO (E:=E) (es:=es') (fM f) (by simp) (by simp[<-hh.len])
def AK.FQ(B:dj P T){j d:Nat}(h:o.op=.binOp .eql t x (.const (.slice af j d)) ty){i:TI}(hi:bG T t=aa i)(F:i.desc=.slice E){tt:Bool}(v:bO φ x=.e (.one (.c (.sl tt k n es))))(C:o.guard=af)(A:gm N o.dst=ab)(kk:∀b:Bool,(b=ab->n=0)->AK X N Qf (.ops all rest::K) .normal (kO o.dst (.e (.one (.c (.bool b)))) φ) σ):AK X N Qf (.ops all (o::rest)::K) .normal φ σ:=by
 refine AK.hand (ι:={b:Bool // b=ab->n=0}) (λb=>.e (.one (.c (.bool b.1)))) (λ_=>σ) C A (λs a u hh=>?_) λb=>kk b.1 b.2;have m:=dt u x;rw[v]at m;obtain⟨ad,cap,vs,m,_,_,_,_,hm⟩:=(fM m).flat;have g:=(B t i hi).RS;rw[F]at g;have p:=fM (by have:=dt u x;rw[v]at this;exact this);have r:ad.isNone=ab->n=0:=by
  intro H;rw[m]at p;cases p with
  |sl b off f z hb ht hk ha hm hr =>
   grind
 refine⟨⟨ad.isNone,r⟩,.value (.bool ad.isNone),s,.bool ad.isNone,?_,.inl rfl,Rd.bool,hh,.refl _ _,?_⟩
 .have hr:(binOp .eql t (.slice ad n cap) (.slice af j d)).run P s.w=.ok (.bool ad.isNone) s.w:=Go.Lib.run_eql_slice_nil s.w t E ad n cap j d g;have l:∀y,eqGuard .eql t x y (.slice ad n cap) (.slice af j d)=pure ():=λy=>by simp[eqGuard]
  have e1:a.eval (.const (.slice af j d))=.slice af j d:=rfl;simp only[an,h,m,e1,l];simp[hr]
 .have D:∀es,(Op.equal t (.slice ad n cap) (.slice af j d)).events P s.w es=es:=λes=>by show(Op.equalIn (9999+1) t _ _).events P s.w es=es;unfold Op.equalIn;cases ad<;>simp[underlying,g]
  have hr:(Op.equal t (.slice ad n cap) (.slice af j d)).run P s.w=.ok ad.isNone s.w:=by show(Op.equalIn (9999+1) t _ _).run P s.w=_;grind[Go.Lib.run_equalIn_slice_nil]
  have l:∀y,eqGuard .eql t x y (.slice ad n cap) (.slice af j d)=pure ():=λy=>by simp[eqGuard]
  have e1:a.eval (.const (.slice af j d))=.slice af j d:=rfl;intro G q;exfalso;simp only[an,h,m,e1,l,binOp]at q;simp[hr,D,aP]at q
end
section
variable {X:Cx P}
def AK.Wn{φ':Fr}(k:AK X N Qf (.code c::K) .normal φ' σ'){qs:List Prop}(h1:qm φ φ'=aa ps)(b:ar ps)(h2:sV σ σ'=aa qs)(a:ar qs):AK X N Qf (.code c::K) .normal φ σ :=
 AK.norm σ' h2 a (AW.le k (dw h1 b))
def tO:List It->List It
 |.blk _::K=>tO K
 |K=>K
def AK.tO:∀{K:List It},AK X N Qf (tO K) .normal φ σ->AK X N Qf K .normal φ σ
 |[],h=>h
 |.blk _::K,h=>AK.tO (K:=K) h
 |.code _::_,h=>h
 |.ops _ _::_,h=>h
def AK.kE{S S2:Type}{c2:Code}(id:Nat){b h:List It}(h2:kD id K=aa b)(k:Go.AM.tO b=.code c2::h)(O:S2->Prop)(lX:S2->Fr)(a:S2->List bm)(n:Nat)(I:S->Prop)(fr:S->Fr)(st:S->List bm)(i:S->Nat)(x:S){qs:List Prop}(f:qm φ (fr x)=aa ps)(g:ar ps)(d:sV σ (st x)=aa qs)(e:ar qs)(m:σ.length=n)(j:I x)(round:(∀(y:S2) {φ:Fr} {σ:List bm} {ps qs:List Prop},O y->qm φ (lX y)=aa ps->ar ps->sV σ (a y)=aa qs->ar qs->AK X N Qf b .normal φ σ) ->
   ∀x,I x->AK X N (lK X N Qf K I fr st i n x) [.code c] .normal (fr x) (st x))(after:∀y,O y->AK X N Qf (.code c2::h) .normal (lX y) (a y)):AK X N Qf (.code (.loop c)::K) .normal φ σ :=
 AK.bS n I fr st i x f g d e m j (round λy _ _ _ _ l h1 g h2 e=>AK.tO (by rw[k];exact(after y l).Wn h1 g h2 e))
end
section
variable {X:Cx P}
def Yields(X:Cx P)(d:Nat)(ds:List D)(σ:List bm)(res:Bool)(σ':ι->List bm):Prop :=
 ∀s (vs:List aj) (l:Nat),cn σ s vs ds->aF σ s->(∃L,s.β[d]?=aa L/\L.v=.func (.yield l) #[] #[]) ->
  ∃fn tmps assign body,(Instr.yield l vs.toArray).run P s.w=.ok (.round l fn tmps assign body) s.w/\(Instr.yield l vs.toArray).events P s.w #[]=#[⟨.obj l,ae,ae⟩] /\
  ∀(S:ak->St->Prop) (c:aU) (cs:List aU),(∀i s',aF (σ' i) s'->cO σ s (σ' i) s'->fA X S (G (c.finish (.bool res)) cs) s') ->
   fA X S (G (Frame.round l fn tmps assign body .normal) (c::cs)) s
def me{r:Loop}(h:w.heap[l]?=aa (.loop r)):(Instr.getLoop l).run P w=.ok r w/\∀es,(Instr.getLoop l).events P w es=es.push ⟨.obj l,ae,ae⟩:=by
 have c:(getObj l).run P w=.ok (.loop r) w:=by simp only[getObj,Sem.run,h]
 have d:∀es,(getObj l).events P w es=es.push ⟨.obj l,ae,ae⟩:=λes=>by simp only[getObj,Sem.events,Sem.runT,h];rfl
 constructor
 .simp[Instr.getLoop,c]
 .intro es;simp[Instr.getLoop,c,d]
def oU{r r':Loop}(h:w.heap[l]?=aa (.loop r)):(setObj l (.loop r')).run P w=.ok () {w with heap:=w.heap.setIfInBounds l (.loop r')}/\∀es,(setObj l (.loop r')).events P w es=es.push ⟨.obj l,ab,ae⟩:=by
 constructor
 .simp only[setObj,Sem.run,h]
 .intro es;simp only[setObj,Sem.events,Sem.runT,h];rfl
def GV{r:Loop}{args:Array aj}(h:w.heap[l]?=aa (.loop r))(c:args.size=r.params.size):
  (Instr.yield l args).run P w=.ok (.round l r.fn ((r.params.zip args).foldl (λtmps (t,a)=>tmps.setIfInBounds t a) r.tmps) r.assign r.body) w/\(Instr.yield l args).events P w #[]=#[⟨.obj l,ae,ae⟩]:=by
 obtain⟨d,e⟩:=me (P:=P) h;constructor
 .simp[Instr.yield,d,c]
 .simp[Instr.yield,d,e,c]
def GW{r:Loop}(h:w.heap[l]?=aa (.loop r))(d:r.state=.ready):
  (Instr.beginRound l).run P w=.ok () {w with heap:=w.heap.setIfInBounds l (.loop {r with state:=.busy})}/\(Instr.beginRound l).events P w #[]=#[⟨.obj l,ae,ae⟩,⟨.obj l,ab,ae⟩]:=by
 obtain⟨e,f⟩:=me (P:=P) h;obtain⟨c,g⟩:=oU (P:=P) (r':={r with state:=.busy}) h;constructor
 .simp[Instr.beginRound,e,c,d]
 .simp[Instr.beginRound,e,f,c,g,d]
def zK{r:Loop}(h:w.heap[l]?=aa (.loop r))(j:Option Code):
  (Instr.endRound l j).run P w=.ok (.bool j.isNone) {w with heap:=w.heap.setIfInBounds l (.loop {r with state:=if j.isNone then .ready else .done,pending:=j})}/\(Instr.endRound l j).events P w #[]=#[⟨.obj l,ae,ae⟩,⟨.obj l,ab,ae⟩]:=by
 obtain⟨c,e⟩:=me (P:=P) h;obtain⟨d,f⟩:=oU (P:=P) (r':={r with state:=if j.isNone then .ready else .done,pending:=j}) h;constructor
 .simp only[Instr.endRound,bU,c,d,cw,cY]
 .simp only[Instr.endRound,aP,c,e,d,f,aV,Sem.events_pure];rfl
def Bx{r:Loop}(h:w.heap[l]?=aa (.loop r))(c:r.state≠.busy):
  (Instr.endLoop l).run P w=.ok r.pending {w with heap:=w.heap.setIfInBounds l (.loop {r with state:=.exhausted})}/\(Instr.endLoop l).events P w #[]=#[⟨.obj l,ae,ae⟩,⟨.obj l,ab,ae⟩]:=by
 obtain⟨d,f⟩:=me (P:=P) h;obtain⟨e,g⟩:=oU (P:=P) (r':={r with state:=.exhausted}) h;have j:(r.state==.busy)=ae:=by cases i:r.state<;>simp_all
 constructor
 .simp[Instr.endLoop,d,e,c]
 .simp[Instr.endLoop,d,f,g,c]
section steps
variable {b:aU}{a:Act}{k:List Item}{main:Bool}
def By(ho:o.op=.call {callee:=.value fo,args:=xs,argTypes:=jN})(d:a.eval fo=.func (.yield l) #[] #[]):
  (an a.eval o).run P w=(Instr.yield l (xs.toList.map a.eval).toArray).run P w/\(an a.eval o).events P w #[]=(Instr.yield l (xs.toList.map a.eval).toArray).events P w #[]:=by
 have c:xs.map a.eval=(xs.toList.map a.eval).toArray:=by grind
 constructor
 .simp[an,ho,resolve,d,Deferred.ofValue,invoke,c]
 .simp[an,ho,resolve,d,Deferred.ofValue,invoke,c]
def Jf{rest:List Nat}{fn:aM}{tmps:Array aj}{assign body:Code}(ho:ops[i]?=aa o)(e:a9 o (yielded ops a.tmps)=ab)(g:b.kind≠.early)(f:(an a.eval o).run P w=.ok (.round l fn tmps assign body) w'):
  aH P main (G (b.aT a (.inRegion ops (i::rest)::k)) cs) w=.go (G (Frame.round l fn tmps assign body .normal) (b.aT a (.inRegion ops (i::rest)::k)::cs)) w' (Go.Conc.listed P b.fn a o w):=by
 have d:(b.kind==CallKind.early)=ae:=by grind
 rw[pL ho e (λc h=>by grind[rI])];simp[stepG.apply,f,G,Frame.aT,d,GStep.after,Go.Conc.listed]
def Jg{r:Loop}(d:b.roundOf=aa l)(i:b.kind≠.early)(h:w.heap[l]?=aa (.loop r))(f:r.state=.ready):
  aH P main (G (b.aT a (.beginRound::k)) cs) w=.go (G (b.aT a k) cs) {w with heap:=w.heap.setIfInBounds l (.loop {r with state:=.busy})} (seen P b.fn #[⟨.obj l,ae,ae⟩,⟨.obj l,ab,ae⟩]):=by
 obtain⟨g,e⟩:=GW (P:=P) h f;have c:(b.kind==CallKind.early)=ae:=by grind
 simp[G,aH,stepG.exec,stepG.apply,Frame.aT,d,c,g,e,GStep.after,Frame.finish]
def Bz{r:Loop}{j:Option Code}{e:List Item}{c:aU}(g:b.roundOf=aa l)(f:b.kind=.normal)(h:w.heap[l]?=aa (.loop r))(n:(j=af/\e=[])∨(j=aa .ret/\∃k1,e=.code .ret::k1)∨(∃id k1,j=aa (.exit id)/\e=.code (.exit id)::k1/\exitTo id k1=af)):
  aH P main (G (b.aT a e) (c::cs)) w=.go (G (c.finish (.bool j.isNone)) cs) {w with heap:=w.heap.setIfInBounds l (.loop {r with state:=if j.isNone then .ready else .done,pending:=j})} (seen P b.fn #[⟨.obj l,ae,ae⟩,⟨.obj l,ab,ae⟩]):=by
 obtain⟨d,i⟩:=zK (P:=P) h j;rcases n with⟨rfl,rfl⟩|⟨rfl,k1,rfl⟩|⟨id,k1,rfl,rfl,m⟩
 .simp only[Option.isNone_none,bY]at d;simp[G,aH,stepG.exec,Frame.aT,g,d,i,GStep.after,doReturn,f]
 .simp only[Option.isNone_some,b6,iG]at d;simp[G,aH,stepG.exec,Frame.aT,g,d,i,GStep.after,doReturn,f]
 .simp only[Option.isNone_some,b6,iG]at d;simp[G,aH,stepG.exec,Frame.aT,g,d,i,GStep.after,doReturn,f,m]
def DR{r:Loop}(h:w.heap[l]?=aa (.loop r))(d:r.state≠.busy):
  aH P main (G (b.aT a (.endRangeFunc l::k)) cs) w=.go (G (b.aT a ((r.pending.map Item.code).toList++k)) cs) {w with heap:=w.heap.setIfInBounds l (.loop {r with state:=.exhausted})} (seen P b.fn #[⟨.obj l,ae,ae⟩,⟨.obj l,ab,ae⟩]):=by obtain⟨e,c⟩:=Bx (P:=P) h d;simp[G,aH,stepG.exec,Frame.aT,e,c,GStep.after]
def xM{fn:aM}{tmps:Array aj}{params:Array Tmp}{assign body:Code}:
  (Instr.enterLoop fn tmps params assign body af).run P w=.ok (w.heap.size+1,[{target:=.collected w.heap.size,args:=#[]}]) {w with heap:=(w.heap.push (.deferred (aa []))).push (.loop {state:=.ready,pending:=af,fn,tmps,params,assign,body,defers:=w.heap.size})} /\
  (Instr.enterLoop fn tmps params assign body af).events P w #[]=#[]:=by
 have c:∀(o:Obj) (w:aA),(newObj o).run P w=.ok w.heap.size {w with heap:=w.heap.push o}:=λo w=>by simp only[newObj,Sem.run]
 have d:∀(o:Obj) (w:aA) es,(newObj o).events P w es=es:=λo w es=>by simp only[newObj,Sem.events,Sem.runT]
 constructor
 .simp[Instr.enterLoop,c];rfl
 .simp[Instr.enterLoop,c,d]
def zL{f:aE}{ps:Array Tmp}{assign body:Code}{F:aM}{fn:Func}{c:List aj}(o:b.roundOf=af)(s:b.kind≠.early)(i:P.funcs[F]?=aa fn)(n:(fn.name== "runtime.NumGoroutine")=ae)(h:fn.body.isNone=ae)(p:a.eval f=.func (.func F) #[] c.toArray):
  aH P main (G (b.aT a (.code (.rangeFunc f ps assign body)::k)) cs) w =
   .go (G (Frame.enter P F (Value.func (.yield (w.heap.size+1)) #[] #[]::c).toArray .normal) (b.aT {a with defers:={target:=.collected w.heap.size,args:=#[]}::a.defers} (.inRangeFunc (w.heap.size+1)::k)::cs))
    {w with heap:=(w.heap.push (.deferred (aa []))).push (.loop {state:=.ready,pending:=af,fn:=b.fn,tmps:=a.tmps,params:=ps,assign,body,defers:=w.heap.size})} #[]:=by
 obtain⟨r,q⟩:=xM (P:=P) (w:=w) (fn:=b.fn) (tmps:=a.tmps) (params:=ps) (assign:=assign) (body:=body);have j:(b.kind==CallKind.early)=ae:=by grind
 have g:fn.name≠ "runtime.NumGoroutine":=by grind
 have e:fn.body≠af:=by grind
 have l:∀(d:List Deferred) (t:List Item) (m:FrameMode),({fn:=b.fn,tmps:=a.tmps,todo:=t,defers:=d,mode:=m,kind:=b.kind,roundOf:=b.roundOf}:aU).eval f=.func (.func F) #[] c.toArray:=by intro d t m;rw[<-p];cases f<;>rfl
 simp only[G,aH,stepG.exec,Frame.aT,o]at l⊢;simp[r,q,GStep.after,stepG.apply,resolve,l,Deferred.ofValue,invoke,callFunc,i,g,e,j,seen];rfl
end steps
end
section
variable {X:Cx P}
def aF.zM(hh:aF σ s){b:Nat}{a:Fr}{r:Loop}(c:σ[b]?=aa (.loop N a r))(hl:∃L,s.β[b]?=aa L/\L.v=.func (.yield l) #[] #[]):
  ∃tmps fn df,s.β[b]?=aa ⟨.func (.yield l) #[] #[],[l]⟩/\s.w.heap[l]?=aa (.loop {r with tmps:=tmps,fn:=fn,defers:=df})/\tmps.size=N/\(∀t,dk σ s (tmps.getD t ai) (look a t))/\(∀o,s.M l o=af):=by obtain⟨L,h1,h2⟩:=hl;obtain⟨l',tmps,fn,df,d,h,e,g,f⟩:=hh.box b _ L c h1;grind
def aF.zN(hh:aF σ s){c:Nat}{a:Fr}{r r':Loop}{B':bm}(m:σ[c]?=aa (.loop N a r)){tmps:Array aj}{fn df:Nat}(k:s.β[c]?=aa ⟨.func (.yield l) #[] #[],[l]⟩)(ho:s.w.heap[l]?=aa (.loop {r with tmps:=tmps,fn:=fn,defers:=df}))(q:tmps.size=N)(g:∀t,dk σ s (tmps.getD t ai) (look a t))(p:∀o,s.M l o=af)(d:B'=.dead∨B'=.loop N a r'):
  aF (σ.set c B') {s with w:={s.w with heap:=s.w.heap.setIfInBounds l (.loop {r' with tmps:=tmps,fn:=fn,defers:=df})}}/\Step σ s (σ.set c B') {s with w:={s.w with heap:=s.w.heap.setIfInBounds l (.loop {r' with tmps:=tmps,fn:=fn,defers:=df})}}:=by
 have u:l<s.w.heap.size:=hh.lt _ (bL k) l (by simp);have x:∀b,b≠l->(s.w.heap.setIfInBounds l (.loop {r' with tmps:=tmps,fn:=fn,defers:=df}))[b]?=s.w.heap[b]?:=λb hb=>by grind
 have A:s.β.set c ⟨.func (.yield l) #[] #[],[l]⟩=s.β:=by apply g9;grind
 have n:c<σ.length:=(cf.1 m).1;have j:hX (.loop N a r) ⟨.func (.yield l) #[] #[],[l]⟩ B' ⟨.func (.yield l) #[] #[],[l]⟩:=by rcases d with rfl|rfl<;>rfl
 have ex:Ext σ s (σ.set c B') {s with w:={s.w with heap:=s.w.heap.setIfInBounds l (.loop {r' with tmps:=tmps,fn:=fn,defers:=df})}}:=by
  refine⟨λ_ _ _ h=>h,λi B L z f=>?_⟩;by_cases e:c=i
  .grind
  .exact⟨B,L,by grind,f,.refl _ _⟩
 have:=hh.gy (M':=s.M) (w':={s.w with heap:=s.w.heap.setIfInBounds l (.loop {r' with tmps:=tmps,fn:=fn,defers:=df})}) (B':=B') (L':=⟨.func (.yield l) #[] #[],[l]⟩) m k j (by simp) (λb _ hb=>x b (by grind)) (λ_ _ _ _=>rfl) (λ_ _ _ h=>h)
  (λb o v hm=>by
   have y:b≠l:=by grind
   rw[<-hh.mem b o v hm];simp only[aR]
   grind) (λb hb=>by grind) rfl rfl rfl (by
   rcases d with rfl|rfl
   .trivial
   .refine⟨l,tmps,fn,df,rfl,?_,q,λt=>?_,p⟩
    .grind
    .have:=(g t).mono ex hh.len
     grind)
 grind
def AK.yield{σ':ι->List bm}{h:Nat}{ds:List D}{res:Bool}(O:Yields X h ds σ res σ')(T:o.guard=af)(V:gm N o.dst=ab)(ho:o.op=.call {callee:=.value fo,args:=xs,argTypes:=jN}){Z:Nat}{x:Fr}{r:Loop}(u:σ[h]?=aa (.loop Z x r))(Y:bO φ fo=.e (.one (.ref h)))(B:xs.toList.map (bO φ)=ds)(k:∀j,AK X N Qf (.ops all rest::K) .normal (kO o.dst (.e (.one (.c (.bool res)))) φ) (σ' j)):AK X N Qf (.ops all (o::rest)::K) .normal φ σ:=by
 intro s a f hh b kk cs S idx hb ia hQ;cases idx with
 |nil=>exact ia.elim
 |cons j idx =>
 refine .next rfl λi y=>?_;have p:=X.hZ y;have d:=hh.rely p;have v:=f.rely p hh;have E:=dt v fo;rw[Y]at E;obtain⟨_,L,A,C,_⟩:=(show gD _ i _ (.ref h)from E)
 obtain⟨l,tmps,fn,df,J,h4,h5,h6,h7⟩:=d.box h _ L u A;subst J;have m:cn σ i (xs.toList.map a.eval) ds:=by grind[nI,dt]
 obtain⟨I,z,assign,body,Q,U,W⟩:=O i (xs.toList.map a.eval) l m d ⟨_,A,rfl⟩;obtain⟨M,R⟩:=By (P:=P) (w:=i.w) (a:=a) ho C;refine⟨_,i,_,Jf ia.1 (dD T) hb (M.trans Q),⟨⟨σ,σ,d,d,.refl _ _⟩,eN.seen ?_⟩,W S _ _ λF s' jL st=>?_⟩
 .rw[R,U];exact .one (lE (L:=⟨.func (.yield l) #[] #[],[l]⟩) (bL A) (by simp))
 have g:=jd (b:=b) (a:=a) (k:=kk) all.toArray j idx (.bool res);rw[ia.1]at g;simp only[my]at g;rw[g];refine k F s' _ ?_ jL b kk cs S idx hb ia.2 λn σ2 s2 a2 q G h2 oq=>hQ n σ2 s2 a2 q G h2 ((p.stepW.trans st).trans oq);cases H:o.dst with
 |none=>exact v.mono st d.len
 |some t=>exact(v.mono st d.len).put (gM V t H) (show dk (σ' F) s' (.bool res) (.e (.one (.c (.bool res))))from Rd.bool)
def qP:List Tmp->List D->Fr->Fr
 |t::ts,d::ds,φ=>qP ts ds ((t,d)::φ)
 |_,_,φ=>φ
def MR(N:Nat):List Tmp->Bool
 |[]=>ab
 |t::ts=>match bC (t+1) N with|true=>MR N ts|false=>ae
def FM{N:Nat}{σ:List bm}{s:St}:∀{ps:List Tmp}{ds:List D}{vs:List aj}{φ:Fr}{a:Act},cx N σ s φ a->cn σ s vs ds->MR N ps=ab->cx N σ s (qP ps ds φ) {a with tmps:=(ps.zip vs).foldl (λtmps (t,v)=>tmps.setIfInBounds t v) a.tmps}
 |[],ds,vs,φ,a,h,_,_=>by simpa[qP]using h
 |_::_,[],[],φ,a,h,_,_=>by simpa[qP]using h
 |_::_,[],_::_,φ,a,h,b,_=>b.elim
 |_::_,_::_,[],φ,a,h,b,_=>b.elim
 |t::ts,d::ds,v::vs,φ,a,h,b,c=>by
  simp only[MR]at c;split at c
  .rename_i e;have:=FM (h.put (d:=t) (ez e) b.1) b.2 c;simpa[qP,Act.put]using this
  grind
def P6:Exit->Option (Option Code)
 |.normal=>aa af
 |.ret=>aa (aa .ret)
 |.exit id=>aa (aa (.exit id))
 |_=>af
def Yields.intro{ι:Type}{m N:Nat}{f:Fr}{r:Loop}{ds:List D}{σ:List bm}{σ':ι->List bm}{j:Option Code}(o:σ[m]?=aa (.loop N f r))(FI:r.state=.ready)(hlen:ds.length=r.params.size)(V:MR N r.params.toList=ab)(h:AW X N r.assign (λe C σ1=>e=.normal/\σ1[m]?=aa (.loop N f r)/\AW X N r.body (λe φ2 σ2=>P6 e=aa j/\σ2[m]?=aa (.loop N f {r with state:=.busy}) /\
   ∃i,GX (σ2.set m (.loop N f {r with state:=if j.isNone then .ready else .done,pending:=j})) (σ' i)) C (σ1.set m (.loop N f {r with state:=.busy}))) (qP r.params.toList ds f) σ):Yields X m ds σ j.isNone σ':=by
 intro s vs l Ow hh hl;obtain⟨tmps,fn,df,h1,h2,h3,h4,h5⟩:=hh.zM o hl;have Pk:vs.length=r.params.size:=by grind[cn.get]
 obtain⟨y1,y2⟩:=GV (P:=P) (args:=vs.toArray) h2 (by grind);refine⟨_,_,_,_,y1,y2,λS c cs hS=>?_⟩;let b:aU:={fn:=fn,tmps:=#[],todo:=[],defers:=[],mode:=.run,kind:=.normal,roundOf:=aa l}
 have hb:b.kind≠.early:=by simp[b]
 have hf:cx N σ s (qP r.params.toList ds f) {tmps:=(r.params.zip vs.toArray).foldl (λtmps (t,a)=>tmps.setIfInBounds t a) tmps,defers:=[]}:=by
  have:=FM (a:={tmps:=tmps,defers:=[]}) (φ:=f) ⟨h3,⟨[],aq⟩,h4⟩ Ow V;have e:(r.params.zip vs.toArray).foldl (λtmps (x:Tmp×aj)=>tmps.setIfInBounds x.1 x.2) tmps=(r.params.toList.zip vs).foldl (λtmps (x:Tmp×aj)=>tmps.setIfInBounds x.1 x.2) tmps:=by rw[<-Array.foldl_toList];simp
  grind
 show fA X S (G (b.aT {tmps:=(r.params.zip vs.toArray).foldl (λtmps (t,a)=>tmps.setIfInBounds t a) tmps,defers:=[]} [.code r.assign,.beginRound,.code r.body]) (c::cs)) s;refine h s _ hf hh b [.beginRound,.code r.body] (c::cs) S hb ?_;rintro e C σ1 s1 a1 ⟨rfl,p,q⟩ f1 J A;refine .next rfl λs2 ri=>?_;have K:=X.hZ ri;have k:=J.rely K;have f2:=f1.rely K J;have Q:∃L,s2.β[m]?=aa L/\L.v=.func (.yield l) #[] #[]:=by obtain⟨B',L',k1,O,U⟩:=(A.trans K.stepW).box m _ _ o h1;rw[p]at k1;cases k1;exact⟨L',O,U⟩
 obtain⟨W,fn2,UT,g1,g2,g3,g4,g5⟩:=k.zM p Q;have M:=k.zN (r':={r with state:=.busy}) p g1 g2 g3 g4 g5 (.inr rfl);have F:∀{s:St} {σ:List bm} {L:Loc},s.β[m]?=aa L->L.bs=[l]->eN s #[⟨.obj l,ae,ae⟩,⟨.obj l,ab,ae⟩]:=λ{s σ L} hL hb =>
  .two (lE (bL hL) (by grind)) (lE (bL hL) (by grind))
 refine⟨_,_,_,Jg (l:=l) rfl hb g2 FI,⟨⟨_,_,k,M.1,M.2⟩,eN.seen (F (σ:=σ1) g1 rfl)⟩,?_⟩;have H:=M.2.oe k;have T:=M.1;refine q _ a1 (f2.mono H k.len) T b [] (c::cs) S hb ?_;rintro e φ3 Y s3 a3 ⟨hj,u,ii,y⟩ f3 z Z;have stA:=((A.trans K.stepW).trans H).trans Z;have fin:∀E g,bZ s3 g->((j=af/\E=[])∨(j=aa .ret/\∃k1,E=.code .ret::k1)∨(∃id k1,j=aa (.exit id)/\E=.code (.exit id)::k1/\exitTo id k1=af)) ->
   ∃g' s' es,aH P X.main (G (b.aT a3 E) (c::cs)) g.w=.go g' s'.w es/\qF g s' es/\fA X S g' s':=by
  intro E g d Vo;have n:=z.rely d;have I:∃L,g.β[m]?=aa L/\L.v=.func (.yield l) #[] #[]:=by obtain⟨B',L',k1,O,U⟩:=(stA.trans d.stepW).box m _ _ o h1;rw[u]at k1;cases k1;exact⟨L',O,U⟩
  obtain⟨R,fn5,df5,p1,p2,p3,p4,p5⟩:=n.zM u I;have B:=n.zN (r':={r with state:=if j.isNone then .ready else .done,pending:=j}) u p1 p2 p3 p4 p5 (.inr rfl);obtain⟨p7,p8,_⟩:=y _ B.1;exact⟨_,_,_,Bz (l:=l) rfl rfl p2 Vo,⟨⟨_,_,n,B.1,B.2⟩,eN.seen (F (σ:=Y) p1 rfl)⟩,hS ii _ p7 (((stA.trans d.stepW).trans (B.2.oe n)).trans (p8.oe B.1))⟩
 cases e with
 |normal =>
  cases hj;exact .next rfl λg d=>fin [] g (X.hZ d) (.inl ⟨rfl,rfl⟩)
 |ret =>
  cases hj;intro pre;exact .next rfl λg d=>fin _ g (X.hZ d) (.inr (.inl ⟨rfl,pre,rfl⟩))
 |exit id =>
  cases hj;intro pre hp;refine .next rfl λg d=>fin _ g (X.hZ d) (.inr (.inr ⟨id,_,rfl,rfl,?_⟩));have:=hp [];simpa[exitTo]using this
 |_=>cases hj
end
def ql(X:Cx P)(N:Nat)(c:Code)(Q:Post)(φ:Fr)(σ:List bm):Prop :=
 ∀s a,cx N σ s φ a->aF σ s->∀(b:aU) (k:List Item) (cs:List aU) (S:ak->St->Prop),b.kind≠.early->b.roundOf=af ->
  (∀e φ' σ' s' a',Q e φ' σ'->cx N σ' s' φ' a'->aF σ' s'->cO σ s σ' s'->ends X S b k cs e a' s')->fA X S (G (b.aT a (.code c::k)) cs) s
section
variable {X:Cx P}{Q:Post}
def AW.top(h:AW X N c Q φ σ):ql X N c Q φ σ:=λs a f hh b k cs S hb _ d=>h s a f hh b k cs S hb d
theorem ql.seq{x y:Code}(h:ql X N x (FN (ql X N y Q) Q) φ σ):ql X N (.seq x y) Q φ σ:=by
 intro s a i hh b k cs S hb LX hQ;refine .ctl hh rfl (λ_=>nK) λj h1=>?_;refine h j a (i.rely h1 hh) (hh.rely h1) b (.code y::k) cs S hb LX ?_;intro e φ' σ' s' a' q g f st;have c:=h1.stepW.trans st;cases e with
 |normal=>exact q s' a' g f b k cs S hb LX λe d σ2 s2 a2 q2 f2 h2 oq=>hQ e d σ2 s2 a2 q2 f2 h2 (c.trans oq)
 |_=>exact ends.cons (λ_ _=>rfl) (by simp) (hQ _ _ _ _ _ q g f c)
theorem ql.block{id:Nat}(h:ql X N c (zO id Q) φ σ):ql X N (.block id c) Q φ σ:=by
 intro s a i hh b k cs S hb LX hQ;refine .ctl hh rfl (λ_=>rH) λj h1=>?_;refine h j a (i.rely h1 hh) (hh.rely h1) b (.inBlock id::k) cs S hb LX ?_;intro e φ' σ' s' a' q g f st;have d:=h1.stepW.trans st;cases e with
 |normal =>
  exact .ctl f rfl (λ_=>qG) λs2 h2=>hQ .normal φ' σ' s2 a' q (g.rely h2 f) (f.rely h2) (d.trans h2.stepW)
 |exit Ig =>
  simp only[zO]at q;split at q
  .rename_i e;subst e;intro pre hp;refine .ctl f rfl (λ_=>zj (k':=k) (by rw[hp];simp[exitTo])) λs2 h2=>?_;exact hQ .normal φ' σ' s2 a' q (g.rely h2 f) (f.rely h2) (d.trans h2.stepW)
  .rename_i m
   intro pre hp;have:=hQ (.exit Ig) φ' σ' s' a' q g f d (pre++[.inBlock id]) (λk'=>by
    rw[jo,hp];have:(id==Ig)=ae:=by grind
    simp[exitTo,this])
   grind
 |ret=>exact hQ _ _ _ _ _ q g f d
 |panic ch=>exact hQ _ _ _ _ _ q g f d
 |goto l=>exact hQ _ _ _ _ _ q g f d
 |outgrown=>exact hQ _ _ _ _ _ q g f d
def aF.P7(h:aF σ s){o:Nat->Prop}(ho:∀b,o b->b<s.w.heap.size/\∀L∈s.β,b∉L.bs):aF σ {s with own:=o} :=
 ⟨h.mem,h.len,λl B L c a=>eQ.carry (σ:=σ) (s:=s) (σ':=σ) (s':={s with own:=o}) ⟨λ_ _ _ h=>h,λ_ B L h d=>⟨B,L,h,d,.refl _ _⟩⟩ h.len (λ_ _=>⟨rfl,λ_=>rfl⟩) (h.box l B L c a),h.fY,h.lt,ho⟩
def aF.ik(h:aF σ s){r:Nat}{o:Nat->Prop}(k:s.own r)(ho:∀b,o b->s.own b)(m:¬o r)(f:∀i,s.M r i=af)(j:s.w.heap[r]?=aa (.deferred (aa []))):
  aF (σ++[.rG]) {s with β:=s.β++[⟨.int .i64 r,[r]⟩],own:=o}/\eR s {s with β:=s.β++[⟨.int .i64 r,[r]⟩],own:=o}:=by
 obtain⟨n,q⟩:=h.own r k;have ex:Ext σ s (σ++[.rG]) {s with β:=s.β++[⟨.int .i64 r,[r]⟩],own:=o}:=by
  refine⟨λ_ _ _ h=>h,λl B L c a=>⟨B,L,?_,?_,.refl _ _⟩⟩
  .grind
  grind
 refine⟨⟨h.mem,by simp[h.len],?_,?_,?_,?_⟩,⟨rfl,λ_ _ _ h=>h,λ_ _ _=>rfl,h.mem,?_⟩⟩
 .intro l B L c a;rcases gj a with e|⟨hl,rfl⟩
  .have hl:l<σ.length:=by rw[<-h.len];grind
   rw[iE hl]at c;exact(h.box l B L c e).carry ex h.len λ_ _=>⟨rfl,λ_=>rfl⟩
  .rw[hl,h.len,fR (ba _)]at c;simp at c;subst c;exact⟨r,rfl,j,f⟩
 .intro l l' L L' a d b hb oB;rcases gj a with k1|⟨e1,rfl⟩<;>rcases gj d with g|⟨e2,rfl⟩
  .exact h.fY l l' L L' k1 g b hb oB
  .grind
  .grind
  grind
 .intro L a b hb;simp only[ff,iX]at a;rcases a with a|rfl
  .exact h.lt L a b hb
  grind
 .intro b hb;obtain⟨p,p2⟩:=h.own b (ho b hb);grind
 grind
def Jh:Option Code->Option Exit
 |none=>aa .normal
 |some .ret=>aa .ret
 |some (.exit id)=>aa (.exit id)
 |_=>af
def ql.rangeFunc{f:aE}{ps:Array Tmp}{assign body:Code}{F:aM}{capD:List D}{σ':ι->List bm}{r':ι->Loop}(LS:∀s a,cx N σ s φ a->aF σ s->∃n:List aj,a.eval f=.func (.func F) #[] n.toArray/\cn σ s n capD)(Oq:dW X F (.e (.one (.ref σ.length))::capD) (σ++[.loop N φ {state:=.ready,pending:=af,fn:=0,tmps:=#[],params:=ps,assign:=assign,body:=body,defers:=0}]) res σ')(hl:∀i,(σ' i)[σ.length]?=aa (.loop N φ (r' i))/\(r' i).state≠.busy)(k:∀i,∃e,Jh (r' i).pending=aa e/\Q e φ ((σ' i).set σ.length .dead++[.rG])):ql X N (.rangeFunc f ps assign body) Q φ σ:=by
 intro s a fr hh b kk cs S hb LX hQ;obtain⟨⟨fn,MS,K,y⟩,H⟩:=Oq;refine .next rfl λd R2=>?_;have hr:=X.hZ R2;have j:=hh.rely hr;have f1:=fr.rely hr hh;obtain⟨n,hv,A⟩:=LS d a f1 j;generalize UD:d.w.heap.size=r;have u:=λmain=>zL (P:=P) (main:=main) (k:=kk) (cs:=cs) (ps:=ps) (assign:=assign) (body:=body) (b:=b) (w:=d.w) LX hb MS K y hv;rw[UD]at u;let w1:aA:={d.w with heap:=d.w.heap.push (.deferred (aa []))}
 let lo:Loop:={state:=.ready,pending:=af,fn:=b.fn,tmps:=a.tmps,params:=ps,assign:=assign,body:=body,defers:=r}
 let w2:aA:={d.w with heap:=(d.w.heap.push (.deferred (aa []))).push (.loop lo)}
 have Iw:w2.heap.size=r+2:=by grind
 have Z3:w1.heap.size=r+1:=by grind
 have Z4:∀b,b<d.w.heap.size->w1.heap[b]?=d.w.heap[b]?:=λb hb=>by grind
 have U:∀b,b<w1.heap.size->w2.heap[b]?=w1.heap[b]?:=λb hb=>by grind
 have Z:∀b,b<d.w.heap.size->w2.heap[b]?=d.w.heap[b]?:=λb hb=>by grind
 have T:w2.heap[r]?=aa (.deferred (aa [])):=by grind
 have V:w2.heap[r+1]?=aa (.loop lo):=by grind
 have nM:∀b,d.w.heap.size<=b->∀o,d.M b o=af:=λb hb o=>by
  cases hm:d.M b o with
  |none=>rfl
  |some v=>have:=j.block hm;omega
 let L1:Loc:=⟨.func (.yield (r+1)) #[] #[],[r+1]⟩
 let L2:Loc:=⟨.int .i64 r,[r]⟩
 let Y:Loop:={state:=.ready,pending:=af,fn:=0,tmps:=#[],params:=ps,assign:=assign,body:=body,defers:=0}
 obtain⟨g1,g2⟩:=j.grow (M':=d.M) (w':=w2) (by omega) Z (λ_ _ _=>rfl) (λb hb o v hm=>by grind) rfl rfl rfl;have J:Ext σ d (σ++[.loop N φ Y]) ⟨d.β++[L1],d.M,w2,d.own⟩:=by
  refine⟨λ_ _ _ h=>h,λl B L hB m=>⟨B,L,?_,?_,.refl _ _⟩⟩
  .grind
  grind
 obtain⟨a1,a2⟩:=g1.hU (B:=.loop N φ Y) (L:=L1) g2 rfl j ⟨r+1,a.tmps,b.fn,r,rfl,V,f1.size,λt=>(f1.slot t).mono J j.len,λo=>nM _ (by omega) o⟩ (λb hb=>by grind)
 have hD:=a1.P7 (o:=λb=>d.own b∨b=r) (by
  rintro b (hb|rfl)
  .exact a1.own b hb
  .refine⟨by grind,λL m=>?_⟩;simp only[ff,iX]at m;rcases m with m|rfl
   .intro hc;have:=j.lt L m b hc;omega
   grind)
 have d1:=j.kg;obtain⟨e1,e2⟩:=d1.grow (M':=d.M) (w':=w1) (by omega) Z4 (λ_ _ _=>rfl) (λb hb o v hm=>by grind) rfl rfl rfl;obtain⟨e3,e4⟩:=e1.hU (B:=.dead) (L:=L2) e2 rfl d1 aq (λb hb=>by grind)
 obtain⟨e5,e6⟩:=e3.grow (M':=d.M) (w':=w2) (by grind) U (λ_ _ _=>rfl) (λb hb o v hm=>by grind) rfl rfl rfl
 obtain⟨e7,e8⟩:=e5.hU (B:=.dead) (L:=L1) e6 rfl e3 aq (λb hb=>by grind);have UY:eR ⟨d.β++[L2]++[L1],d.M,w2,d.own⟩ ⟨d.β++[L1],d.M,w2,λb=>d.own b∨b=r⟩:=by
  refine⟨rfl,λ_ _ _ h=>h,λ_ _ _=>rfl,a1.mem,?_⟩;rintro b ((hb|rfl)|⟨L,m,hb⟩)
  .grind
  .exact .inr ⟨L2,by simp,by grind⟩
  grind
 refine⟨_,⟨d.β++[L2]++[L1],d.M,w2,d.own⟩,_,u X.main,⟨⟨_,_,d1,e7,e4.trans e8⟩,.nil⟩,.ghost UY (H _ (Value.func (.yield (r+1)) #[] #[]::n) ?_ hD S _ λi RU v s4 C lY W Z5=>?_)⟩
 .refine⟨⟨λB p=>?_,L1,?_,rfl,rfl⟩,?_⟩
  .rw[fR (ba _)]at p;simp at p;subst p;rfl
  .show (d.β++[L1])[σ.length]?=_;rw[<-j.len,fR (ba _)];simp
  .exact A.mono (σ:=σ) (s:=d) (σ':=σ++[.loop N φ Y]) (s':=⟨d.β++[L1],d.M,w2,λb=>d.own b∨b=r⟩) ⟨J.mem,J.box⟩ j.len
 have O:(b.aT {a with defers:={target:=.collected r,args:=#[]}::a.defers} (.inRangeFunc (r+1)::kk)).finish v=b.aT {a with defers:={target:=.collected r,args:=#[]}::a.defers} (.endRangeFunc (r+1)::kk):=by simp[Frame.finish,Frame.aT]
 refine pG (cs:=cs) (c:=b.aT {a with defers:={target:=.collected r,args:=#[]}::a.defers} (.inRangeFunc (r+1)::kk)) W C λs5 XZ=>?_;rw[O];refine .next rfl λs6 R=>?_;have X0:=X.hZ R;have x:=(W.rely XZ).rely X0;have X1:=(Z5.trans XZ.stepW).trans X0.stepW;obtain⟨E,UZ⟩:=hl i;have Z6:∃L,s6.β[σ.length]?=aa L/\L.v=.func (.yield (r+1)) #[] #[]:=by
  obtain⟨B',L',k1,k2,k3⟩:=X1.box σ.length (.loop N φ Y) L1 (show(σ++[bm.loop N φ Y])[σ.length]?=_ from List.getElem?_concat_length) (by show(d.β++[L1])[σ.length]?=_;rw[<-j.len,fR (ba _)];simp)
  rw[E]at k1;cases k1;exact⟨L',k2,k3⟩
 obtain⟨z,Z7,Z8,p1,p2,p3,p4,p5⟩:=x.zM E Z6;obtain⟨q1,q2⟩:=x.zN (r':={r' i with state:=.exhausted}) (B':=.dead) E p1 p2 p3 p4 p5 (.inl rfl);refine⟨_,_,_,DR p2 UZ,⟨⟨_,_,x,q1,q2⟩,eN.seen (.two (lE (bL p1) (by simp)) (lE (bL p1) (by simp)))⟩,?_⟩;have g:=X1.trans (q2.oe x);generalize hs7:({s6 with w:={s6.w with heap:=s6.w.heap.setIfInBounds (r+1) (.loop {{r' i with state:=.exhausted}with tmps:=z,fn:=Z7,defers:=Z8})}}:St)=s7 at q1 q2 g;have Z9:s7.own r:=by rw[g.own];grind
 have h7d:s7.w.heap[r]?=aa (.deferred (aa [])):=by rw[g.keep r (.inr rfl)];exact T
 have h7M:∀o,s7.M r o=af:=λo=>by rw[g.iI r (by grind) (λL m=>(hD.own r (.inr rfl)).2 L m)];grind
 obtain⟨t1,t2⟩:=q1.ik (r:=r) (o:=d.own) Z9 (λb hb=>by rw[g.own];grind) (λhc=>by have:=(j.own r hc).1;omega) h7M h7d;refine .ghost t2 ?_;have I:cO σ d ((σ' i).set σ.length .dead++[.rG]) {s7 with β:=s7.β++[⟨.int .i64 r,[r]⟩],own:=d.own}:=by
  refine⟨?_,λb hb=>?_,λb o v hm=>g.mem b o v hm,λb hb hn o=>?_,λL m b hb=>?_,λl B L hB m=>?_,g.os,g.tape,g.output,rfl⟩
  .grind
  .show s7.w.heap[b]?=_;rw[g.keep b (.inl hb)];exact Z b (j.own b hb).1
  .show s7.M b o=_;rw[g.iI b (by grind) (λL m=>?_)];grind
  .simp only[ff,iX]at m;rcases m with m|rfl
   .rcases g.uP L m b hb with h1|⟨L0,h1,h2⟩
    .grind
    grind
   grind
  .have Pn:=(cf.1 hB).1;have Io:=(cf.1 m).1;obtain⟨B',L',k1,k2,k3⟩:=g.box l B L (by grind) (by grind);grind
 have fF:cx N ((σ' i).set σ.length .dead++[.rG]) {s7 with β:=s7.β++[⟨.int .i64 r,[r]⟩],own:=d.own} φ {a with defers:={target:=.collected r,args:=#[]}::a.defers}:=by
  have hm:=f1.mono I j.len;obtain⟨ls,P8⟩:=f1.defers;refine⟨hm.size,⟨((σ' i).set σ.length .dead).length::ls,⟨⟨?_,⟨.int .i64 r,[r]⟩,r,?_,rfl,rfl⟩,λhc=>?_,P8.mono I.ext⟩⟩,hm.slot⟩
  .grind
  .show (s7.β++_)[_]?=_;rw[<-q1.len,fR (ba _)];simp
  .have h1:=P8.BA _ hc;grind
 obtain⟨e,p,hq⟩:=k i;have q:=hQ e φ _ _ _ hq fF t1 (hr.stepW.trans I);revert p;show Jh (r' i).pending=aa e->fA X S (G (b.aT _ (((r' i).pending.map Item.code).toList++kk)) cs) _;intro p;cases hp:(r' i).pending with
 |none=>rw[hp]at p;cases p;exact q
 |some c =>
  rw[hp]at p;cases c<;>simp only[Jh,reduceCtorEq,dm]at p
  .subst p;exact q [] (λ_=>rfl)
  .subst p;exact q kk
def cx.callee{t:Nat}{F:aM}(hl:look φ t=.e (.one (.c (.fn (.func F) [] cap)))):∀s a,cx N σ s φ a->aF σ s->∃b:List aj,a.eval (.tmp t)=.func (.func F) #[] b.toArray/\cn σ s b (fX cap):=by
 intro s a d _;have h:=d.slot t;rw[hl]at h;have h:=fM h;show ∃b:List aj,a.tmps.getD t ai=.func (.func F) #[] b.toArray/\_;generalize a.tmps.getD t ai=v at h;cases h with
 |fn fs cs hl Df f1 f2 h1 h2 r1 r2 =>
  grind[lx]
def dW.DS{f:aM}{fn:Func}{args:List D}{σ':ι->List bm}(m:P.funcs[f]?=aa fn)(d:(fn.name== "runtime.NumGoroutine")=ae)(hb:fn.body=aa c)(g:bC args.length fn.ntmps=ab)(h:Fits args σ->ql X fn.ntmps c (λe φ σ1=>∃j,cg fn σ.length (res j) (σ' j) e φ σ1) (je 0 args) σ):dW X f args σ res σ':=by refine⟨⟨fn,m,d,by grind⟩,λs0 vs hr hh=>?_⟩;exact(dW.OO m d hb (ez g) λs a f l b k cs S n i o=>h ⟨s0,vs,hr,hh⟩ s a f l b k cs S n i o).2 s0 vs hr hh
def Wd(fn:Func)(res:D)(σ':List bm):Post:=λe φ σ1 =>
 (e=.ret∨e=.normal)/\σ1=σ'/\mU σ'=ab/\∃ds d ps,xG φ fn.results.toList=aa ds/\rK ds=aa d/\Dg d res=aa ps/\ar ps
def dW.DT{f:aM}{fn:Func}{args:List D}{σ':ι->List bm}(q:P.funcs[f]?=aa fn)(k:(fn.name== "runtime.NumGoroutine")=ae)(hb:fn.body=aa c)(g:bC args.length fn.ntmps=ab)(h:AW X fn.ntmps c (λe φ σ1=>∃j,Wd fn (res j) (σ' j) e φ σ1) (je 0 args) σ):dW X f args σ res σ':=by
 refine⟨⟨fn,q,k,by grind⟩,λs vs hr hh S cs hS=>?_⟩;obtain⟨hl,F⟩:=cn.get hr;let b:aU:={fn:=f,tmps:=#[],todo:=[],defers:=[],mode:=.run,kind:=.normal,roundOf:=af}
 have a:Frame.enter P f vs.toArray .normal=b.aT {tmps:=vs.toArray++Array.replicate (fn.ntmps-vs.toArray.size) ai,defers:=[]} [.code c]:=by simp[Frame.enter,Frame.aT,q,hb,b]
 rw[a];have g:=ez g;refine h s {tmps:=vs.toArray++Array.replicate (fn.ntmps-vs.toArray.size) ai,defers:=[]} ⟨by grind,⟨[],aq⟩,λt=>?_⟩ hh b [] cs S (by simp[b]) ?_
 .rw[nP];simp only[j9,bY,l8];have:=F t;rcases cM t vs.length with r|A
  .have e:(vs.toArray++Array.replicate (fn.ntmps-vs.toArray.size) ai).getD t ai=(vs[t]?).getD ai:=by simp only[dK];grind
   grind
  .rw[qC (by omega)];trivial
 .rintro e φ' σ1 s1 a1 ⟨I,o,rfl,n,ds,d,ps,h1,h2,z,H⟩ x m st;have fin:∀(fr:aU) s2,bZ s1 s2->fr.fn=f->fr.tmps=a1.tmps->fr.defers=a1.defers->fr.mode=.returning->fr.kind=.normal->fA X S (G fr cs) s2:=by
   intro fr s2 ri e1 e2 e3 e4 e5;have p:=x.rely ri m;obtain⟨v,B,E,C⟩:=tI (P:=P) p h1 h2;obtain⟨ls,i⟩:=p.defers;have y:a1.defers=[]:=by
    cases ls with
    |nil=>cases u:a1.defers with
     |nil=>rfl
     |cons d ds=>rw[u]at i;exact i.elim
    |cons l ls=>exact absurd rfl (mV n _ (bL (i.BA l (by simp))))
   refine hS I fr v _ ⟨e1,e4,by grind,e5,fn,by grind,λw _=>?_⟩ (qI z H E) (m.rely ri) (st.trans ri.stepW);rw[e2];exact⟨B w,λe o=>by rw[C w #[]]at o;grind⟩
  rcases o with rfl|rfl
  .intro pre;exact .ctl m rfl (λ_=>Dq rfl) λs2 ri=>fin _ s2 ri rfl rfl (lr _) rfl rfl
  .exact .ctl m rfl (λ_=>Dr rfl) λs2 ri=>fin _ s2 ri rfl rfl (lr _) rfl rfl
end
structure JE{P:aK}(X:Cx P)(N:Nat)(ops:Array aD)(φ:Fr)(σ:List bm)(x:Nat->D)(c:Nat->Fr)(idx:Nat->Option Nat)(last:Nat):Prop where
 back:∀i o,ops[i]?=aa o->∀e∈o.after,dh e=ab->e.on<i
 IG:∀i o d,ops[i]?=aa o->o.dst=aa d->idx d=aa i/\d<N
 xH:∀d i,idx d=aa i->∃o,ops[i]?=aa o/\o.dst=aa d
 one:∀i o,ops[i]?=aa o->i≠last->OA X N ops.toList o (c i) σ (x i) σ
 RU:∀i o,ops[i]?=aa o->i≠last->∀t σ s v,dk σ s v (match idx t with|some j=>(if ∃e∈o.after,dh e=ab/\e.on=j then x j else .any)|none=>look φ t)->dk σ s v (look (c i) t)
 Yl:∀o,ops[last]?=aa o->∀j,j<ops.size->j≠last->∃e∈o.after,dh e=ab/\e.on=j
 has:last<ops.size
section
variable {X:Cx P}{x:Nat->D}{c:Nat->Fr}{idx:Nat->Option Nat}{last:Nat}
theorem BH{a t:Nat}(h:∀i,i<ops.size->L.getD i ab=ab):Region.linearise.go .any ops a t L []=[]:=by
 cases a with
 |zero=>exact vG t L
 |succ n =>
  have b:aX .any ops L=[]:=by
   cases b:aX .any ops L with
   |nil=>rfl
   |cons y e =>
    have d:y∈aX .any ops L:=by grind
    grind[mem_ready]
  grind[oP]
def JE.arr(h:JE X N ops φ σ x c idx last){K:ak->St->Prop}{b:aU}{kk:List Item}(hb:b.kind≠.early){s0:St}(hQ:∀s a,a.tmps.size=N->(∀t,dk σ s (a.tmps.getD t ai) (match idx t with|some j=>if j=last then .any else x j|none=>look φ t))->a.defers=[]->aF σ s->cO σ s0 σ s->fA X K (G (b.aT a (.inRegion ops [last]::kk)) cs) s):
  ∀(f:Nat) (L:Array Bool),L.size=ops.size->(L.toList.filter (λb=>!b)).length<=f->¬L.getD last ae=ab ->
   (∀i o,ops[i]?=aa o->L.getD i ae=ab->∀e∈o.after,dh e=ab->L.getD e.on ae=ab) ->
   ∀(s:St) (a:Act),H9 N σ s (gp φ x idx L) a->a.defers=[]->aF σ s->cO σ s0 σ s ->
   ∀t,fA X K (G (b.aT a (.inRegion ops (Region.linearise.go .any ops f t L [])::kk)) cs) s:=by
 intro f;induction f with
 |zero =>
  intro L hs hf m Q s a g E hh st t;exfalso;have hm:L[last]'(by have:=h.has;omega)∈L.toList:=by simp
  have M:=h.has;cases hb:L[last]'(by omega)with
  |true=>exact m (by simp[dK,gg (by omega:last<L.size),hb])
  |false =>
   have:L[last]'(by omega)∈L.toList.filter (λb=>!b):=nE.2 ⟨hm,by grind⟩;grind
 |succ f ih =>
  intro L hs hf m Q s a g E hh st t;rw[oP];cases I:(aX .any ops L)[t % (aX .any ops L).length]? with
  |none =>
   exfalso;have hr:aX .any ops L=[]:=by
    cases hr:aX .any ops L with
    |nil=>rfl
    |cons y ys =>
     grind[Nat.mod_lt]
   have H:∀i,i<ops.size->L.getD i ae=ab:=by
    intro i;induction i using Nat.strongRecOn with
    |_ i Zp =>
     intro hi;cases hb:L.getD i ae with
     |true=>rfl
     |false =>
      have hm:i∈aX .any ops L:=mem_ready.2 ⟨ops[i],gg hi,by
       grind,λe R w=>by
       have:=h.back i _ (gg hi) e R w
       grind⟩
      grind
   exact m (H last h.has)
  |some i =>
   have hi:=bL I;obtain⟨o,ho,UN,Mq⟩:=mem_ready.1 hi;have M:i<ops.size:=(eX.1 ho).1;have F:¬L.getD i ae=ab:=by grind
   by_cases z:i=last
   .subst z;have A:Region.linearise.go .any ops f (t / (aX .any ops L).length) (L.setIfInBounds i ab) []=[]:=by
     refine BH λj hj=>?_;have hj2:(L.setIfInBounds i ab).getD j ae=ab:=by
      rw[eE (by omega)];by_cases e:j=i
      .grind
      .obtain⟨ed,R,w,rfl⟩:=h.Yl o ho j hj e;grind
     grind
    simp only[A];refine hQ s a g.size (λt=>?_) E hh st;have:=g.slot t;unfold gp at this;cases k:idx t with
    |none=>grind
    |some j =>
     simp only[k]at this⊢;obtain⟨Y,B,_⟩:=h.xH _ _ k;by_cases e:j=i
     .rw[bc e];trivial
     .rw[aW e];obtain⟨ed,R,w,rfl⟩:=h.Yl o ho j (eX.1 B).1 e;grind
   have q:(L.setIfInBounds i ab).size=ops.size:=by grind
   have r:((L.setIfInBounds i ab).toList.filter (λb=>!b)).length<=f:=by
    have h1:L.toList[i]?=aa ae:=by rw[y7,gg (by omega:i<L.size)];simpa[dK,gg (by omega:i<L.size)]using F
    grind[count_set]
   have J:∀j Z,ops[j]?=aa Z->(L.setIfInBounds i ab).getD j ae=ab->∀e∈Z.after,dh e=ab->(L.setIfInBounds i ab).getD e.on ae=ab:=by grind[eE]
   have p:¬(L.setIfInBounds i ab).getD last ae=ab:=by grind[eE]
   have W:cx N σ s (c i) a:=g.IF λt σ s v C=>h.RU i o ho z t σ s v (by
    unfold gp at C;cases k:idx t with
    |none=>grind
    |some j =>
     simp only[k]at C⊢;split
     .grind
     .trivial)
   have u:∀(s':St) (v:aj),cO σ s σ s'->dk σ s' v (x i)->H9 N σ s' (gp φ x idx (L.setIfInBounds i ab)) (a.put o.dst v):=by
    intro s' v l C;cases E:o.dst with
    |none =>
     refine⟨g.size,g.defers.imp λ_ h1=>h1.mono l.ext,λt=>?_⟩;have n:=(g.slot t).mono l.ext hh.len;simp only[Act.put];unfold gp at n⊢;cases k:idx t with
     |none=>grind
     |some j =>
      simp only[k]at n⊢;obtain⟨Y,B,T⟩:=h.xH _ _ k;grind[eE]
    |some d =>
     obtain⟨V,U⟩:=h.IG i o d ho E;refine⟨by simp[Act.put,g.size],g.defers.imp λ_ h1=>h1.mono l.ext,λt=>?_⟩;simp only[Act.put];by_cases e:d=t
     .subst e;have O:d<a.tmps.size:=by rw[g.size];exact U
      simp only[dK,vj O,gx];unfold gp;simp only[V];rw[bc ((eE (by omega)).2 (.inl rfl))];exact C
     .have n:=(g.slot t).mono l.ext hh.len;simp only[dK]at n⊢;rw[nv e];unfold gp at n⊢;cases k:idx t with
      |none=>grind
      |some j =>
       simp only[k]at n⊢;obtain⟨Y,B,T⟩:=h.xH _ _ k;grind[eE]
   have:=h.one i o ho z s a W hh b kk cs K i (Region.linearise.go .any ops f (t / (aX .any ops L).length) (L.setIfInBounds i ab) []) hb (by grind);simp only[pw]at this;exact this λv s' C S l=>ih _ q r p J s' _ (u _ _ l C) (by cases o.dst<;>exact E) S (st.trans l) _
theorem JE.region(h:JE X N ops φ σ x c idx last)(u:P.follows Departure.mixedOrders=ab){r:ak->St->Prop}{b:aU}{kk:List Item}(hb:b.kind≠.early){s0:St}{a0:Act}{id:Nat}(f0:cx N σ s0 φ a0)(p:a0.defers=[])(l:aF σ s0)(v:∀s a,a.tmps.size=N->(∀t,dk σ s (a.tmps.getD t ai) (match idx t with|some j=>if j=last then .any else x j|none=>look φ t))->a.defers=[]->aF σ s->cO σ s0 σ s->fA X r (G (b.aT a (.inRegion ops [last]::kk)) cs) s):
  fA X r (G (b.aT a0 (.code (.region id ops ab)::kk)) cs) s0:=by
 refine .next rfl λg f=>?_;have f:=X.hZ f;have e:=l.rely f;have n:=f0.rely f l;have k:Step σ g σ {g with w:={g.w with drawn:=g.w.drawn+1}}:=Step.same rfl rfl rfl rfl;have m:aF σ {g with w:={g.w with drawn:=g.w.drawn+1}}:=e.same rfl;have q:=f.stepW.trans (k.oe e);refine⟨_,{g with w:={g.w with drawn:=g.w.drawn+1}},#[],lA,⟨⟨σ,σ,e,m,k⟩,.nil⟩,?_⟩;simp only[Region.schedule,u,Bool.true_or,bY];refine h.arr hb (s0:=s0) v ops.size _ (by simp) (by simp) ?_ ?_ _ a0 ?_ p m q _
 .simp[dK,mv];split<;>simp
 .intro i o ho hi;simp[dK,mv]at hi;split at hi<;>simp at hi
 .have d:=n.mono (k.oe e) e.len;refine⟨d.size,d.defers,λt=>?_⟩;unfold gp;cases y:idx t with
  |none=>exact d.slot t
  |some j =>
   simp only;rw[aW]
   .exact d.slot t
   .simp[dK,mv];split<;>simp
end
def pU(X:Cx P)(N:Nat)(all:List aD)(o:aD)(φ:Fr)(σ:List bm)(x:ι->D)(σ':ι->List bm):Prop :=
 ∀s a,cx N σ s φ a->aF σ s->∀(b:aU) (k:List Item) (cs:List aU) (S:ak->St->Prop) (i:Nat) (rest:List Nat),b.kind≠.early->all.toArray[i]?=aa o ->
  (∀j v s',dk (σ' j) s' v (x j)->aF (σ' j) s'->cO σ s (σ' j) s'->fA X S (G (b.aT (a.put o.dst v) (.inRegion all.toArray rest::k)) cs) s')->fA X S (G (b.aT a (.inRegion all.toArray (i::rest)::k)) cs) s
def zT:List aD->Nat->(Nat->D)->List (Option Nat×D)
 |[],_,_=>[]
 |o::r,i,x=>(o.dst,x i)::zT r (i+1) x
def we{x:Nat->D}:∀{l:List aD}{k j:Nat},(zT l k x)[j]?=(l[j]?).map λo=>(o.dst,x (k+j))
 |[],k,j=>by simp[zT]
 |o::r,k,0=>by simp[zT]
 |o::r,k,j+1=>by simp only[zT,kL];rw[we,show k+1+j=k+(j+1) by omega]
def lX(all:List aD)(φ:Fr)(x:Nat->D)(i:Nat):Fr:=iZ (λj=>ix j (b7 (all.getD i l3).after.toList)) 0 (zT all 0 x) (ur all φ)
def OG(all:List aD)(φ:Fr)(x:Nat->D):Fr:=iZ (λ_=>ab) 0 (zT all 0 x) (ur all φ)
def qO(N:Nat):List aD->Bool
 |[]=>ab
 |o::r=>match gm N o.dst with|true=>qO N r|false=>ae
def yk{N:Nat}:∀{l:List aD},qO N l=ab->∀(i:Nat)(o:aD),l[i]?=aa o->gm N o.dst=ab
 |[],_,i,o,h=>by grind
 |p::r,h,i,o,hi=>by
  simp only[qO]at h;split at h
  .rename_i a;cases i with
   |zero=>grind
   |succ i=>exact yk h i o (by grind)
  grind
def vT:List aD->Nat->Bool
 |[],_=>ab
 |o::r,i=>match RX i (b7 o.after.toList)with|true=>vT r (i+1)|false=>ae
def BF:∀{l:List aD}{k:Nat},vT l k=ab->∀(i:Nat)(o:aD),l[i]?=aa o->∀e∈b7 o.after.toList,e<k+i
 |[],_,_,i,o,h=>by grind
 |p::r,k,h,i,o,hi=>by
  simp only[vT]at h;split at h
  .rename_i b;cases i with
   |zero=>simp at hi;subst hi;exact DF b
   |succ i=>intro e a;have:=BF h i o (by grind) e a;omega
  grind
def zU(pre:Nat->Bool):List Nat->Bool
 |[]=>ae
 |e::r=>match pre e with|true=>zU pre r|false=>ab
theorem yl{pre:Nat->Bool}:∀{l:List Nat},zU pre l=ab->∃e∈l,pre e=ae
 |[],h=>by cases h
 |e::r,h=>by
  simp only[zU]at h;split at h
  .obtain⟨c,b,a⟩:=yl h;grind
  grind
def BG(pre:Nat->Bool)(m:Nat):List aD->Nat->Bool
 |[],_=>ab
 |o::r,i=>match pre i with
  |true=>BG pre m r (i+1)
  |false=>match az i m with
   |true=>BG pre m r (i+1)
   |false=>match zU pre (b7 o.after.toList)with|true=>BG pre m r (i+1)|false=>ae
theorem FT{pre:Nat->Bool}{m:Nat}:∀{l:List aD}{k:Nat},BG pre m l k=ab->∀(i:Nat)(o:aD),l[i]?=aa o->pre (k+i)=ae->k+i≠m->∃e∈b7 o.after.toList,pre e=ae
 |[],_,_,i,o,h=>by grind
 |p::r,k,h,i,o,hi=>by
  intro c a;simp only[BG]at h;cases i with
  |zero =>
   simp at hi;subst hi;simp only[fS]at c a;grind[Nat.eq_of_beq_eq_true,yl]
  |succ i =>
   have b:BG pre m r (k+1)=ab:=by grind
   exact FT b i o (by grind) (by grind) (by omega)
section
variable {X:Cx P}{idx:Nat->Option Nat}
def MU{x:Nat->D}{a:Act}(d:∀t σ s v,dk σ s v (match idx t with|some j=>(if ∃e∈o.after,dh e=ab/\e.on=j then x j else .any)|none=>look φ t)->dk σ s v (look (lX ops.toList φ x i) t))(b:H9 N σ s (gp φ x idx L) a)(f:∀e∈o.after,dh e=ab->L.getD e.on ae=ab):cx N σ s (lX ops.toList φ x i) a:=b.IF λt σ s v g=>d t σ s v (by
 unfold gp at g;cases c:idx t with
 |none=>grind
 |some j =>
  simp only[c]at g⊢;split
  .grind
  .trivial)
def G1{x y:Nat->D}{σ2:List bm}{a:Act}(f:∀d,o.dst=aa d->idx d=aa i/\d<N)(p:∀d j,idx d=aa j->∃o,ops[j]?=aa o/\o.dst=aa d)(ho:ops[i]?=aa o)(q:i<L.size)(w:∀j,L.getD j ae=ab->y j=x j)(c:s.β.length=σ.length)(st:cO σ s σ2 s')(b:H9 N σ s (gp φ x idx L) a)(r:dk σ2 s' v (y i)):H9 N σ2 s' (gp φ y idx (L.setIfInBounds i ab)) (a.put o.dst v):=by
 have old:∀t,idx t≠aa i->dk σ2 s' (a.tmps.getD t ai) (gp φ y idx (L.setIfInBounds i ab) t):=by intro t z;have k:=(b.slot t).mono st.ext c;unfold gp at k⊢;grind[eE]
 cases u:o.dst with
 |none =>
  refine⟨b.size,b.defers.imp λ_ n=>n.mono st.ext,λt=>?_⟩;refine old t λh=>?_;grind
 |some d =>
  obtain⟨m,l⟩:=f d u;refine⟨by simp[Act.put,b.size],b.defers.imp λ_ n=>n.mono st.ext,λt=>?_⟩;simp only[Act.put];by_cases e:d=t
  .subst e;have g:d<a.tmps.size:=by rw[b.size];exact l
   simp only[dK,vj g,gx];unfold gp;simp only[m];rw[bc ((eE q).2 (.inl rfl))];exact r
  .have:=old t (λh=>by grind)
   simp only[dK]at this⊢;grind
def Jp{back:∀i o,ops[i]?=aa o->∀e∈o.after,dh e=ab->e.on<i}(c:L.size=ops.size)(h:aX .any ops L=[]):∀i,i<ops.size->L.getD i ae=ab:=by
 intro i;induction i using Nat.strongRecOn with
 |_ i a =>
  intro hi;cases d:L.getD i ae with
  |true=>rfl
  |false =>
   have g:i∈aX .any ops L:=mem_ready.2 ⟨ops[i],gg hi,by
    grind,λe f b=>by grind⟩
   grind
def DX{t:Nat}(a:(aX .any ops L)[t % (aX .any ops L).length]?=af):aX .any ops L=[]:=by
 cases b:aX .any ops L with
 |nil=>rfl
 |cons y c =>
  grind[Nat.mod_lt]
theorem zV(e:L.size=ops.size)(d:(L.toList.filter (λb=>!b)).length<=0):∀i,i<ops.size->L.getD i ae=ab:=by
 intro i hi;have c:L[i]'(by omega)∈L.toList:=by simp
 cases a:L[i]'(by omega)with
 |true=>simp[dK,gg (by omega:i<L.size),a]
 |false =>
  have:L[i]'(by omega)∈L.toList.filter (λb=>!b):=nE.2 ⟨c,by grind⟩;grind
end
def qp(xs:List UInt8):List aj:=xs.map λx=>.int .u8 x.toNat
theorem uR{xs:List UInt8}:(qp xs).length=xs.length:=by simp[qp]
def L8{xs b:List UInt8}:qp (xs++b)=qp xs++qp b:=by simp[qp]
def oJ(bf:Option (Nat×Nat))(n:Nat):aj:=match bf with|none=>.slice af 0 0|some (g,cap)=>.slice (aa ⟨g,0,af⟩) n cap
def BB(T E:av)(a:Bool)(v1:aj)(bf:Option (Nat×Nat))(xs:List UInt8)(f:Nat):aj->(Nat->Option Obj)->Prop:=λv d =>
 ∃b,v=.pointer (aa ⟨b,0,af⟩)/\dn v1=ab/\d b=aa (.cells #[if a then v else .pointer af,v1] T (0,0)) /\
 match bf with
 |none=>xs=[]/\∀c,(d c).isSome=ab↔c=b
 |some (g,cap)=>g≠b/\xs.length<=cap/\0<cap/\cap<=9223372036854775807/\f<=xs.length/\(∃e,(qp xs++e).length=cap/\d g=aa (.cells (qp xs++e).toArray E (0,f)))/\∀c,(d c).isSome=ab↔c=b∨c=g
section
variable {X:Cx P}{k:List (Nat×TI)}{T:av}{a:Bool}{v1:aj}{bf:Option (Nat×Nat)}{xs:List UInt8}{f:Nat}
structure vn(P:aK)(σ:List bm)(s:St)(l:Nat)(T E:av)(a:Bool)(v1:aj)(bf:Option (Nat×Nat))(xs:List UInt8)(f:Nat)(L:Loc)(b:Nat)(ch:Nat->Option Obj):Prop where
 β:s.β[l]?=aa L
 v:L.v=.pointer (aa ⟨b,0,af⟩)
 bb:BB T E a v1 bf xs f L.v ch
 heap:∀(b:Nat) (o:Obj),ch b=aa o->s.w.heap[b]?=aa o
 bs:∀b,b∈L.bs↔(ch b).isSome=ab
 M:∀b∈L.bs,∀o,s.M b o=af
 ch:ch b=aa (.cells #[if a then L.v else .pointer af,v1] T (0,0))
 cell:dn v1=ab
def BB.row(hh:aF σ s)(hl:σ[l]?=aa (.dg (BB T E a v1 bf xs f))):∃L b ch,vn P σ s l T E a v1 bf xs f L b ch:=by
 have c:l<s.β.length:=by rw[hh.len];grind
 have d:=bn c;generalize s.β[l]=L at d;obtain⟨ch,g,h1,h2,h⟩:=hh.box l _ L hl d;have e:=g;obtain⟨b,i,j,hb,_⟩:=e;exact⟨L,b,ch,d,i,g,h1,h2,h,hb,j⟩
def vn.mem{L:Loc}{ch:Nat->Option Obj}(r:vn P σ s l T E a v1 bf xs f L b ch):b∈L.bs:=(r.bs b).2 (by rw[r.ch];rfl)
def vn.ptr{L:Loc}{ch:Nat->Option Obj}(r:vn P σ s l T E a v1 bf xs f L b ch)(h:dk σ s v (.e (.one (.ptr l off)))):v=.pointer (aa ⟨b,off,af⟩):=by obtain⟨_,d,c,h1,h2,rfl⟩:=(h:gD σ s v (.ptr l off));rw[r.β]at h1;cases h1;rw[r.v]at h2;grind
def Iq(u:dj P k){i:TI}(h:o.op=.load t x)(hi:bG k t=aa i)(I:i.agg=ae)(K:σ[l]?=aa (.dg (BB T E a v1 bf xs f))){d:D}(G:η x=.e (.one (.ptr l off)))(J:∀s L b ch,aF σ s->vn P σ s l T E a v1 bf xs f L b ch->∃v,(#[if a then L.v else .pointer af,v1]:Array aj)[off]?=aa v/\dk σ s v d):bF P o η σ d σ:=by
 refine .nL λs B A C=>?_;obtain⟨L,b,ch,r⟩:=BB.row (P:=P) A K;have z:=r.ptr (by have:=C x;rwa [G]at this);obtain⟨v,F,q⟩:=J s L b ch A r;have g:s.w.cell? ⟨b,off,af⟩=aa v:=by simp only[aR,r.heap _ _ r.ch];grind
 have c:(loadVar t ⟨b,off,af⟩).run P s.w=.ok v s.w:=by simp[loadVar,(u t i hi).jV,I,run_load,g]
 refine⟨v,by simp[an,h,z,Instr.loadAt,Instr.sureAddr,c],q,λy p=>?_⟩;have m:y∈(loadVar t ⟨b,off,af⟩).events P s.w #[]:=by
  have e:an B o=(do pure (.value (<-loadVar t ⟨b,off,af⟩))):=by simp[an,h,z,Instr.loadAt,Instr.sureAddr]
  rw[e]at p;simpa[c]using p
 obtain⟨j,H,rfl⟩:=jW (u t i hi) (n:=1) (λj H=>by grind) (by grind) y m
 exact rJ (bL r.β) r.mem
def bF.fg(g:dj P k){i:TI}(h:o.op=.load t x)(hi:bG k t=aa i)(c:i.agg=ae)(hl:σ[l]?=aa (.dg (BB T E a v1 bf xs f)))(d:η x=.e (.one (.ptr l 1))):bF P o η σ (.e (.one (.v v1))) σ :=
 Iq g h hi c hl d λs L b ch hh r=>⟨v1,by simp,Rd.val r.cell⟩
def L9{H:aj->(Nat->Option Obj)->Prop}(b:σ[l]?=aa (.dg H)):∀B,σ[l]?=aa B->B.gr=ae:=by intro B h;rw[b]at h;cases h;rfl
def bF.Ir(g:dj P k){i:TI}(h:o.op=.load t x)(hi:bG k t=aa i)(c:i.agg=ae)(hl:σ[l]?=aa (.dg (BB T E ab v1 bf xs f)))(d:η x=.e (.one (.ptr l 0))):bF P o η σ (.e (.one (.ptr l 0))) σ :=
 Iq g h hi c hl d λs L b ch hh r=>⟨L.v,by simp,L9 hl,L,b,r.β,r.v,r.v⟩
def bF.Pq(j:dj P k){i:TI}(h:o.op=.load t x)(hi:bG k t=aa i)(d:i.agg=ae)(hl:σ[l]?=aa (.dg (BB T E ae v1 bf xs f)))(g:η x=.e (.one (.ptr l 0))):bF P o η σ (.e (.one (.c .oK))) σ :=
 Iq j h hi d hl g λs L b ch hh r=>⟨.pointer af,by simp,Rd.oK⟩
def setRow_size(w:aA)(b:Nat)(row:Array aj):(w.setRow b row).heap.size=w.heap.size:=by simp[World.setRow]
def Is(Z:dj P k){i:TI}(h:o.op=.store t x y)(hi:bG k t=aa i)(F:i.size=1)(U:σ[l]?=aa (.dg (BB T E a v1 bf xs f))){c:Bool}{d:aj}(hx:η x=.e (.one (.ptr l off)))(ho:off<2)(hc:dn d=ab)(hd:∀s L b ch v,aF σ s->vn P σ s l T E a v1 bf xs f L b ch->dk σ s v (η y)->dn v=ab/\(#[if a then L.v else .pointer af,v1]:Array aj).setIfInBounds off v=#[if c then L.v else .pointer af,d]):bF P o η σ .any (σ.set l (.dg (BB T E c d bf xs f))):=by
 intro s q Q S;obtain⟨L,b,ch,r⟩:=BB.row (P:=P) Q U;have C:=r.ptr (by have:=S x;rwa [hx]at this);obtain⟨G,D⟩:=hd s L b ch (q y) Q r (S y);have p:(q y).cells=#[q y]:=by cases N:q y<;>simp[N,dn,Value.cells]at G⊢
 have z:∀v∈[q y],v.oneCell'=ab:=by intro v C;simp at C;subst C;cases N:q y<;>simp[N,dn,Value.oneCell']at G⊢
 have m:=r.heap _ _ r.ch;have J:=run_storeCells_at P b off T [q y] 0 _ s.w m (by grind) z;have B:((#[if a then L.v else .pointer af,v1]:Array aj).toList.take (off+0)++[q y]++(#[if a then L.v else .pointer af,v1]:Array aj).toList.drop (off+0+[q y].length)).toArray=#[if c then L.v else .pointer af,d]:=by
  rw[<-D]
  match off,ho with
  |0,_=>grind
  |1,_=>grind
 rw[B]at J;have V:(s.w.setRow b #[if c then L.v else .pointer af,d]).heap[b]?=aa (.cells #[if c then L.v else .pointer af,d] T (0,0)):=setRow_heap s.w b _ _ T _ m;have A:∀g,g≠b->(s.w.setRow b #[if c then L.v else .pointer af,d]).heap[g]?=s.w.heap[g]?:=λg n=>setRow_other s.w b g _ n;obtain⟨Y,R⟩:=Q.jk (l:=l) (H':=BB T E c d bf xs f) (L':=L) (w':=s.w.setRow b #[if c then L.v else .pointer af,d]) U r.β rfl (by rw[setRow_size];grind)
  (λg n hn=>A g (by rintro rfl;exact hn r.mem)) (λg n=>.inl n)
  ⟨λg=>if g=b then aa (.cells #[if c then L.v else .pointer af,d] T (0,0))else ch g,by
   obtain⟨K,W,q2,q3,q4⟩:=r.bb;have:K=b:=by rw[r.v]at W;grind
   subst this;have O:∀g,(if g=K then aa (Obj.cells #[if c then L.v else .pointer af,d] T (0,0))else ch g).isSome=ab↔(ch g).isSome=ab:=by grind
   refine⟨K,W,hc,by simp,?_⟩;grind,λg o' n=>by
   by_cases e:g=b
   .grind
   .simp only[e,b6]at n;rw[A g e];exact r.heap _ _ n,λg=>by
   rw[r.bs g];by_cases e:g=b
   .subst e;simp[r.ch]
   grind⟩ rfl rfl rfl
 have I:s.β.set l L=s.β:=by
  apply g9;intro j;by_cases e:l=j
  .subst e;rw[gw (cf.1 r.β).1,r.β]
  grind
 rw[I]at Y R;refine⟨.skip,{s with w:=s.w.setRow b #[if c then L.v else .pointer af,d]},?_,rfl,Y,R,?_⟩
 .simp[an,h,C,Instr.storeAt,Instr.sureAddr,storeVar,(Z t i hi).run_sizeOf,F,p,J]
 .intro ev u;have e:an q o=(do storeVar t ⟨b,off,af⟩ (q y);pure .skip):=by simp[an,h,C,Instr.storeAt,Instr.sureAddr]
  rw[e]at u;have H:ev∈(storeCells ⟨b,off,af⟩ [q y]).events P s.w #[]:=by
   simp only[storeVar,aP,(Z t i hi).run_sizeOf,p,F,aV,events_sizeOf,cT,fD,b6,bU,cw,Sem.events_pure,List.size_toArray,eb]at u;generalize(storeCells ⟨b,off,af⟩ [q y]).run P s.w=r at u;cases r with
   |ok v w'=>simpa using u
   |halt x w'=>simpa using u
  rcases eh [q y] 0 _ s.w #[] m (by grind) z ev H with Ou|⟨j,_,_,rfl⟩
  .grind
  .exact k7 (bL r.β) r.mem (r.M _ r.mem _)
def bF.zk(m:dj P k){i:TI}(h:o.op=.store t x y)(hi:bG k t=aa i)(d:i.size=1)(hl:σ[l]?=aa (.dg (BB T E a v1 bf xs f))){c:aj}(n:η x=.e (.one (.ptr l 1)))(j:η y=.e (.one (.v c)))(p:dn c=ab):bF P o η σ .any (σ.set l (.dg (BB T E a c bf xs f))) :=
 Is m h hi d hl n (by omega) p λs L b ch v hh r g=>by rw[j]at g;have:=Rd.fN g;grind
def bF.Ma(j:dj P k){i:TI}(h:o.op=.store t x y)(hi:bG k t=aa i)(c:i.size=1)(hl:σ[l]?=aa (.dg (BB T E a v1 bf xs f)))(m:η x=.e (.one (.ptr l 0)))(g:η y=.e (.one (.ptr l 0)))(n:dn v1=ab):bF P o η σ .any (σ.set l (.dg (BB T E ab v1 bf xs f))) :=
 Is j h hi c hl m (by omega) n λs L b ch v hh r d=>by rw[g]at d;have:=r.ptr d;subst this;refine⟨rfl,?_⟩;rw[<-r.v];rfl
def bF.Pr{T:av}(h:o.op=.alloc T)(j:∀w,(zeroValue T).run P w=.ok (.agg #[.pointer af,.slice af 0 0]) w)(g:∀w es,(zeroValue T).events P w es=es):bF P o η σ (.e (.one (.ptr σ.length 0))) (σ++[.dg (BB T E ae (.slice af 0 0) af [] 0)]):=by
 intro s r hh hr;let w':=s.w.alloc (.cells #[.pointer af,.slice af 0 0] T);obtain⟨n,g2⟩:=hh.grow (M':=s.M) (w':=w') (by simp[w']) (λb hb=>cZ s.w _ hb) (λ_ _ _=>rfl) (λb hb o v hm=>by have:=hh.block hm;omega) rfl rfl rfl;have m:w'.heap.size=s.w.heap.size+1:=by simp[w']
 have i:w'.heap[s.w.heap.size]?=aa (.cells #[.pointer af,.slice af 0 0] T (0,0)):=ei s.w _;obtain⟨p,q⟩:=n.hU g2 rfl hh (B:=.dg (BB T E ae (.slice af 0 0) af [] 0)) (L:=⟨.pointer (aa ⟨s.w.heap.size,0,af⟩),[s.w.heap.size]⟩)
  ⟨λd=>if d=s.w.heap.size then aa (.cells #[.pointer af,.slice af 0 0] T (0,0))else af,⟨s.w.heap.size,rfl,rfl,by simp,rfl,λd=>by by_cases e:d=s.w.heap.size<;>simp[e]⟩,λd l c=>by
   grind,λd=>by by_cases e:d=s.w.heap.size<;>simp[e],λd c l=>by
   simp at c;subst c;show s.M _ _=af;cases hm:s.M s.w.heap.size l with
   |none=>rfl
   |some v=>have:=hh.block hm;omega⟩ (λd c=>by grind)
 refine⟨.value (.pointer (aa ⟨s.w.heap.size,0,af⟩)),_,?_,⟨by simp,⟨.pointer (aa ⟨s.w.heap.size,0,af⟩),[s.w.heap.size]⟩,s.w.heap.size,?_,rfl,rfl⟩,p,q,?_⟩
 .simp[an,h,Instr.alloc,j,Go.newVar,newRow,Value.cells,w']
 .simp[<-hh.len]
 .simp[an,h,Instr.alloc,j,g,Go.newVar,newRow];exact .nil
end
section
variable {X:Cx P}{q:List (Nat×TI)}{T:av}{d:Bool}{v1:aj}{bf:Option (Nat×Nat)}{xs:List UInt8}{k:Nat}
def oM{P:aK}{b o:Nat}{t:av}{k:Nat×Nat}:∀(vs:List aj)(i:Nat)(a:Array aj)(w:aA)(es:Array Event),w.heap[b]?=aa (.cells a t k)->k.2<=o+i->o+i+vs.length<=a.size->(∀v∈vs,v.oneCell'=ab) ->
  ∀e∈(storeCells ⟨b,o,af⟩ vs i).events P w es,e∈es∨∃j,i<=j/\j<i+vs.length/\e=GF b (o+j)
 |[],_,_,_,_,_,_,_,_=>λe h=>.inl (by simpa[storeCells]using h)
 |v::rest,i,a,w,es,g,p,z,n=>λe h=>by
  have hi:o+i<a.size:=by grind
  have c:w.cell? ⟨b,o+i,af⟩=aa a[o+i]:=by simp[aR,g,hi]
  have f:w.frozen? ⟨b,o+i,af⟩=ae:=by obtain⟨lo,r⟩:=k;simp only[World.frozen?,g,rj,bM];grind
  have l:(store (⟨b,o+i,af⟩:Addr) v).run P w=.ok () (w.setRow b (a.setIfInBounds (o+i) v)):=by grind[run_store,setCell_eq_setRow]
  have m:(store (⟨b,o+i,af⟩:Addr) v).events P w es=es.push (GF b (o+i)):=by rw[events_store P w es _ v _ (n v (by simp)),c];simp only[f,iG,b6];rfl
  simp only[storeCells,aP,de,l,m,aV]at h;rcases oM rest (i+1) (a.setIfInBounds (o+i) v) _ _ (setRow_heap _ _ _ _ _ _ g) (by omega) (by grind) (λu s=>n u (by grind)) e h with y|⟨j,x,A,rfl⟩
  .grind
  grind
def vn.at{L:Loc}{b g cap:Nat}{ch:Nat->Option Obj}(r:vn P σ s l T E d v1 (aa (g,cap)) xs k L b ch):
  g≠b/\xs.length<=cap/\0<cap/\cap<=9223372036854775807/\k<=xs.length/\(∃a,(qp xs++a).length=cap/\ch g=aa (.cells (qp xs++a).toArray E (0,k)))/\(∀c,(ch c).isSome=ab↔c=b∨c=g)/\g∈L.bs:=by
 obtain⟨h,f,_,_,a1,a2,a3,a4,a5,a6,e⟩:=r.bb;have:h=b:=by rw[r.v]at f;grind
 subst this;obtain⟨a,a6,i⟩:=a6;exact⟨a1,a2,a3,a4,a5,⟨a,a6,i⟩,e,(r.bs g).2 (by grind)⟩
def Iu{L:Loc}(h:s.β[l]?=aa L):s.β.set l L=s.β:=by apply g9;grind
def vn.jk{L:Loc}{b g cap:Nat}{ch:Nat->Option Obj}(hh:aF σ s)(hl:σ[l]?=aa (.dg (BB T E d v1 (aa (g,cap)) xs k)))(r:vn P σ s l T E d v1 (aa (g,cap)) xs k L b ch){xs':List UInt8}{fz':Nat}{zs':List aj}{w':aA}(f:(qp xs'++zs').length=cap)(p:xs'.length<=cap)(o:fz'<=xs'.length)(j:w'.heap.size=s.w.heap.size)(h:∀a,a≠g->w'.heap[a]?=s.w.heap[a]?)(y:w'.heap[g]?=aa (.cells (qp xs'++zs').toArray E (0,fz')))(ho:w'.os=s.w.os)(m:w'.tape=s.w.tape)(u:w'.output=s.w.output):
  aF (σ.set l (.dg (BB T E d v1 (aa (g,cap)) xs' fz'))) {s with w:=w'}/\Step σ s (σ.set l (.dg (BB T E d v1 (aa (g,cap)) xs' fz'))) {s with w:=w'}:=by
 obtain⟨a1,a2,a3,a4,a5,⟨B,a6,C⟩,x,i⟩:=r.at;obtain⟨n,t⟩:=hh.jk (l:=l) (H':=BB T E d v1 (aa (g,cap)) xs' fz') (L':=L) (w':=w') hl r.β rfl (by omega)
  (λa c z=>h a (by grind)) (λa c=>.inl c)
  ⟨λa=>if a=g then aa (.cells (qp xs'++zs').toArray E (0,fz'))else ch a,⟨b,r.v,r.cell,(show(if b=g then _ else ch b)=_ from(aW λe=>a1 e.symm).trans r.ch),a1,p,a3,a4,o,⟨zs',f,by simp⟩,λa=>by
   grind⟩,λa A c=>by
   by_cases e:a=g
   .grind
   .simp only[e,b6]at c;rw[h a e];exact r.heap _ _ c,λa=>by
   rw[r.bs a]
   grind⟩ ho m u
 rw[Iu r.β]at n t;grind
def bF.Mb{J:av}(ho:o.op=.call {callee:=.builtin .append,args:=#[x,y],argTypes:=#[t,J]}){ie:TypeInfo}(V:P.underlying t=aa (.slice E))(u:P.underlying J=aa .string)(F:P.info? E=aa ie)(H:ie.size=1){g cap:Nat}(hl:σ[l]?=aa (.dg (BB T E d v1 (aa (g,cap)) xs k)))(hx:η x=.e (.one (.v (oJ (aa (g,cap)) n))))(hn:xs.length=n){str:List UInt8}(hy:η y=.e (.one (.c (.str str))))(Y:n+str.length<=cap):
  bF P o η σ (.e (.one (.v (oJ (aa (g,cap)) (n+str.length))))) (σ.set l (.dg (BB T E d v1 (aa (g,cap)) (xs++str) k))):=by
 intro s ρ hh hr;subst hn;obtain⟨L,b,ch,r⟩:=BB.row (P:=P) hh hl;obtain⟨a1,a2,a3,a4,a5,⟨a,a6,a7⟩,a8,m⟩:=r.at;have z:=hr x;rw[hx]at z;have z:=Rd.fN z;have A:=hr y;rw[hy]at A;have A:=fM A;generalize I:ρ y=vy at A;cases A with
 |@str sb _ U W =>
 have D:sb.size=str.length:=by rw[<-U,iW];rfl
 have K:=r.heap _ _ a7;have S:(qp xs++a).toArray.size=cap:=by grind
 have p:=Lib.run_append_room_stringF (P:=P) s.w t J o.type E ie V u F H g xs.length cap _ _ K a5 sb (by omega) (by grind);have C:((qp xs++a).toArray.toList.take xs.length++Lib.strCells sb++(qp xs++a).toArray.toList.drop (xs.length+sb.size))=qp (xs++str)++a.drop str.length:=by
  have e1:(qp xs++a).take xs.length=qp xs:=by grind[uR]
  have e2:(qp xs++a).drop (xs.length+sb.size)=a.drop str.length:=by rw[List.drop_append,uR,List.drop_eq_nil_of_le (by grind),D];simp
  have e3:Lib.strCells sb=qp str:=by simp[Lib.strCells,qp,U]
  rw[List.toList_toArray,e1,e2,e3,L8]
 rw[C,D]at p;have hlz:a.length=cap-xs.length:=by grind[uR]
 have f:(qp (xs++str)++a.drop str.length).length=cap:=by grind[uR]
 have B:(s.w.setRow g (qp (xs++str)++a.drop str.length).toArray).heap[g]?=aa (.cells (qp (xs++str)++a.drop str.length).toArray E (0,k)):=setRow_heap s.w g _ _ E _ K;obtain⟨t1,Q⟩:=r.jk (fz':=k) (w':=s.w.setRow g (qp (xs++str)++a.drop str.length).toArray) hh hl f (by grind) (by grind) (setRow_size _ _ _) (λb' O=>setRow_other s.w g b' _ O) B rfl rfl rfl;refine⟨.value (.slice (aa ⟨g,0,af⟩) (xs.length+str.length) cap),_,?_,Rd.val rfl,t1,Q,?_⟩
 .rw[cN ho,z,I];simp only[bU,cY];have G:(bj #[t,J] o.type #[oJ (aa (g,cap)) xs.length,.string sb]).run P s.w=_:=p;rw[G];rfl
 .rw[cN ho,z,I];refine et λe Z=>?_;have hf:=Lib.run_firstCells_string (P:=P) s.w 1 sb;have R:=run_storeCells_atF P g xs.length E (0,k) (Lib.strCells sb) 0 _ s.w K (by grind) (by grind) (Lib.strCells_oneCell sb);have i:xs.length+sb.size<=cap:=by omega
  have N:(Builtin.firstCells 1 sb.size (.string sb)).events P s.w #[]=#[]:=rfl;simp[oJ,bj,run_underlying V,run_underlying u,sizeOf,typeInfo,F,H,Builtin.lenOf,i,hf,N,de,R]at Z;rcases oM (Lib.strCells sb) 0 _ s.w _ K (by grind) (by grind) (Lib.strCells_oneCell sb) e Z with h|⟨j,h1,h2,rfl⟩
  .grind
  .exact k7 (bL r.β) m (r.M _ m _)
def bF.Iv{n:av}(ho:o.op=.call {callee:=.builtin .append,args:=#[x,y],argTypes:=#[t,n]}){ie:TypeInfo}(m:P.underlying t=aa (.slice E))(b:P.underlying n=aa .string)(g:P.info? E=aa ie)(u:η x=.e (.one (.v (oJ af 0))))(r:η y=.e (.one (.c (.str [])))):bF P o η σ (.e (.one (.v (oJ af 0)))) σ:=by
 refine .quiet λs z hh hr=>?_;have f:=hr x;rw[u]at f;have f:=Rd.fN f;have h:=hr y;rw[r]at h;have h:=fM h;generalize i:z y=vy at h;cases h with
 |@str sb _ A p =>
 have a:sb.size=0:=by
  have:sb.data.toList.length=0:=by grind
  rw[iW]at this;exact this
 have j:=Lib.run_firstCells_string (P:=P) s.w ie.size sb;rw[a]at j;have l:(Builtin.firstCells ie.size 0 (.string sb)).events P s.w #[]=#[]:=rfl;refine⟨.slice af 0 0,?_,Rd.val rfl,?_⟩
 .rw[cN ho,f,i];simp[oJ,bj,run_underlying m,run_underlying b,sizeOf,typeInfo,g,Builtin.lenOf,a,j]
 .rw[cN ho,f,i];simp[oJ,bj,run_underlying m,run_underlying b,sizeOf,typeInfo,g,Builtin.lenOf,a,j,l]
def Sm{f:aM}{fn:Func}{ps:Array av}(Z:P.underlying t=aa (.slice E))(hf:P.funcs[f]?=aa fn)(C:(fn.name== "runtime.NumGoroutine")=ae)(hb:fn.body.isNone=ab)(S:Extern.findNext fn=af)(H:Extern.find fn=aa (Extern.BytealgMakeNoZero.makeNoZero ps #[t]))(ho:o.op=.call {callee:=.value fo,args:=#[x],argTypes:=jN})(N:η fo=.e (.one (.c (.fn (.func f) [] []))))(hx:η x=.e (.one (.c (.int .i64 n))))(h0:0<n)(Y6:n<=140737488355328)(Y:σ[l]?=aa (.dg (BB T E d v1 af xs k))):
  ∀s A,aF σ s->(∀y,dk σ s (A y) (η y))->∃(j:{p:Nat×Nat // n<=p.2}) (s':St) (v:aj),(an A o).run P s.w=.ok (.value v) s'.w/\dk (σ.set l (.dg (BB T E d v1 (aa j.1) [] 0))) s' v (.e (.one (.v (oJ (aa j.1) n)))) /\
   aF (σ.set l (.dg (BB T E d v1 (aa j.1) [] 0))) s'/\Step σ s (σ.set l (.dg (BB T E d v1 (aa j.1) [] 0))) s'/\eN s ((an A o).events P s.w #[]):=by
 intro s A U W;obtain⟨L,b,ch,r⟩:=BB.row (P:=P) U Y;have J:A fo=.func (.func f) #[] #[]:=by
  have g:=W fo;rw[N]at g;have g:=fM g;generalize A fo=v at g;cases g with
  |fn fs cs a b f1 f2 c1 c2 d1 d2 =>
   grind
 have F:A x=.int .i64 n:=by have g:=W x;rw[hx]at g;have g:=fM g;generalize A x=v at g;cases g;rfl
 obtain⟨cs,g,M,O⟩:=Lib.run_makeNoZero (P:=P) s.w ps t E Z n (by omega);have O:=O (by simp only[maxLen];omega);have B:(callFunc f #[.int .i64 n]).run P s.w=.ok (.value (.slice (aa ⟨s.w.heap.size,0,af⟩) n cs.size)) (s.w.drew.drew.alloc (.cells cs E)):=by rw[run_callFunc_extern hf C hb S H,g];rfl
 let w':aA:=s.w.drew.drew.alloc (.cells cs E);have Mc:w'.heap[s.w.heap.size]?=aa (.cells cs E (0,0)):=ei s.w.drew.drew _;have Iw:w'.heap.size=s.w.heap.size+1:=by show(s.w.drew.drew.heap.push _).size=_;simp
 obtain⟨z,q1,q2,q3,q4⟩:=r.bb;have R:z=b:=by rw[r.v]at q1;grind
 subst R;have I:z<s.w.heap.size:=U.lt L (bL r.β) z r.mem;have D:s.w.heap.size≠z:=by omega
 obtain⟨t1,t2⟩:=U.jk (l:=l) (H':=BB T E d v1 (aa (s.w.heap.size,cs.size)) [] 0) (L':=⟨L.v,[z,s.w.heap.size]⟩) (w':=w') Y r.β rfl (by omega)
  (λu i S=>cZ s.w.drew.drew _ i) (λu i=>by
   simp at i;rcases i with rfl|rfl
   .exact .inl r.mem
   grind)
  ⟨λu=>if u=z then aa (.cells #[if d then L.v else .pointer af,v1] T (0,0))else if u=s.w.heap.size then aa (.cells cs E (0,0))else af,⟨z,r.v,r.cell,by simp,D,by simp,by omega,by simp only[maxLen]at O;omega,by simp,⟨cs.toList,by simp[qp],by simp[D,qp]⟩,λu=>by
   grind⟩,λu o' i=>by
   by_cases e:u=z
   .subst e;simp only[bY]at i;have:w'.heap[u]?=s.w.heap[u]?:=cZ s.w.drew.drew _ I;rw[this,<-i];exact r.heap _ _ r.ch
   grind,λu=>by grind⟩ rfl rfl rfl
 refine⟨⟨(s.w.heap.size,cs.size),M⟩,_,_,?_,Rd.val rfl,t1,t2,?_⟩
 .simp[an,ho,resolve,Deferred.ofValue,invoke,J,F,B,w',oJ]
 .intro ev Q;simp only[an,ho,resolve,Deferred.ofValue,invoke,J,F]at Q;have G:ev∈(callFunc f #[.int .i64 n]).events P s.w #[]:=by grind
  have K:fn.name≠ "runtime.NumGoroutine":=by grind
  have V:fn.body=af:=by simpa using hb
  have key:∀es:Array Event,∀e∈(Extern.BytealgMakeNoZero.makeNoZero ps #[t] #[.int .i64 n]).events P s.w es,e∈es∨∃m,e=⟨.mark m,ae,ab⟩/\Go.Conc.Neutral m:=by
   intro es e H;change e∈Sem.events P (underlying _ >>= _) _ _ at H;have g:¬(n:Int)<0:=by omega
   have M:¬(281474976710656:Int)<(n:Int):=by omega
   have UE:e∈(askRoom (grownCap s.w n 0 E)).events P s.w.drew es:=by simpa[run_underlying Z,g,M,Question.forced,newRow,grownCap]using H
   grind[Go.Conc.events_askRoom]
  have:ev∈(Extern.BytealgMakeNoZero.makeNoZero ps #[t] #[.int .i64 n]).events P s.w ((#[]:Array Event).push ⟨.mark (.extern f),ae,ab⟩):=by have e:callFunc f #[.int .i64 n]=callFunc f #[.int .i64 n]:=rfl;simpa[callFunc,hf,K,V,S,H,g]using G
  rcases key _ _ this with h|⟨m,rfl,hm⟩
  .simp at h;subst h;exact .inr ⟨f,rfl⟩
  .exact .inl hm
def Sn{B J:av}(ho:o.op=.call {callee:=.builtin .unsafeString,args:=#[x,y],argTypes:=#[B,J]})(hp:P.underlying B=aa (.pointer E))(G:P.cellsOf E=1){g cap:Nat}(U:σ[l]?=aa (.dg (BB T E d v1 (aa (g,cap)) xs k)))(hx:η x=.e (.one (.v (.pointer (aa ⟨g,0,af⟩)))))(hy:η y=.e (.one (.c (.int .i64 xs.length)))):
  bF P o η σ (.e (.one (.c (.str xs)))) (σ.set l (.dg (BB T E d v1 (aa (g,cap)) xs xs.length))):=by
 intro s K hh hr;obtain⟨L,b,ch,r⟩:=BB.row (P:=P) hh U;obtain⟨a1,a2,a3,a4,a5,⟨N,a6,a7⟩,a8,O⟩:=r.at;have u:=hr x;rw[hx]at u;have u:=Rd.fN u;have p:K y=.int .i64 xs.length:=by have D:=hr y;rw[hy]at D;have D:=fM D;generalize K y=v at D;cases D;rfl
 have hg:=r.heap _ _ a7;have t:an K o=(do pure (.value (<-Builtin.unsafeString_ #[B,J] o.type #[K x,K y]))):=by simp[an,ho,resolve,invoke,builtin]
 have hlen:(qp xs++N).toArray.size=cap:=by grind
 by_cases h0:xs=[]
 .subst h0;have n:=Lib.run_unsafeString_none (P:=P) s.w B J o.type (aa ⟨g,0,af⟩);obtain⟨t1,Q⟩:=r.jk (xs':=[]) (fz':=0) (zs':=N) (w':=s.w) hh U a6 a2 (by simp) rfl (λ_ _=>rfl) (by grind) rfl rfl rfl;refine⟨.value (.string .empty),_,?_,Rd.str rfl (by simp),t1,Q,?_⟩
  .rw[t,u,p];simp only[bU,cY];have:(Builtin.unsafeString_ #[B,J] o.type #[.pointer (aa ⟨g,0,af⟩),.int .i64 ([]:List UInt8).length]).run P s.w=_:=n;rw[this];rfl
  .rw[t,u,p];refine et ?_;change eN s (Sem.events P (asInt (.int .i64 0) >>= _) _ _);simp[asInt,asIntOf,IntKind.max];exact .nil
 .have i:∀j x,xs[j]?=aa x->s.w.cell? ((⟨g,0,af⟩:Addr).add j)=aa (.int .u8 x.toNat):=by
   intro j x M;rw[de];simp only[aR,hg,bz];have uS:j<xs.length:=(cf.1 M).1;have:(qp xs)[j]?=aa (.int .u8 x.toNat):=by simp[qp,M]
   grind
  have z:s.w.shape? g=aa (E,cap):=by simp only[World.shape?,hg];grind
  have n:=Lib.run_unsafeString_row (P:=P) s.w B J o.type E hp G g cap z xs h0 a2 (by omega) i;have f:xs.length≠0:=by grind
  have Y7:(s.w.freeze ⟨g,0,af⟩ xs.length).heap[g]?=aa (.cells (qp xs++N).toArray E (0,xs.length)):=by simp only[World.freeze,f,b6,y8,bY,hg,mz];grind
  obtain⟨t1,Q⟩:=r.jk (xs':=xs) (fz':=xs.length) (zs':=N) (w':=s.w.freeze ⟨g,0,af⟩ xs.length) hh U a6 a2 (ba _) (by simp[World.freeze,f]) (λb' oB=>by
   simp only[World.freeze,f,b6,y8]
   grind) Y7 (by simp[World.freeze,f]) (by simp[World.freeze,f]) (by simp[World.freeze,f])
  refine⟨.value (.string ⟨xs.toArray⟩),_,?_,Rd.str (by simp) (by omega),t1,Q,?_⟩
  .rw[t,u,p];simp only[bU,cY,n];rfl
  .rw[t,u,p];refine et λe A=>?_;have H:¬(xs.length:Int)<0:=by omega
   have W:¬(9223372036854775807:Int)<(xs.length:Int):=by omega
   have m:=Lib.liesAt_bytes (P:=P) G (cap / P.cellsOf E) xs.length (by grind);have I:IntKind.i64.max=9223372036854775807:=rfl;have V:=Lib.run_loadBytes (P:=P) s.w xs ⟨g,0,af⟩ .empty i;have Y:∀(F:List UInt8) (a:Nat) (acc:ByteArray) (es:Array Event),(∀j x,F[j]?=aa x->s.w.cell? ⟨g,a+j,af⟩=aa (.int .u8 x.toNat))->∀e∈(loadBytes ⟨g,a,af⟩ acc F.length).events P s.w es,e∈es∨∃j,e=zi g j:=by
    intro F;induction F with
    |nil=>intro a acc es _ e A;exact .inl (by simpa[loadBytes]using A)
    |cons y F ih =>
     intro a acc es G e A;have C:=G 0 y rfl;simp only[fS]at C;have Y8:(load ⟨g,a,af⟩).run P s.w=.ok (.int .u8 y.toNat) s.w:=by grind[run_load]
     simp only[en,loadBytes,aP,Y8,aV,zl C,de]at A;rcases ih (a+1) _ _ (λj x M=>by have:=G (j+1) x (by grind);grind) e A with h|h
     .grind
     grind
   have R:(variablesAt ⟨g,0,af⟩ E xs.length).run P s.w=.ok ab s.w:=by simp[variablesAt,z,m]
   have Z:∀es,(variablesAt ⟨g,0,af⟩ E xs.length).events P s.w es=es:=λes=>by simp[variablesAt,z,m]
   have S:e∈(loadBytes ⟨g,0,af⟩ .empty xs.length).events P s.w #[]:=by change e∈Sem.events P (asInt (.int .i64 (xs.length:Int)) >>= _) _ _ at A;simpa[asInt,asIntOf,I,H,W,f,elemOf,run_underlying hp,R,Z,V]using A
   rcases Y xs 0 .empty #[] (λj x M=>by grind[de]) e S with h|⟨j,rfl⟩
   .grind
   .exact rJ (bL r.β) O
end
section
variable {X:Cx P}{p:List (Nat×TI)}{T:av}{g:Bool}{v1:aj}{bf:Option (Nat×Nat)}{xs:List UInt8}{i:Nat}
def bF.exact{r:aj}{d:D}(c:η x=.e (.one (.v v)))(h:∀(a:aE->aj) w,a x=v->(an a o).run P w=.ok (.value r) w/\(an a o).events P w #[]=#[])(f:∀σ s,dk σ s r d):bF P o η σ d σ:=by refine .quiet λs a hh hr=>?_;have b:=hr x;rw[c]at b;have b:=Rd.fN b;obtain⟨h1,h2⟩:=h a s.w b;grind
def bF.uo(h:o.op=.call {callee:=.builtin .len,args:=#[x],argTypes:=jN})(d:jN[0]?=aa t)(b:P.underlying t=aa (.slice E)){a:Option Addr}{c:Nat}(f:η x=.e (.one (.v (.slice a n c))))(k:n<=9223372036854775807):bF P o η σ (.e (.one (.c (.int .i64 n)))) σ :=
  .exact f (λl w j=>by constructor<;>simp[an,h,resolve,invoke,builtin,Builtin.len_,j,run_underlying b,goInt,d]) (λ_ _=>Rd.int (by simp only[bt];omega))
def bF.Md(h:o.op=.call {callee:=.builtin .cap,args:=#[x],argTypes:=jN})(d:jN[0]?=aa t)(b:P.underlying t=aa (.slice E)){a:Option Addr}{c:Nat}(f:η x=.e (.one (.v (.slice a n c))))(k:c<=9223372036854775807):bF P o η σ (.e (.one (.c (.int .i64 c)))) σ :=
  .exact f (λl w j=>by constructor<;>simp[an,h,resolve,invoke,builtin,Builtin.cap_,j,run_underlying b,goInt,d]) (λ_ _=>Rd.int (by simp only[bt];omega))
def bF.So(h:o.op=.call {callee:=.builtin .unsafeSliceData,args:=#[x],argTypes:=jN}){c:Nat}(a:η x=.e (.one (.v (.slice af n c)))):bF P o η σ (.e (.one (.v (.pointer af)))) σ :=
  .exact a (λd w b=>by
    have e:Builtin.unsafeSliceData_ jN o.type #[.slice af n c]=pure (.pointer af):=rfl
    constructor<;>simp[an,h,resolve,invoke,builtin,b,e]) (λ_ _=>Rd.val rfl)
def bF.Sp(h:o.op=.call {callee:=.builtin .unsafeSliceData,args:=#[x],argTypes:=jN}){a:Addr}{c:Nat}(d:η x=.e (.one (.v (.slice (aa a) n c))))(b:c≠0):bF P o η σ (.e (.one (.v (.pointer (aa a))))) σ :=
  .exact d (λj w f=>by
    obtain⟨m,rfl⟩:=Nat.exists_eq_succ_of_ne_zero b;have e:Builtin.unsafeSliceData_ jN o.type #[.slice (aa a) n (m+1)]=pure (.pointer (aa a)):=rfl
    constructor<;>simp[an,h,resolve,invoke,builtin,f,e]) (λ_ _=>Rd.val rfl)
def bF.Sq(h:o.op=.slice t x af (aa y) af)(l:P.underlying t=aa (.slice E)){ie:TypeInfo}(hi:P.info? E=aa ie){a:Addr}{c:Nat}(A:η x=.e (.one (.v (.slice (aa a) n c))))(u:η y=.e (.one (.c (.int .i64 k))))(z:k<=n)(q:n<=c)(m:c≠0)(B:a.add 0=a):bF P o η σ (.e (.one (.v (.slice (aa a) k c)))) σ:=by
  refine .quiet λs r hh hr=>?_;have b:=hr x;rw[A]at b;have b:=Rd.fN b;have d:r y=.int .i64 k:=by have h1:=hr y;rw[u]at h1;have h1:=fM h1;generalize r y=v at h1;cases h1;rfl
  have hl:((af:Option aj)=af/\(af:Option Int)=af)∨∃k j,(af:Option aj)=aa (.int k j)/\(af:Option Int)=aa j:=.inl ⟨rfl,rfl⟩;have hh:(aa (Value.int .i64 k)=af/\(aa (k:Int))=af)∨∃k' j,aa (Value.int .i64 k)=aa (.int k' j)/\(aa (k:Int))=aa j:=.inr ⟨_,_,rfl,rfl⟩;have ho:ar (jz n af (aa (k:Int))):=by simp[jz,z]
  obtain⟨hb,_,_⟩:=nN (P:=P) (isS:=ab) q hl hh ho s.w;have f:=pM (P:=P) (isS:=ab) q hl hh ho s.w;simp only[cr,bD]at hb;refine⟨.slice (aa a) k c,?_,Rd.val rfl,?_⟩
  · simp[an,h,b,d,Instr.sliceAt,run_underlying l,Instr.slice,hb,sizeOf,typeInfo,hi,m,B]
  · simp[an,h,b,d,Instr.sliceAt,run_underlying l,Instr.slice,hb,f,sizeOf,typeInfo,hi,m]
def bF.copyV{k:av}(h:o.op=.call {callee:=.builtin .copy,args:=#[x,y],argTypes:=#[t,k]})(j:P.underlying t=aa (.slice E)){ie:TypeInfo}(hi:P.info? E=aa ie){a:Addr}{c:Nat}(l:η x=.e (.one (.v (.slice (aa a) 0 c))))(f:η y=.e (.one (.v (.slice af 0 0)))):bF P o η σ (.e (.one (.c (.int .i64 0)))) σ:=by
  refine .quiet λs m hh hr=>?_;have b:=hr x;rw[l]at b;have b:=Rd.fN b;have d:=hr y;rw[f]at d;have d:=Rd.fN d;refine⟨.int .i64 0,?_,Rd.int (by simp[bt]),?_⟩<;>
  simp[an,h,resolve,invoke,builtin,Builtin.copy_,b,d,run_underlying j,sizeOf,typeInfo,hi,Builtin.lenOf,Builtin.firstCells,storeCells,goInt]
def bF.Sr{k j:av}(ho:o.op=.call {callee:=.builtin .unsafeString,args:=#[x,y],argTypes:=#[k,j]})(m:η x=.e (.one (.v (.pointer af))))(l:η y=.e (.one (.c (.int .i64 ((0:Nat):Int))))):bF P o η σ (.e (.one (.c (.str [])))) σ:=by
  refine .nL λs h hh hr=>?_;have a:=hr x;rw[m]at a;have a:=Rd.fN a;have d:h y=.int .i64 0:=by have h1:=hr y;rw[l]at h1;have h1:=fM h1;generalize h y=v at h1;cases h1;rfl
  have b:an h o=(do pure (.value (<-Builtin.unsafeString_ #[k,j] o.type #[h x,h y]))):=by simp[an,ho,resolve,invoke,builtin]
  have f:=Lib.run_unsafeString_none (P:=P) s.w k j o.type af;refine⟨.string .empty,?_,Rd.str rfl (by simp),?_⟩
  · rw[b,a,d]
    simp only[bU,cY,f];rfl
  · rw[b,a,d]
    refine et ?_;change eN s (Sem.events P (asInt (.int .i64 0) >>= _) _ _);simp[asInt,asIntOf,IntKind.max];exact .nil
def bF.Y9(m:σ[l]?=aa (.dg (BB T E g v1 bf xs i))){c dst:av}(h:o.op=.convert c dst x)(n:P.underlying c=aa (.pointer T))(t:P.underlying dst=aa .unsafePointer){j:TypeInfo}(hj:P.info? T=aa j)(f:j.size≠0)(u:η x=.e (.one (.ptr l 0))):bF P o η σ (.e (.one (.ptr l 0))) σ:=by
  refine .quiet λs v hh hr=>?_;obtain⟨L,b,ch,r⟩:=BB.row (P:=P) hh m;have d:=hr x;rw[u]at d;have q:=r.ptr d;have k:s.w.shape? b=aa (T,2):=by simp[World.shape?,r.heap _ _ r.ch]
  have a:=Lib.run_to_unsafe (P:=P) s.w ⟨b,0,af⟩ n t hj f k (by simp);refine⟨v x,by simp[an,h,q,a],d,?_⟩;have:(convert c dst (.pointer (aa ⟨b,0,af⟩))).events P s.w #[]=#[]:=by simp[convert,run_underlying n,run_underlying t,Conv.unsafePointer,Conv.seenAt,viewAt,cellsIn,k,sizeOf,typeInfo,hj,f]
  simp[an,h,q,a,this]
def bF.Ss(m:σ[l]?=aa (.dg (BB T E g v1 bf xs i))){d dst:av}(h:o.op=.convert d dst x)(q:P.underlying d=aa .unsafePointer)(u:P.underlying dst=aa (.pointer T)){j:TypeInfo}(hj:P.info? T=aa j)(n:j.size≠0)(a:liesAt P P.depth T (2 / P.cellsOf T) 0 T 1=ab)(v:η x=.e (.one (.ptr l 0))):bF P o η σ (.e (.one (.ptr l 0))) σ:=by
  refine .quiet λs y hh hr=>?_;obtain⟨L,b,ch,r⟩:=BB.row (P:=P) hh m;have f:=hr x;rw[v]at f;have t:=r.ptr f;have k:s.w.shape? b=aa (T,2):=by simp[World.shape?,r.heap _ _ r.ch]
  have c:=Lib.run_from_unsafe (P:=P) s.w ⟨b,0,af⟩ q u hj k a;refine⟨y x,by simp[an,h,t,c],f,?_⟩;have:(convert d dst (.pointer (aa ⟨b,0,af⟩))).events P s.w #[]=#[]:=by simp[convert,run_underlying q,run_underlying u,Conv.unsafePointer,Conv.seenAt,viewAt,variablesAt,k,sizeOf,typeInfo,hj,n,a]
  simp[an,h,t,c,this]
def bF.Su{f:aM}{fn:Func}(r:P.funcs[f]?=aa fn)(j:(fn.name== "runtime.NumGoroutine")=ae)(hb:fn.body.isNone=ab)(u:Extern.findNext fn=af)(t:Extern.find fn=aa Extern.AbiNoEscape.same)(ho:o.op=.call {callee:=.value fo,args:=#[x],argTypes:=jN})(n:η fo=.e (.one (.c (.fn (.func f) [] [])))){d:D}(A:η x=d):bF P o η σ d σ:=by
  refine .nL λs l hh hr=>?_;have m:l fo=.func (.func f) #[] #[]:=by
    have h1:=hr fo;rw[n]at h1;have h1:=fM h1;generalize l fo=v at h1;cases h1 with
    | fn fs cs a b y z c1 c2 d1 d2 =>
      grind
  have k:(callFunc f #[l x]).run P s.w=.ok (.value (l x)) s.w:=by rw[run_callFunc_extern r j hb u t];rfl
  have q:=lB (P:=P) r j hb u t #[l x] (λ_ _=>rfl) s.w #[];refine⟨l x,?_,by grind,λB h=>?_⟩
  · simp[an,ho,resolve,Deferred.ofValue,invoke,m,k]
  · simp[an,ho,resolve,Deferred.ofValue,invoke,m,q]at h
    subst h;exact .inr ⟨_,rfl⟩
end
end Go.AM
