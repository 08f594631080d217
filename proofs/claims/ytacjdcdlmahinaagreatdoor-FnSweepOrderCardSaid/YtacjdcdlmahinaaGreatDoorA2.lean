/- Part 2. No condition. -/
import Derived.Test.YtacjdcdlmahinaaGreatDoorA1
import Derived.Test.YtacjdcdlmahinaaGreatDoorProg
import Derived.MapKept
import Derived.Maps.RangeRun
import Derived.Laws.MakeOwn
import Derived.Lib.SliceRun
import Derived.Lib.FrozenHead
import Derived.Lib.UnsafeStr
import Derived.Lib.MakeNoZero
import Derived.Laws.Externs
import Derived.Lib.Builder
set_option linter.all false
set_option maxHeartbeats 8000000
open Go.Proofs
open Go.Conc (G)
open List renaming length → V, getD_eq_getElem?_getD → aj, range → bl, all_eq_true → bL
open Go renaming Value → ah, TypeId → av, Frame → bd, FuncId → aO, execOp → ar, Event → bg, undef → ai, Operand → aG, World → aB, Program → aR, Oper → aJ, Goroutine → au, stepG → aU
open Option renaming some → O, none → af
open Bool renaming true → W, false → ae
open Go.Region renaming wanted → bn, ready → bo
open Go.World renaming cell? → a9
open Go.Sem renaming events_bind → aM, events_pure → bG
open Go.Result renaming evThen_ok → aP
open Nat renaming beq → aC, ble → bP
open Go.Op renaming equalIn → bx
open Go.Proofs.Tryz renaming prog → ag, underlying22 → aZ
namespace Go.AM
variable {n:Nat}{k:Int}{l b i j:Nat}{E:av}{L:Array Bool}{M:Mem}{N:Nat}{P:aR}{S:au->St->Prop}{c:Code}{g:au}{o:aJ}{s:St}{t:av}{v:ah}{w:aB}{x y:aG}{α:Type}{η:aG->D}{ι:Type}{U:List bq}{J:Fr}{all:List aJ}{lh:Array av}{cap:List C}{cR:List D}{cs:List bd}{ds:List (Nat×Bool)}{es:Nat->List C}{fo:aG}{gs:Array au}{ks:List Nat}{obs:List Prop}{off:Nat}{op:BinOp}{ops:Array aJ}{ps:List Prop}{rest:List aJ}{s':St}{tx:Bool}{ty:av}{val:Nat->Nat->ah}{vs:List ah}{w':aB}{xs:Array aG}{U' Us:List bq}{res:ι->D}{σ1:ι->List bq}
section force
variable {p:Type}
def Ba:C->(C->Option p)->Option p
 |.int k n,q=>q (.int k n)
 |.bool b,q=>q (.bool b)
 |.du s,q=>q (.du s)
 |.sl W k n es,q=>q (.sl W k n es)
 |.sl ae k n es,q=>q (.sl ae k n es)
 |.rp cs,q=>eT cs λcs=>q (.rp cs)
 |.M0 t cs,q=>eT cs λcs=>q (.M0 t cs)
 |.fn f a b,q=>eT a λa=>eT b λb=>q (.fn f a b)
 |c,q=>q c
def Oy(c:C)(q:C->Option p):Ba c q=q c:=by
 cases c with
 |sl t=>cases t<;>rfl
 |rp cs=>simp[Ba,en]
 |M0 t cs=>simp[Ba,en]
 |fn f a b=>simp[Ba,en]
 |_=>rfl
def Bb:A->(A->Option p)->Option p
 |.c x,q=>Ba x λx=>q (.c x)
 |.ptr l o,q=>q (.ptr l o)
 |.dk l k n es,q=>q (.dk l k n es)
 |.oY l,q=>q (.oY l)
 |.bp l (.sl g k o n),q=>q (.bp l (.sl g k o n))
 |.bp l (.el g k i f),q=>q (.bp l (.el g k i f))
 |.any,q=>q .any
def DS(a:A)(q:A->Option p):Bb a q=q a:=by
 cases a with
 |bp l w=>cases w<;>simp[Bb]
 |_=>simp[Bb,Oy]
def Ah:List A->(List A->Option p)->Option p
 |[],q=>q []
 |a::r,q=>Bb a λa=>Ah r λr=>q (a::r)
def KH(l:List A)(q:List A->Option p):Ah l q=q l:=by
 induction l generalizing q with
 |nil=>rfl
 |cons a r b=>simp[Ah,DS,b]
def FE:E1->(E1->Option p)->Option p
 |.bX a,q=>Bb a λa=>q (.bX a)
 |.agg cs,q=>Ah cs λcs=>q (.agg cs)
def DT(a:E1)(q:E1->Option p):FE a q=q a:=by cases a<;>simp[FE,DS,KH]
def Ai:List E1->(List E1->Option p)->Option p
 |[],q=>q []
 |a::r,q=>FE a λa=>Ai r λr=>q (a::r)
def KI(l:List E1)(q:List E1->Option p):Ai l q=q l:=by
 induction l generalizing q with
 |nil=>rfl
 |cons a r b=>simp[Ai,DT,b]
def rZ:D->(D->Option p)->Option p
 |.e x,q=>FE x λx=>q (.e x)
 |.gI xs,q=>Ai xs λxs=>q (.gI xs)
 |.any,q=>q .any
theorem qW(a:D)(q:D->Option p):rZ a q=q a:=by cases a<;>simp[rZ,DT,KI]
end force
def HM:D->Option (Bool×Nat×Nat×(Nat->List C))
 |.e (.bX (.c (.sl t k n es)))=>O (t,k,n,es)
 |.e (.bX (.dk _ k n es))=>O (ae,k,n,es)
 |_=>af
theorem uy{d:D}{t:Bool}{k:Nat}(h:HM d=O (t,k,n,es))(U:List bq)(s:St)(v:ah)(r:ey U s v d):Rd s.M v (.sl t k n es):=by
 unfold HM at h;split at h
 .cases h;exact r
 .cases h;exact r.1
 grind
def lM(l:List UInt8)(j:Int):UInt8:=l.getD j.toNat 0
def abg(T:List (Nat×TI))(t:av)(d:D):Option D :=
 match bY T t with
 |none=>af
 |some i=>match i.desc with
  |.slice _=>match HM d with
   |some (_,_,n,_)=>O (b7 (.int .i64 n))
   |none=>af
  |.string=>match d with
   |.e (.bX (.c (.du s)))=>O (b7 (.int .i64 (V s)))
   |_=>af
  |_=>af
def Sc(T:List (Nat×TI))(a b:av)(d:D):Option (D×List Prop) :=
 match bY T a with
 |none=>af
 |some i1=>match bY T b with
  |none=>af
  |some i2=>match i2.desc with
   |.int k'=>match d with
    |.e (.bX (.c (.int _ j)))=>O (b7 (.int k' j),[cd k' j])
    |_=>af
   |.string=>match d with
    |.e (.bX (.c (.du s)))=>O (b7 (.du s),[])
    |d=>match i1.desc with
     |.slice E=>match bY T E with
      |some ie=>match ie.desc with
       |.int .u8=>match HM d with
        |some (_,k,n,es)=>match aC k 1 with
         |true=>match Bc es 0 n with
          |some r=>O (b7 (.du r),[])
          |none=>af
         |false=>af
        |none=>af
       |_=>af
      |none=>af
     |_=>af
   |_=>af
def KJ(T:List (Nat×TI))(η:aG->D)(t:av)(x:aG)(lo hi:Option aG):Option (D×List Prop) :=
 match bY T t with
 |none=>af
 |some i=>match vF η lo with
  |none=>af
  |some l=>match vF η hi with
   |none=>af
   |some u=>match i.desc with
    |.string=>match η x with
     |.e (.bX (.c (.du s)))=>O (b7 (.du (zu s l u)),lK (V s) l u)
     |_=>af
    |.slice E=>match bY T E with
     |none=>af
     |some ie=>match HM (η x)with
      |some (tt,k,n,es)=>match aC k ie.size with
       |true=>O (b7 (.sl (abh tt u) ie.size (dD n u-dD 0 l) (nY (dD 0 l) es)),lK n l u)
       |false=>af
      |none=>af
    |_=>af
def DU(op:BinOp)(k:IntKind)(a:Int)(k':IntKind)(b:Int):Option (D×List Prop) :=
 match Hu op k a k' b with
 |some (c,obs)=>O (b7 (.int k c),obs)
 |none=>af
theorem w5{k k':IntKind}{a b:Int}{d:D}(h:DU op k a k' b=O (d,obs)):∃c,d=b7 (.int k c)/\Hu op k a k' b=O (c,obs):=by unfold DU at h;grind
def ZP(T:List (Nat×TI))(op:BinOp)(t:av)(x y:D):Option (D×List Prop) :=
 match x,y with
 |.e (.bX (.c (.bool a))),.e (.bX (.c (.bool b)))=>match bY T t with
  |some i=>match i.desc with
   |.bool=>match lx op (a==b)with
    |some c=>O (b7 (.bool c),[])
    |none=>af
   |_=>af
  |none=>af
 |.e (.bX (.c a)),.e (.bX (.c b))=>match op with
  |.xor=>match a,b with
   |.int .i64 a,.int .i64 b=>O (b7 (.int .i64 ((a.toNat ^^^ b.toNat:Nat):Int)),[0<=a,0<=b])
   |.int .u64 a,.int k' b=>DU .xor .u64 a k' b
   |_,_=>af
  |.shl=>match a,b with
   |.int k a,.int k' b=>DU .shl k a k' b
   |_,_=>af
  |.shr=>match a,b with
   |.int k a,.int k' b=>DU .shr k a k' b
   |_,_=>af
  |.and=>match a,b with
   |.int k a,.int k' b=>DU .and k a k' b
   |_,_=>af
  |_=>match WQ op a b with
   |some (c,obs)=>O (b7 c,obs)
   |none=>af
 |.e (.agg cs),.e (.agg es)=>match bY T t with
  |some i=>match i.eq with
   |[]=>af
   |d::ds=>match ZQ (d::ds) cs es with
    |some b=>match lx op b with
     |some c=>O (b7 (.bool c),[])
     |none=>af
    |none=>af
  |none=>af
 |_,_=>af
def opN(T:List (Nat×TI))(CT:List (Nat×eP))(J:Fr)(o:aJ):Option (D×List Prop) :=
 match o.op with
 |.move x|.assign x=>O (ck J x,[])
 |.index t x y=>match bY T t with
  |some i=>match i.desc with
   |.string=>match ck J x,ck J y with
    |.e (.bX (.c (.du l))),.e (.bX (.c (.int _ j)))=>O (b7 (.int .u8 (lM l j).toNat),[0<=j,j<V l])
    |_,_=>af
   |_=>af
  |none=>af
 |.indexAddr t x y=>match bY T t with
  |some i=>match i.desc with
   |.slice E=>match bY T E with
    |some ie=>match HM (ck J x),ck J y with
     |some (_,k,n,es),.e (.bX (.c (.int _ j)))=>match aC k ie.size with
      |true=>O (b7 (.rp (es j.toNat)),[0<=j,j<n])
      |false=>af
     |_,_=>af
    |none=>af
   |_=>af
  |none=>af
 |.slice t x lo hi af=>KJ T (ck J) t x lo hi
 |.convert src dst x=>Sc T src dst (ck J x)
 |.call c=>match c.callee with
  |.builtin .len=>match c.args.toList,c.argTypes[0]? with
   |[x],O t=>match abg T t (ck J x)with
    |some d=>O (d,[])
    |none=>af
   |_,_=>af
  |.value fo=>HN CT J fo c.args.toList
  |_=>af
 |.pick c a b=>match ck J c with
  |.e (.bX (.c (.bool W)))=>O (ck J a,[])
  |.e (.bX (.c (.bool ae)))=>O (ck J b,[])
  |_=>af
 |.binOp op t x y _=>ZP T op t (ck J x) (ck J y)
 |.unOp op _ x=>match ck J x with
  |.e (.bX (.c a))=>match unE op a with
   |some c=>O (b7 c,[])
   |none=>af
  |_=>af
 |.extract x j=>match ck J x with
  |.gI xs=>match eH j xs with
   |some e=>O (.e e,[])
   |none=>af
  |_=>af
 |.fieldAddr t x f=>match l9 T t f with
  |some (k,_)=>match ck J x with
   |.e (.bX (.ptr l off))=>O (cE l (off+k),[])
   |.e (.bX (.c (.rp cs)))=>O (b7 (.rp (iK k cs)),[])
   |_=>af
  |none=>af
 |.field t x f=>match l9 T t f with
  |some (k,j)=>match ck J x with
   |.e (.agg cs)=>match nW j (iK k cs)with
    |some e=>O (.e e,[])
    |none=>af
   |_=>af
  |none=>af
 |.nilCheck x=>match ck J x with
  |.e (.bX (.ptr l off))=>O (cE l off,[])
  |.e (.bX (.c (.rp cs)))=>O (b7 (.rp cs),[])
  |_=>af
 |.build t parts=>match FF T (ck J) t parts.toList with
  |some cs=>O (.e (.agg cs),[])
  |none=>af
 |.buildSlice t n parts=>match WR T (ck J) t n parts.toList with
  |some (k,es)=>O (b7 (.sl W k n λi=>es.getD i []),[])
  |none=>af
 |.makeFunc fn a b=>match Bd (ck J) a.toList with
  |some ca=>match Bd (ck J) b.toList with
   |some cb=>O (b7 (.fn fn ca cb),[])
   |none=>af
  |none=>af
 |.makeInterface t x=>match bY T t with
  |some i=>match tA i.desc with
   |false=>match Aj t (ck J x)with
    |some c=>O (b7 c,[])
    |none=>af
   |true=>af
  |none=>af
 |.typeAssert x _ t W=>match bY T t with
  |some i=>match tA i.desc with
   |false=>match ck J x with
    |.e (.bX (.c c))=>match uz t i c with
     |some (e,b)=>O (.gI [e,.bX (.c (.bool b))],[])
     |none=>af
    |_=>af
   |true=>af
  |none=>af
 |_=>af
def R5(T:List (Nat×TI))(J:Fr)(U:List bq)(t:av)(x:aG):Option D :=
 match bY T t with
 |some i=>match ck J x with
  |.e (.bX (.ptr l off))=>match eH l U with
   |some (.cells _ cs)=>match nW i (iK off cs)with
    |some e=>O (.e e)
    |none=>af
   |_=>af
  |.e (.bX (.c (.rp cs)))=>match nW i (cs.map A.c)with
   |some e=>O (.e e)
   |none=>af
  |_=>af
 |none=>af
def opB(T:List (Nat×TI))(J:Fr)(o:aJ):Option (D×List Prop) :=
 match o.op with
 |.indexAddr t x y=>match bY T t with
  |some i=>match i.desc with
   |.slice E=>match bY T E with
    |some ie=>match ck J x,ck J y with
     |.e (.bX (.bp l (.sl g k q m))),.e (.bX (.c (.int _ j)))=>match aC k ie.size with
      |true=>O (mE l (.el g ie.size (q+j.toNat) 0),[0<=j,j<m])
      |false=>af
     |.e (.bX (.c (.val (.slice (O ⟨b,off,af⟩) n _)))),.e (.bX (.c (.int _ j)))=>O (b7 (.val (.pointer (O ⟨b,off+j.toNat*ie.size,af⟩))),[0<=j,j<n])
     |_,_=>af
    |none=>af
   |_=>af
  |none=>af
 |.fieldAddr t x f=>match l9 T t f with
  |some (k,_)=>match ck J x with
   |.e (.bX (.bp l (.el g a i q)))=>O (mE l (.el g a i (q+k)),[])
   |.e (.bX (.c (.val (.pointer (O ⟨b,off,af⟩)))))=>O (b7 (.val (.pointer (O ⟨b,off+k,af⟩))),[])
   |_=>af
  |none=>af
 |.nilCheck x=>match ck J x with
  |.e (.bX (.bp l (.el g a i q)))=>O (mE l (.el g a i q),[])
  |_=>af
 |.slice t x lo hi af=>match bY T t with
  |none=>af
  |some i=>match vF (ck J) lo with
   |none=>af
   |some lw=>match vF (ck J) hi with
    |none=>af
    |some u=>match i.desc with
     |.slice E=>match bY T E with
      |none=>af
      |some ie=>match ck J x with
       |.e (.bX (.bp l (.sl g k q m)))=>match aC k ie.size with
        |true=>O (mE l (.sl g ie.size (q+dD 0 lw) (dD m u-dD 0 lw)),lK m lw u)
        |false=>af
       |_=>af
     |_=>af
 |.slice t x af (O y) (O z)=>match bY T t with
  |none=>af
  |some i=>match i.desc with
   |.slice E=>match bY T E with
    |none=>af
    |some _=>match HM (ck J x),ck J y,ck J z with
     |some (_,k,n,es),.e (.bX (.c (.int _ j))),.e (.bX (.c (.int _ m)))=>O (b7 (.sl ae k j.toNat es),[0<=j,j<=m,m<=n])
     |_,_,_=>af
   |_=>af
 |.slice t x (O w) (O y) (O z)=>match bY T t with
  |none=>af
  |some i=>match i.desc with
   |.slice E=>match bY T E with
    |none=>af
    |some _=>match ck J x,ck J w,ck J y,ck J z with
     |.e (.bX (.bp _ (.sl _ _ _ n))),.e (.bX (.c (.int _ i))),.e (.bX (.c (.int _ j))),.e (.bX (.c (.int _ m)))=>O (.e (.bX .any),[0<=i,i<=j,j<=m,m<=n])
     |_,_,_,_=>af
   |_=>af
 |.call c=>match c.callee with
  |.builtin .len=>match c.args.toList,c.argTypes[0]? with
   |[x],O t=>match bY T t with
    |some i=>match i.desc with
     |.slice _=>match ck J x with
      |.e (.bX (.bp _ (.sl _ _ _ m)))=>O (b7 (.int .i64 m),[])
      |.e (.bX (.c (.val (.slice _ n _))))=>O (b7 (.int .i64 n),[n<=9223372036854775807])
      |_=>af
     |_=>af
    |none=>af
   |_,_=>af
  |_=>af
 |_=>af
def Fz(T:List (Nat×TI))(J:Fr)(U:List bq)(t:av)(x:aG):Option (D×List Prop) :=
 match bY T t with
 |some it=>match ck J x with
  |.e (.bX (.bp l (.el g k i f)))=>match eH l U with
   |some (.eX _ k' n es)=>match aC k' k with
    |true=>match nW it ((iK f (es i)).map A.c)with
     |some e=>O (.e e,[g=n,i<n])
     |none=>af
    |false=>af
   |_=>af
  |_=>af
 |none=>af
def abi:Nat->List C->Nat->Bool
 |0,cc,k=>aC (V cc) k
 |_+1,_,_=>ae
def FG(T:List (Nat×TI))(J:Fr)(U:List bq)(t:av)(x y:aG):Option (D×List bq×List Prop) :=
 match bY T t with
 |some it=>match ck J x with
  |.e (.bX (.bp l (.el g k i f)))=>match eH l U with
   |some (.eX E k' n es)=>match aC k' k with
    |true=>match nU (ck J y)with
     |some new=>match aC (V new) it.size with
      |true=>match jB new with
       |some cc=>match abi f cc k with
        |true=>eT (ft.uV l (.eX E k' n (qZ i cc es)) U) λU'=>O (.any,U',[g=n,i<n])
        |false=>match ic f cc (es i)with
         |some ci=>eT (ft.uV l (.eX E k' n (qZ i ci es)) U) λU'=>O (.any,U',[g=n,i<n])
         |none=>af
       |none=>af
      |false=>af
     |none=>af
    |false=>af
   |_=>af
  |_=>af
 |none=>af
def WM(T:List (Nat×TI))(CT:List (Nat×eP))(J:Fr)(U:List bq)(o:aJ):Option (D×List Prop) :=
 match o.op with
 |.load t x=>match R5 T J U t x with
  |some d=>O (d,[])
  |none=>Fz T J U t x
 |_=>match opN T CT J o with
  |some r=>O r
  |none=>opB T J o
def WT(T:List (Nat×TI))(t a:av):Option (av×TI) :=
 match bY T t with
 |none=>af
 |some i=>match bY T a with
  |none=>af
  |some i2=>match i.desc with
   |.slice E=>match i2.desc with
    |.slice E2=>match aC E2 E with
     |false=>af
     |true=>match bY T E with
      |none=>af
      |some ie=>match bP 1 ie.bytes,bP 1 ie.size with
       |true,W=>O (E,ie)
       |_,_=>af
    |_=>af
   |_=>af
def Sd(T:List (Nat×TI))(η:aG->D)(y:aG)(t a:av):Option (av×TI×Nat×(Nat->List C)) :=
 match WT T t a with
 |none=>af
 |some (E,ie)=>match HM (η y)with
  |none=>af
  |some (_,k',m,es')=>match aC k' ie.size with
   |false=>af
   |true=>O (E,ie,m,es')
def abj(T:List (Nat×TI))(η:aG->D)(U:List bq)(x y:aG)(t a:av):Option (D×List bq×List Prop) :=
 match Sd T η y t a with
 |none=>af
 |some (E,ie,m,es')=>match η x with
  |.e (.bX (.c (.sl W k n es)))=>match aC k ie.size with
   |true=>eT (U++[.dk E ie.size (n+m) (dv n es es')]) λU'=>O (.e (.bX (.dk (V U) ie.size (n+m) (dv n es es'))),U',[(n+m)*ie.bytes<=140737488355328,n=0∨0<m])
   |false=>match aC n 0 with
    |true=>eT (U++[.dk E ie.size (n+m) (dv n es es')]) λU'=>O (.e (.bX (.dk (V U) ie.size (n+m) (dv n es es'))),U',[(n+m)*ie.bytes<=140737488355328,n=0∨0<m])
    |false=>af
  |.e (.bX (.dk l k n es))=>match eH l U with
   |some (.dk E' k2 n2 Kq)=>match aC E' E,aC k ie.size,aC k2 ie.size with
    |true,W,W=>eT (ft.uV l (.dk E ie.size (n+m) (dv n es es')) U) λU'=>O (.e (.bX (.dk l ie.size (n+m) (dv n es es'))),U',[n2=n,Kq=es,(n+m)*ie.bytes<=140737488355328])
    |_,_,_=>af
   |_=>af
  |.e (.bX (.bp l (.sl g k 0 n)))=>match eH l U with
   |some (.eX E' k2 n2 Kq)=>match aC E' E,aC k ie.size,aC k2 ie.size with
    |true,W,W=>eT (ft.uV l (.eX E ie.size (n2+m) (dv n2 Kq es')) U) λU'=>O (mE l (.sl (n2+m) ie.size 0 (n2+m)),U',[g=n2,n=n2,(n2+m)*ie.bytes<=140737488355328])
    |_,_,_=>af
   |_=>af
  |_=>af
def opF(T:List (Nat×TI))(CT:List (Nat×eP))(J:Fr)(U:List bq)(o:aJ):Option (D×List bq×List Prop) :=
 match o.op with
 |.alloc _|.box _ _=>opE T J U o
 |.store t x y=>match opE T J U o with
  |some r=>O r
  |none=>FG T J U t x y
 |.call c=>match c.callee with
  |.builtin .append=>match c.args.toList,c.argTypes.toList with
   |[x,y],[t,a]=>abj T (ck J) U x y t a
   |_,_=>af
  |.value fo=>Se CT J U fo c.args.toList
  |_=>af
 |_=>af
def abk(T:List (Nat×TI))(η:aG->D)(x y:aG)(t a:av):Option (D×List Prop) :=
 match Sd T η y t a with
 |none=>af
 |some (_,ie,m,es')=>match η x with
  |.e (.bX (.c (.sl W k n es)))=>match aC n 0 with
   |true=>O (b7 (.sl ae ie.size (n+m) (dv n es es')),[(n+m)*ie.bytes<=140737488355328,n=0∨0<m])
   |false=>af
  |_=>af
def opC(T:List (Nat×TI))(J:Fr)(o:aJ):Option (D×List Prop) :=
 match o.op with
 |.call c=>match c.callee with
  |.builtin .append=>match c.args.toList,c.argTypes.toList with
   |[x,y],[t,a]=>abk T (ck J) x y t a
   |_,_=>af
  |_=>af
 |_=>af
def HO:List (Nat×Bool)->Nat->Option Bool
 |[],_=>af
 |(i,b)::r,t=>match aC i t with|true=>O b|false=>HO r t
def isC(ds:List (Nat×Bool)):Option Nat->Bool
 |none=>ae
 |some t=>match HO ds (2000000+t)with
  |some W=>W
  |_=>ae
def isW(ds:List (Nat×Bool)):Option Nat->Bool
 |none=>ae
 |some t=>match HO ds (3000000+t)with
  |some W=>W
  |_=>ae
def abl(E:av)(ie:TI)(η:aG->D)(U:List bq)(x y:aG):Option (D×List bq×List Prop) :=
 match η x,η y with
 |.e (.bX (.bp l (.sl g k 0 i))),.e (.bX (.bp l' (.sl g' k' j m)))=>match aC l' l with
  |false=>af
  |true=>match eH l U with
   |some (.eX E' k2 n es)=>match aC E' E,aC k ie.size,aC k' ie.size,aC k2 ie.size with
    |true,W,W,W=>eT (ft.uV l (.eX E ie.size n (Hq i j m es)) U) λU'=>O (mE l (.sl n ie.size 0 (i+m)),U',[g=n,g'=n,i+m<=n,j+m<=n])
    |_,_,_,_=>af
   |_=>af
 |_,_=>af
def Sf(w:Bool)(T:List (Nat×TI))(η:aG->D)(U:List bq)(x y:aG)(t a:av):Option (D×List bq×List Prop) :=
 match w with
 |true=>match Sd T η y t a with
  |none=>af
  |some (E,ie,m,es')=>match η x with
   |.e (.bX (.c (.sl W _ n es)))=>match aC n 0 with
    |true=>eT (U++[.eX E ie.size (0+m) (dv 0 es es')]) λU'=>O (mE (V U) (.sl (0+m) ie.size 0 (0+m)),U',[(0+m)*ie.bytes<=140737488355328])
    |false=>af
   |_=>af
 |false=>match WT T t a with
  |none=>af
  |some (E,ie)=>abl E ie η U x y
def opW(w:Bool)(T:List (Nat×TI))(J:Fr)(U:List bq)(o:aJ):Option (D×List bq×List Prop) :=
 match o.op with
 |.call c=>match c.callee with
  |.builtin .append=>match c.args.toList,c.argTypes.toList with
   |[x,y],[t,a]=>Sf w T (ck J) U x y t a
   |_,_=>af
  |_=>af
 |_=>af
def opG(ds:List (Nat×Bool))(T:List (Nat×TI))(CT:List (Nat×eP))(J:Fr)(U:List bq)(o:aJ):Option (D×List bq×List Prop) :=
 match isW ds o.dst with
 |true=>opW W T J U o
 |false=>match opF T CT J U o with
  |some r=>O r
  |none=>opW ae T J U o
def Sa(ds:List (Nat×Bool))(d:Option Nat)(x:D)(obs:List Prop):Option (D×List Prop) :=
 match d with
 |none=>O (x,obs)
 |some t=>match HO ds t with
  |none=>O (x,obs)
  |some b=>match x with
   |.e (.bX (.c (.bool e)))=>O (b7 (.bool b),mH obs [e=b])
   |_=>af
def WU{d:Option Nat}{x y:D}{a:List Prop}(h:Sa ds d x obs=O (y,a))(ho:aA a):y=x/\aA obs:=by
 unfold Sa at h;split at h
 .grind
 split at h
 .grind
 split at h
 .cases h;simp_all
 grind
def A5(T:List (Nat×TI))(CT:List (Nat×eP))(ds:List (Nat×Bool))(all:List aJ)(J:Fr)(U:List bq)(o:aJ):Option (D×Option (List bq)×List Prop) :=
 let go:Option (D×Option (List bq)×List Prop):=match WM T CT J U o with
  |some (x,obs)=>match Sa ds o.dst x obs with
   |some (y,a)=>rZ y λy=>O (y,af,a)
   |none=>af
  |none=>match isC ds o.dst with
   |true=>match opC T J o with
    |some (x,obs)=>rZ x λx=>O (x,af,obs)
    |none=>af
   |false=>match opG ds T CT J U o with
    |some (x,U',obs)=>rZ x λx=>O (x,O U',obs)
    |none=>af
 match o.guard with
 |none=>go
 |some (j,b)=>match FH J all j with
  |some (O b')=>match b,b' with
   |true,W=>go
   |false,ae=>go
   |_,_=>O (.gI [],af,[])
  |some af=>O (.gI [],af,[])
  |none=>af
section
variable {X:Cx P}{T:List (Nat×TI)}{CT:List (Nat×eP)}
def M7(hT:dA P T){a:av}{ie:TI}(ho:o.op=.call {callee:=.builtin .append,args:=#[x,y],argTypes:=#[t,a]})(h:WT T t a=O (E,ie)):oc P o x y E ie:=by
 unfold WT at h;split at h
 .cases h
 rename_i i hi;split at h
 .cases h
 rename_i i2 hi2;split at h
 case h_2=>cases h
 rename_i E f;split at h
 case h_2=>cases h
 rename_i E2 hE2;split at h
 .cases h
 rename_i b;have d:=dH b;subst d;split at h
 .cases h
 rename_i ie hie;split at h
 case h_2=>cases h
 rename_i c e;cases h;exact⟨⟨t,a,i,i2,ho,hT t i hi,f,hT a i2 hi2,hE2⟩,hT _ _ hie,by exact KE,by exact KE⟩
def FI(hT:dA P T){b:av}{ie:TI}{m:Nat}{es':Nat->List C}(ho:o.op=.call {callee:=.builtin .append,args:=#[x,y],argTypes:=#[t,b]})(h:Sd T η y t b=O (E,ie,m,es')):
  oc P o x y E ie/\∃tx,∀U s v,ey U s v (η y)->Rd s.M v (.sl tx ie.size m es'):=by
 unfold Sd at h;split at h
 .cases h
 rename_i d;split at h
 .cases h
 rename_i tx k' m es' hy;split at h
 .cases h
 rename_i a;have c:=dH a;subst c;cases h;exact⟨M7 hT ho d,tx,λU s v=>uy hy U s v⟩
theorem WV(hT:dA P T)(g:∀U s a,c7 N U s J a->bn o (yielded all.toArray a.tmps)=W){f:av}{d:D}(ho:o.op=.call {callee:=.builtin .append,args:=#[x,y],argTypes:=#[t,f]})(h:abk T (ck J) x y t f=O (d,obs))(b:aA obs):OA X N all o J U d U:=by
 unfold abk at h;split at h
 .cases h
 rename_i E2 ie m es' hY;obtain⟨e,tx,c⟩:=FI hT ho hY;have c:=λs v=>c U s v;split at h
 .rename_i k n es hx;split at h
  .rename_i i;cases h;exact(OA.nB g (bU.tj e hx (.inr (dH i)) c b.1 b.2)).HI
  grind
 grind
theorem WW(hT:dA P T){B:av}{d:D}(ho:o.op=.call {callee:=.builtin .append,args:=#[x,y],argTypes:=#[t,B]})(h:abj T η U x y t B=O (d,U',obs))(a:aA obs):bU P o η U d U':=by
 unfold abj at h;split at h
 .cases h
 rename_i E2 ie m es' hY;obtain⟨b,tx,c⟩:=FI hT ho hY;have c:=λs v=>c U s v;split at h
 .rename_i k n es hx;split at h
  .rename_i hk;rw[en]at h;cases h;exact bU.tj b hx (.inl (dH hk)) c a.1 a.2
  split at h
  .rename_i F;rw[en]at h;cases h;exact bU.tj b hx (.inr (dH F)) c a.1 a.2
  grind
 .rename_i l k n es hx;split at h
  .rename_i E C e Kq hl;split at h
   .rename_i u i f;rw[en,lE]at h;cases h;obtain⟨w,q,z⟩:e=n/\Kq=es/\_:=a;subst w;subst q;have r:=dH u;subst r;have j:=dH i;have A:=dH f;subst A;subst j;exact bU.Oo b hx (cD hl) c z
   grind
  grind
 .rename_i l g k n hx;split at h
  .rename_i E C e Kq hl;split at h
   .rename_i u i f;rw[en,lE]at h;cases h;obtain⟨w,q,z⟩:g=e/\n=e/\_:=a;subst w;subst q;have r:=dH u;subst r;have j:=dH i;have A:=dH f;subst A;subst j;exact bU.WX b hx (cD hl) c z
   grind
  grind
 grind
theorem WY(hT:dA P T){d:D}(ho:o.op=.call {callee:=.builtin .len,args:=#[x],argTypes:=lh})(b:lh[0]?=O t)(h:abg T t (η x)=O d):bU P o η U d U:=by
 unfold abg at h;split at h
 .cases h
 rename_i i hi;split at h
 .rename_i E a;split at h
  .rename_i tt k n es hs;cases h;exact bU.aeE hT ho b hi a (λs v=>uy hs U s v)
  grind
 .grind [bU.abm]
 grind
theorem Sg(hT:dA P T){b c:av}{d:D}(ho:o.op=.convert b c x)(h:Sc T b c (η x)=O (d,obs))(a:aA obs):bU P o η U d U:=by
 unfold Sc at h;split at h
 .cases h
 rename_i i hi;split at h
 .cases h
 rename_i i2 hi2;split at h
 .rename_i k' hd;split at h
  .rename_i k j m;cases h;exact bU.WZ hT ho hi hi2 hd m a
  grind
 .rename_i hd;split at h
  .grind [bU.W0]
  split at h
  .rename_i E g;split at h
   .rename_i ie hE;split at h
    .rename_i f;split at h
     .rename_i tt k n es hs;split at h
      .rename_i hk;have e:=dH hk;subst e;split at h
       .rename_i r l;cases h;exact bU.Oz hT ho hi hi2 g hd hE f (λs v=>uy hs U s v) l
       grind
      grind
     grind
    grind
   grind
  grind
 grind
theorem OB(hT:dA P T){lo hi:Option aG}{d:D}(ho:o.op=.slice t x lo hi af)(h:KJ T η t x lo hi=O (d,obs))(a:aA obs):bU P o η U d U:=by
 unfold KJ at h;split at h
 .cases h
 rename_i i b;split at h
 .cases h
 rename_i l c;split at h
 .cases h
 rename_i u e;split at h
 .grind [bU.Si]
 .grind [Nat.eq_of_beq_eq_true,bU.W1,uy]
 grind
theorem Be{xs:Array α}{x:α}(h:xs.toList=[x]):xs=#[x]:=Array.ext' h
theorem Bf{xs:Array α}{x y:α}(h:xs.toList=[x,y]):xs=#[x,y]:=Array.ext' h
theorem abn(hT:dA P T)(L:b5 X CT){d:D}(h:opN T CT J o=O (d,obs))(g:aA obs)(u:∀U s a,c7 N U s J a->bn o (yielded all.toArray a.tmps)=W):OA X N all o J U d U:=by
 unfold opN at h;split at h
 .grind [OA.nB,bU.move]
 .grind [OA.nB,bU.assign]
 .rename_i t x y ho;split at h
  .rename_i i hi;split at h
   .rename_i A;split at h
    .rename_i l k j r w;cases h;obtain⟨K,G⟩:0<=j/\j<(V l:Int):=g;have:=bU.Sj (U:=U) (m:=j.toNat) hT ho hi A r w aq aq;have e:lM l j=l[j.toNat]'aq:=by simp[lM,aj,bD (by omega:j.toNat<V l)]
     grind[OA.nB]
    grind
   grind
  grind
 .rename_i t x y ho;split at h
  .rename_i i hi;split at h
   .rename_i E A;split at h
    .rename_i ie hE;split at h
     .rename_i tt k n es k2 j r w;split at h
      .rename_i hk;cases h;obtain⟨K,G⟩:0<=j/\j<(n:Int):=g;have e:=dH hk;subst e;exact OA.nB u (bU.indexAddr (m:=j.toNat) hT ho hi A hE (λs v=>uy r U s v) w aq aq)
      grind
     grind
    grind
   grind
  grind
 .grind [OA.nB,OB]
 .grind [OA.nB,Sg]
 .rename_i c ho;obtain⟨H,args,lh⟩:=c;grind[Be,OA.nB,WY,OA.HN]
 .rename_i c a b q;split at h
  .rename_i B;cases h;exact OA.nB u (bU.pick q B)
  .rename_i B;cases h;exact OA.nB u (bU.pick q B)
  grind
 .rename_i op t y z ty q;unfold ZP at h;split at h
  .grind [OA.nB,bU.abo]
  .rename_i a b _ F C;split at h
   .split at h
    .rename_i _ _ a' b' _ _;cases h;exact OA.nB u (bU.aeF q F C g.1 g.2)
    .grind [w5,OA.nB,bU.bits]
    grind
   .grind [w5,OA.nB,bU.bits]
   .grind [w5,OA.nB,bU.bits]
   .grind [w5,OA.nB,bU.bits]
   grind[OA.nB,bU.binOp]
  .rename_i cs es F C;split at h
   .grind [OA.nB,bU.Sk]
   grind
  grind
 .grind [OA.nB,bU.unOp]
 .grind [OA.nB,bU.extract,cD]
 .rename_i t y f q;split at h
  .rename_i k j AK;split at h
   .rename_i l off r;cases h;exact OA.nB u (bU.w6 hT q r AK)
   .grind [OA.nB,bU.y3]
   grind
  grind
 .grind [OA.nB,bU.field]
 .grind [OA.nB,bU.y4,bU.Bg]
 .grind [OA.nB,bU.build]
 .grind [OA.nB,bU.buildSlice]
 .grind [OA.nB,bU.makeFunc]
 .grind [OA.nB,bU.makeInterface]
 .grind [OA.nB,bU.typeAssert]
 grind
theorem abp(hT:dA P T){d:D}(h:opB T J o=O (d,obs))(e:aA obs):bU P o (ck J) U d U:=by
 unfold opB at h;split at h
 .rename_i t x y ho;split at h
  .rename_i i hi;split at h
   .rename_i E A;split at h
    .rename_i ie hE;split at h
     .rename_i l g k q m kk j r F;split at h
      .rename_i hk;cases h;obtain⟨C,B⟩:0<=j/\j<(m:Int):=e;grind[Nat.eq_of_beq_eq_true,bU.aii]
      grind
     .rename_i b off n cap kk j r F;cases h;obtain⟨C,B⟩:0<=j/\j<(n:Int):=e;grind[bU.HP]
     grind
    grind
   grind
  grind
 .rename_i t x f ho;split at h
  .rename_i k j H;split at h
   .rename_i l g N i q r;cases h;exact bU.abq hT ho r H
   .rename_i b off r;cases h;exact bU.abr hT ho r H
   grind
  grind
 .grind [bU.aij]
 .rename_i t x lo hi ho;split at h
  .cases h
  rename_i i u;split at h
  .cases h
  rename_i S R;split at h
  .cases h
  grind[Nat.eq_of_beq_eq_true,bU.sliceB]
 .rename_i t x y z ho;split at h
  .cases h
  rename_i i u;split at h
  .rename_i E A;split at h
   .cases h
   rename_i ie hE;split at h
   .rename_i tt k n es kj j K m r F AK;cases h;obtain⟨C,B,G⟩:0<=j/\j<=m/\m<=(n:Int):=e;exact bU.abt hT ho u A hE (λs v=>uy r U s v) F AK C B G
   grind
  grind
 .rename_i t x w y z ho;split at h
  .cases h
  rename_i i u;split at h
  .rename_i E A;split at h
   .cases h
   rename_i ie hE;split at h
   .rename_i l g k q n Q i kj j K m r ak F AK;cases h;obtain⟨C,B,G,aa⟩:0<=i/\i<=j/\j<=m/\m<=(n:Int):=e;grind[bU.slice3B]
   grind
  grind
 .rename_i c ho;obtain⟨M,args,lh⟩:=c;simp only at h;split at h
  .split at h
   .rename_i x t r L;split at h
    .rename_i i hi;split at h
     .rename_i E A;split at h
      .grind [Be,bU.aik]
      .rename_i a n cap hxx;cases h;have:=Be r;subst this;exact bU.ail hT ho L hi A hxx e
      grind
     grind
    grind
   grind
  grind
 grind
theorem OC(hT:dA P T)(ho:o.op=.load t x){d:D}(h:Fz T J U t x=O (d,obs))(a:aA obs):bU P o (ck J) U d U:=by
 unfold Fz at h;split at h
 .rename_i j hi;split at h
  .rename_i l g k i f b;split at h
   .rename_i E k' n es hB;split at h
    .rename_i hk;have e:=dH hk;subst e;split at h
     .rename_i e c;cases h;exact bU.aeG hT ho b a.1 (cD hB) hi c a.2
     grind
    grind
   grind
  grind
 grind
theorem KL(hT:dA P T)(ho:o.op=.store t x y){d:D}(h:FG T J U t x y=O (d,U',obs))(a:aA obs):bU P o (ck J) U d U':=by
 unfold FG at h;split at h
 .rename_i r hi;split at h
  .rename_i l g k i f c;split at h
   .rename_i E k' n es hB;split at h
    .rename_i hk;have e:=dH hk;subst e;split at h
     .rename_i new hy;split at h
      .rename_i j;split at h
       .rename_i cc ZD;split at h
        .rename_i m;rw[en,lE]at h;cases h;have b:f=0/\V cc=k':=by
          cases f with
          |zero=>exact⟨rfl,dH m⟩
          |succ f=>exact j3
         obtain⟨rfl,b⟩:=b;exact bU.Sl hT ho c a.1 (cD hB) hi hy (dH j) ZD (λq=>w7 az) a.2
        split at h
        .rename_i ci hci;rw[en,lE]at h;cases h;exact bU.Sl hT ho c a.1 (cD hB) hi hy (dH j) ZD (λ_=>hci) a.2
        grind
       grind
      grind
     grind
    grind
   grind
  grind
 grind
theorem abu(hT:dA P T)(i:b5 X CT){d:D}(h:WM T CT J U o=O (d,obs))(c:aA obs)(g:∀U s a,c7 N U s J a->bn o (yielded all.toArray a.tmps)=W):OA X N all o J U d U:=by
 unfold WM at h;split at h
 .rename_i t y f;split at h
  .rename_i e b;cases h;unfold R5 at b;split at b
   .grind [OA.nB,bU.M8,cD,bU.Sm]
   grind
  grind[OA.nB,OC]
 grind[abn,OA.nB,abp]
theorem abv(hT:dA P T)(f:b5 X CT){d:D}(h:opF T CT J U o=O (d,U',obs))(b:aA obs)(g:∀U s a,c7 N U s J a->bn o (yielded all.toArray a.tmps)=W):OA X N all o J U d U':=by
 unfold opF at h;split at h
 .grind [OA.nB,KM]
 .grind [OA.nB,KM]
 .grind [OA.nB,KM,KL]
 .rename_i c ho;obtain⟨e,args,lh⟩:=c;grind[Bf,OA.nB,WW,OA.call]
 grind
def W2{ie:TI}{d:D}(b:oc P o x y E ie)(h:abl E ie η U x y=O (d,U',obs))(a:aA obs):bU P o η U d U':=by
 unfold abl at h;split at h
 .rename_i l g k i l' g' k' j m t r;split at h
  .cases h
  rename_i c;have el:=dH c;subst el;split at h
  .rename_i C B n es hl;split at h
   .rename_i s q2 q3 q4;have w:=dH s;have q:=dH q2;have u:=dH q3;have e:=dH q4;rw[en]at h;cases h;obtain⟨v,f,z,A⟩:=a;subst v f w q u e;have:=bU.RD (U:=U) b t r (cD hl) z A;grind[lE]
   grind
  grind
 grind
theorem W3(hT:dA P T){w:Bool}{e:av}{d:D}(ho:o.op=.call {callee:=.builtin .append,args:=#[x,y],argTypes:=#[t,e]})(h:Sf w T η U x y t e=O (d,U',obs))(a:aA obs):bU P o η U d U':=by
 unfold Sf at h;split at h
 .split at h
  .cases h
  rename_i E2 ie m es' hY;obtain⟨b,tx,c⟩:=FI hT ho hY;split at h
  .rename_i k n es hx;split at h
   .rename_i i;have f:=dH i;subst f;rw[en]at h;cases h;exact bU.Ol b hx (λs v=>c _ s v) a
   grind
  grind
 split at h
 .cases h
 rename_i g;exact W2 (M7 hT ho g) h a
theorem abw(hT:dA P T)(f:b5 X CT){d:D}(h:opG ds T CT J U o=O (d,U',obs))(b:aA obs)(g:∀U s a,c7 N U s J a->bn o (yielded all.toArray a.tmps)=W):OA X N all o J U d U':=by
 have key:∀w,opW w T J U o=O (d,U',obs)->OA X N all o J U d U':=by
  intro w h;unfold opW at h;split at h
  .rename_i c ho;obtain⟨e,args,lh⟩:=c;grind[Bf,OA.nB,W3]
  grind
 unfold opG at h;grind[abv]
def gK(hT:dA P T)(A:b5 X CT){d:D}{U':Option (List bq)}(h:A5 T CT ds all J U o=O (d,U',obs))(g:aA obs):OA X N all o J U d (U'.getD U):=by
 have go:(∀U s a,c7 N U s J a->bn o (yielded all.toArray a.tmps)=W)->(match WM T CT J U o with
  |some (x,obs)=>match Sa ds o.dst x obs with
   |some (y,k)=>rZ y λy=>O (y,af,k)
   |none=>af
  |none=>match isC ds o.dst with
   |true=>match opC T J o with
    |some (x,obs)=>rZ x λx=>O (x,af,obs)
    |none=>af
   |false=>match opG ds T CT J U o with
    |some (x,U',obs)=>rZ x λx=>O (x,O U',obs)
    |none=>af)=O (d,U',obs)->OA X N all o J U d (U'.getD U):=by
  intro z h;split at h
  .rename_i x l w;split at h
   .rename_i y n t;rw[qW]at h;cases h;obtain⟨rfl,v⟩:=WU t g;grind[abu]
   grind
  split at h
  .split at h
   .rename_i x l q;rw[qW]at h;cases h;unfold opC at q;split at q
    .rename_i c ho;obtain⟨r,args,lh⟩:=c;grind[Bf,WV]
    grind
   grind
  grind[qW,abw]
 unfold A5 at h;simp only at h;split at h
 .grind [eE]
 rename_i j b i;split at h
 .rename_i m e;have u:∀U s a,c7 N U s J a->bn o (yielded all.toArray a.tmps)=(O m==O b):=λU s a f=>by simp only[bn,i,uA e f]
  split at h
  .grind
  .grind
  cases h;refine OA.aeH (λU s a f=>(u U s a f).trans ?_);cases b<;>cases m<;>simp_all
 .rename_i e;cases h;exact OA.aeH (λU s a f=>by simp only[bn,i,uA e f];rfl)
 grind
end
variable {CT:List (Nat×eP)}{K:List It}{Qf:Post}{T:List (Nat×TI)}{ie:TI}
def Qu(J:Fr)(o:aJ):Bool:=match o.op with
 |.load _ x=>match ck J x with
  |.e (.bX (.c (.rp _)))=>ae
  |_=>W
 |_=>ae
def R4{σ2:List bq}(h:Qu J o=ae):WM T CT J U o=WM T CT J σ2 o:=by
 unfold WM;split
 .rename_i t x ho;simp only[Qu,ho]at h;split at h
  .rename_i cs hx;simp only[R5,Fz,hx]
  grind
 simp
def R6{d:D}(h:Qu J o=ae)(a:A5 T CT ds all J U o=O (d,af,obs))(σ2:List bq):
  A5 T CT ds all J σ2 o=O (d,af,obs):=by
 unfold A5 at a⊢;simp only at a⊢;rw[R4 (σ2:=U) h];cases b:WM T CT J U o with
 |some r=>grind
 |none =>
  simp only[b]at a⊢;cases c:isC ds o.dst with
  |true=>grind
  |false =>
   simp only[c]at a⊢;have key:∀{y:Option (D×Option (List bq)×List Prop)},(match opG ds T CT J U o with|some (x,U',obs)=>rZ x λx=>O (x,O U',obs)|none=>af)=y->y≠O (d,af,obs):=by grind[qW]
   split at a
   .grind
   grind
def tw(t:Nat):List aJ->Bool
 |[]=>ae
 |o::r=>match o.dst with
  |some d=>match aC d t with|true=>W|false=>tw t r
  |none=>tw t r
theorem wW{t:Nat}:∀{l:List aJ}{i:Nat}{o:aJ},l[i]?=O o->o.dst=O t->tw t l=W
 |[],_,_,h,_=>by grind
 |p::r,0,o,h,a=>by simp at h;subst h;simp[tw,a,AB]
 |p::r,i+1,o,h,a=>by have:=wW (l:=r) Kl a;simp only[tw];grind
theorem uw{t:Nat}:∀{l:List aJ},tw t l=W->∃(i:Nat)(o:aJ),l[i]?=O o/\o.dst=O t
 |[],h=>by cases h
 |p::r,h=>by
  simp only[tw]at h;split at h
  .rename_i d c;split at h
   .rename_i e;exact⟨0,p,Z,by grind[Nat.eq_of_beq_eq_true]⟩
   obtain⟨i,o,b,a⟩:=uw h;exact⟨i+1,o,by grind,a⟩
  obtain⟨i,o,b,a⟩:=uw h;exact⟨i+1,o,by grind,a⟩
def pV:List aJ->Bool
 |[]=>W
 |o::r=>match o.dst with
  |some d=>match tw d r with|true=>ae|false=>pV r
  |none=>pV r
theorem x7{t:Nat}:∀{l:List aJ}{i j:Nat}{o p:aJ},pV l=W->l[i]?=O o->l[j]?=O p->o.dst=O t->p.dst=O t->i=j
 |[],_,_,_,_,_,h,_,_,_=>by grind
 |q::r,0,0,_,_,_,_,_,_,_=>rfl
 |q::r,0,j+1,o,p,ho,b,a,d1,d2=>by simp at b;subst b;simp only[pV,d1]at ho;grind[wW]
 |q::r,i+1,0,o,p,ho,b,a,d1,d2=>by simp at a;subst a;simp only[pV,d2]at ho;grind[wW]
 |q::r,i+1,j+1,o,p,ho,b,a,d1,d2=>by
  have:pV r=W:=by simp only[pV]at ho;grind
  have d:r[i]?=O o:=az;have c:r[j]?=O p:=az;have e:=x7 this d c d1 d2;omega
def zz(all:List aJ):Fr->Fr
 |[]=>[]
 |(t,d)::r=>match tw t all with|true=>zz all r|false=>(t,d)::zz all r
def oF{all:List aJ}{t:Nat}:∀{J:Fr},look (zz all J) t=if tw t all=W then .any else look J t
 |[]=>by simp[zz,look]
 |(u,d)::r=>by
  simp only[zz];by_cases b:aC u t=W
  .have e:=dH b;subst e;cases c:tw u all with
   |true=>simp only;rw[oF];grind
   |false=>simp[look]
  have a:aC u t=ae:=az;cases c:tw u all with
  |true=>simp only;rw[oF];simp[look,a]
  |false=>simp only[look,a,cond];rw[oF]
def cG:List Edge->List Nat
 |[]=>[]
 |e::r=>match e.ground with
  |.textOnly _=>cG r
  |.gcOnly _=>cG r
  |_=>e.on::cG r
theorem gJ{j:Nat}:∀{l:List Edge},j∈cG l↔∃e∈l,eG e=W/\e.on=j
 |[]=>by simp[cG]
 |e::r=>by
  have c:=gJ (j:=j) (l:=r);have yes:cG (e::r)=e.on::cG r->eG e=W->(j∈cG (e::r)↔∃a∈e::r,eG a=W/\a.on=j):=az;have no:cG (e::r)=cG r->eG e=ae->(j∈cG (e::r)↔∃a∈e::r,eG a=W/\a.on=j):=az;cases b:e.ground with
  |textOnly w=>exact no Q5 Ri
  |gcOnly w=>exact no Q5 Ri
  |_=>exact yes Q5 (by unfold eG Region.binds;rw[b])
def A6(i t:Nat):List aJ->Bool
 |[]=>ae
 |o::r=>match o.dst with
  |some d=>match aC d t with
   |true=>match kz i (cG o.after.toList)with
    |true=>A6 i t r
    |false=>W
   |false=>A6 i t r
  |none=>A6 i t r
def A7{i t:Nat}:∀{l:List aJ},A6 i t l=ae->∀(j:Nat)(o:aJ),l[j]?=O o->o.dst=O t->kz i (cG o.after.toList)=W
 |[],_,j,o,h,_=>by grind
 |p::r,h,0,o,b,a=>by simp at b;subst b;simp only[A6,a,AB]at h;grind
 |p::r,h,j+1,o,b,a=>by
  have:A6 i t r=ae:=by simp only[A6]at h;grind
  exact A7 this j o az a
def tz(all:List aJ):Fr->List (Nat×D×Bool)
 |[]=>[]
 |(t,d)::r=>match tw t all with
  |true=>(t,d,W)::tz all r
  |false=>(t,d,ae)::tz all r
def nA(i:Nat)(all:List aJ):List (Nat×D×Bool)->Fr
 |[]=>[]
 |(t,d,b)::r=>match b with
  |false=>(t,d)::nA i all r
  |true=>match A6 i t all with
   |true=>nA i all r
   |false=>(t,d)::nA i all r
def DR{i:Nat}{all:List aJ}{t:Nat}:∀{J:Fr},look (nA i all (tz all J)) t=if tw t all=W/\A6 i t all=W then .any else look J t
 |[]=>by simp[tz,nA,look]
 |(u,d)::r=>by
  have e:=DR (i:=i) (all:=all) (t:=t) (J:=r);have keep:look ((u,d)::nA i all (tz all r)) t=if aC u t=W then d else look (nA i all (tz all r)) t:=Zy;have b:look ((u,d)::r) t=if aC u t=W then d else look r t:=Zy;cases a:tw u all with
  |false =>
   simp only[tz,a,nA];grind[Nat.eq_of_beq_eq_true]
  |true =>
   cases c:A6 i u all with
   |true =>
    simp only[tz,a,nA,c];grind[Nat.eq_of_beq_eq_true]
   |false =>
    simp only[tz,a,nA,c];grind[Nat.eq_of_beq_eq_true]
def lL(m:Nat->Bool):Nat->List (Option Nat×D)->Fr->Fr
 |_,[],J=>J
 |i,(d,x)::r,J=>match m i with
  |true=>match d with
   |some t=>(t,x)::lL m (i+1) r J
   |none=>lL m (i+1) r J
  |false=>lL m (i+1) r J
def qX{m:Nat->Bool}{J:Fr}{t:Nat}:∀{l:List (Option Nat×D)}{i:Nat},(∃j x,l[j]?=O (O t,x)/\m (i+j)=W/\look (lL m i l J) t=x)∨look (lL m i l J) t=look J t
 |[],i=>.inr rfl
 |(d,x)::r,i=>by
  have k:=qX (m:=m) (J:=J) (t:=t) (l:=r) (i:=i+1);have step:look (lL m i ((d,x)::r) J) t=look (lL m (i+1) r J) t->((∃j a,((d,x)::r)[j]?=O (O t,a)/\m (i+j)=W/\look (lL m i ((d,x)::r) J) t=a)∨look (lL m i ((d,x)::r) J) t=look J t):=by
   intro e;rw[e];rcases k with⟨j,a,o,n,f⟩|h
   .exact .inl ⟨j+1,a,by grind,by grind,f⟩
   grind
  cases b:m i with
  |false=>exact step (by simp[lL,b])
  |true =>
   cases d with
   |none=>exact step (by simp[lL,b])
   |some u =>
    by_cases g:aC u t=W
    .have e:=dH g;subst e;exact .inl ⟨0,x,Z,by grind,by simp[lL,b,look]⟩
    have c:aC u t=ae:=az;exact step (by simp[lL,b,look,c])
structure Ka where
 i:Nat
 pre:List (Option Nat×D)
 U:List bq
 x8:List (List Bool)
 FB:List Bool
 WN:List Bool
 obs:List Prop
def ltX(i:Nat):List Nat->Bool
 |[]=>W
 |k::r=>match Nat.blt k i with|true=>ltX i r|false=>ae
def KF{i:Nat}:∀{l:List Nat},ltX i l=W->∀k∈l,k<i
 |[],_,k,h=>by grind
 |x::r,h,k,hk=>by
  simp only[ltX]at h;cases a:Nat.blt x i with
  |false=>grind
  |true =>
   simp only[a]at h;rcases eQ.1 hk with rfl|hk
   .simp_all
   exact KF h k hk
def xQ:List Bool->Nat->Bool
 |[],_=>ae
 |b::_,0=>b
 |_::r,n+1=>xQ r n
def HJ:List Bool->List Bool->List Bool
 |[],b=>b
 |true::a,[]=>W::a
 |false::a,[]=>ae::a
 |true::a,_::b=>W::HJ a b
 |false::a,W::b=>W::HJ a b
 |false::a,ae::b=>ae::HJ a b
def pX:∀{a b:List Bool}{j:Nat},xQ (HJ a b) j=(xQ a j||xQ b j)
 |[],b,j=>by exact j3
 |true::a,[],j=>by simp[HJ,xQ]
 |false::a,[],j=>by simp[HJ,xQ]
 |true::a,c::b,0=>by exact j3
 |true::a,c::b,j+1=>by simp only[HJ,xQ];exact pX
 |false::a,W::b,0=>by exact j3
 |false::a,W::b,j+1=>by simp only[HJ,xQ];exact pX
 |false::a,ae::b,0=>by exact j3
 |false::a,ae::b,j+1=>by simp only[HJ,xQ];exact pX
def A8:Nat->List Bool
 |0=>[W]
 |n+1=>ae::A8 n
theorem wX:∀{n j:Nat},xQ (A8 n) j=decide (n=j)
 |0,0=>rfl
 |0,j+1=>by exact j3
 |n+1,0=>by exact j3
 |n+1,j+1=>by simp only[A8,xQ,wX];simp
def Ox(a:List (List Bool)):List Nat->List Bool
 |[]=>[]
 |e::r=>match eH e a with
  |some c=>HJ (HJ c (A8 e)) (Ox a r)
  |none=>HJ (A8 e) (Ox a r)
theorem FC{b:List (List Bool)}{j:Nat}:∀{l:List Nat},xQ (Ox b l) j=W->∃e∈l,e=j∨∃c,b[e]?=O c/\xQ c j=W
 |[],h=>by exact j3
 |e::r,h=>by
  simp only[Ox,g8]at h;have RY:∀{a:Nat},xQ (A8 e) a=W->e=a:=by grind[wX]
  have rest:xQ (Ox b r) j=W->∃d∈e::r,d=j∨∃c,b[d]?=O c/\xQ c j=W:=by intro h;obtain⟨d,i,f⟩:=FC h;grind
  split at h
  .rename_i c g;rw[pX,pX,kC,kC]at h;grind
  rw[pX,kC]at h;grind
def FD:List Bool->List Bool->Bool
 |[],_=>W
 |true::a,W::b=>FD a b
 |true::_,_=>ae
 |false::a,_::b=>FD a b
 |false::a,[]=>FD a []
theorem ux:∀{a b:List Bool}{j:Nat},FD a b=W->xQ a j=W->xQ b j=W
 |[],b,j,_,d=>by exact j3
 |true::a,W::b,0,_,_=>rfl
 |true::a,W::b,j+1,h,d=>by simp only[xQ]at d⊢;exact ux j3 d
 |true::a,ae::b,j,h,_=>by exact j3
 |true::a,[],j,h,_=>by exact j3
 |false::a,c::b,0,_,d=>by exact j3
 |false::a,c::b,j+1,h,d=>by simp only[xQ]at d⊢;exact ux j3 d
 |false::a,[],0,_,d=>by exact j3
 |false::a,[],j+1,h,d=>by simp only[xQ]at d;have:=ux (j:=j) (by simpa[FD]using h) d;exact j3
def wY(T:List (Nat×TI))(CT:List (Nat×eP))(N:Nat)(ds:List (Nat×Bool))(all:List aJ)(Jm:List (Nat×D×Bool))(st:Ka)(o:aJ):Option Ka :=
 match g7 N o.dst with
 |false=>af
 |true =>
  eT (cG o.after.toList) λes =>
  match ltX st.i es with
  |false=>af
  |true=>match A5 T CT ds all (lL (λj=>kz j es) 0 st.pre (nA st.i all Jm)) st.U o with
   |none=>af
   |some (x,U',obs) =>
    eT (Ox st.x8 es) λcl =>
    match U',Qu (lL (λj=>kz j es) 0 st.pre (nA st.i all Jm)) o with
    |none,ae=>eT (st.pre++[(o.dst,x)]) λpre=>eT (st.x8++[cl]) λx8=>eT (mH obs st.obs) λobs=>O ⟨st.i+1,pre,st.U,x8,st.FB,st.WN,obs⟩
    |none,W=>match FD st.FB cl with
     |true=>eT (st.pre++[(o.dst,x)]) λpre=>eT (st.x8++[cl]) λx8=>eT (mH obs st.obs) λobs=>eT (HJ st.WN (A8 st.i)) λa=>O ⟨st.i+1,pre,st.U,x8,st.FB,a,obs⟩
     |false=>af
    |some U',_=>match FD st.WN cl with
     |true=>eT (st.pre++[(o.dst,x)]) λpre=>eT (st.x8++[cl]) λx8=>eT (mH obs st.obs) λobs=>eT (HJ st.WN (A8 st.i)) λa=>eT (HJ st.FB (A8 st.i)) λb=>O ⟨st.i+1,pre,U',x8,b,a,obs⟩
     |false=>af
def WO(T:List (Nat×TI))(CT:List (Nat×eP))(N:Nat)(ds:List (Nat×Bool))(all:List aJ)(Jm:List (Nat×D×Bool)):List aJ->Ka->Option Ka
 |[],st=>O st
 |o::r,st=>match wY T CT N ds all Jm st o with
  |some uX=>WO T CT N ds all Jm r uX
  |none=>af
def M3(T:List (Nat×TI))(CT:List (Nat×eP))(N:Nat)(ds:List (Nat×Bool))(all:List aJ)(J:Fr)(U:List bq):Option (Fr×List bq×List Prop) :=
 match pV all with
 |false=>af
 |true=>eT (tz all J) λJm=>match WO T CT N ds all Jm all ⟨0,[],U,[],[],[],[]⟩with
  |some st=>eT (lL (λ_=>W) 0 st.pre (zz all J)) λJ'=>O (J',st.U,st.obs)
  |none=>af
def lV:aJ:=⟨af,.move (.tmp 0),0,"",#[],af⟩
section
variable (T:List (Nat×TI))(CT:List (Nat×eP))(N:Nat)(ds:List (Nat×Bool))(all:List aJ)(Jm:List (Nat×D×Bool))
def HK(st:Ka):Nat->Ka
 |0=>st
 |i+1=>(wY T CT N ds all Jm (HK st i) (all.getD i lV)).getD (HK st i)
def ZL(st:Ka)(i:Nat):Fr:=lL (λj=>kz j (cG (all.getD i lV).after.toList)) 0 (HK T CT N ds all Jm st i).pre (nA (HK T CT N ds all Jm st i).i all Jm)
def M4(st:Ka)(i:Nat):Option (D×Option (List bq)×List Prop):=A5 T CT ds all (ZL T CT N ds all Jm st i) (HK T CT N ds all Jm st i).U (all.getD i lV)
def xD(st:Ka)(i:Nat):D:=match M4 T CT N ds all Jm st i with|some (x,_,_)=>x|none=>.any
def sT(st:Ka)(i:Nat):Bool:=match M4 T CT N ds all Jm st i with|some (_,O _,_)=>W|_=>ae
def y0(st:Ka)(i:Nat):Bool:=!Qu (ZL T CT N ds all Jm st i) (all.getD i lV)&&!sT T CT N ds all Jm st i
def ZM(st:Ka)(i:Nat):List Bool:=Ox (HK T CT N ds all Jm st i).x8 (cG (all.getD i lV).after.toList)
end
section
variable {T:List (Nat×TI)}{CT:List (Nat×eP)}{N:Nat}{ds:List (Nat×Bool)}{all:List aJ}{Jm:List (Nat×D×Bool)}
structure R7(T:List (Nat×TI))(CT:List (Nat×eP))(N:Nat)(ds:List (Nat×Bool))(all:List aJ)(Jm:List (Nat×D×Bool))(st uX:Ka)(o:aJ)(x:D)(U':Option (List bq))(obs:List Prop):Prop where
 dst:g7 N o.dst=W
 lt:ltX st.i (cG o.after.toList)=W
 op:A5 T CT ds all (lL (λj=>kz j (cG o.after.toList)) 0 st.pre (nA st.i all Jm)) st.U o=O (x,U',obs)
 i:uX.i=st.i+1
 pre:uX.pre=st.pre++[(o.dst,x)]
 x8:uX.x8=st.x8++[Ox st.x8 (cG o.after.toList)]
 U:uX.U=U'.getD st.U
 obs:uX.obs=mH obs st.obs
 eff:uX.FB=if U'.isSome=W then HJ st.FB (A8 st.i)else st.FB
 nf:uX.WN=if(Qu (lL (λj=>kz j (cG o.after.toList)) 0 st.pre (nA st.i all Jm)) o||U'.isSome)=W then HJ st.WN (A8 st.i)else st.WN
 load:Qu (lL (λj=>kz j (cG o.after.toList)) 0 st.pre (nA st.i all Jm)) o=W->U'.isSome=ae->FD st.FB (Ox st.x8 (cG o.after.toList))=W
 kO:U'.isSome=W->FD st.WN (Ox st.x8 (cG o.after.toList))=W
def HL{st uX:Ka}(h:wY T CT N ds all Jm st o=O uX):∃x U' obs,R7 T CT N ds all Jm st uX o x U' obs:=by
 unfold wY at h;split at h
 .cases h
 rename_i b;simp only[en]at h;split at h
 .cases h
 rename_i a;split at h
 .cases h
 rename_i x U' obs k6;refine⟨x,U',obs,?_⟩;cases U' with
 |none =>
  cases d:Qu (lL (λj=>kz j (cG o.after.toList)) 0 st.pre (nA st.i all Jm)) o with
  |false =>
   simp only[d,en]at h;cases h;exact⟨b,a,k6,Z,Z,Z,Z,Z,by simp,by grind,by grind,by simp⟩
  |true =>
   simp only[d,en]at h;split at h
   .rename_i c;cases h;exact⟨b,a,k6,Z,Z,Z,Z,Z,by simp,by grind,λ_ _=>c,by simp⟩
   grind
 |some U' =>
  simp only[en]at h;split at h
  .rename_i c;cases h;exact⟨b,a,k6,Z,Z,Z,Z,Z,by simp,by simp,by simp,λ_=>c⟩
  grind
def M5{st sf:Ka}:∀{rest:List aJ}{k:Nat},(∀i,rest[i]?=all[k+i]?)->WO T CT N ds all Jm rest (HK T CT N ds all Jm st k)=O sf ->
  (∀i o,rest[i]?=O o->wY T CT N ds all Jm (HK T CT N ds all Jm st (k+i)) o=O (HK T CT N ds all Jm st (k+i+1)))/\HK T CT N ds all Jm st (k+V rest)=sf
 |[],k,_,h=>by cases h;grind
 |p::r,k,c,h=>by
  simp only[WO]at h;have d:all[k]?=O p:=by have:=c 0;grind
  split at h
  .rename_i b a;have e:HK T CT N ds all Jm st (k+1)=b:=by simp only[HK,aj,d,iY,a]
   rw[<-e]at h;obtain⟨g,f⟩:=M5 (rest:=r) (k:=k+1) (λi=>by have:=c (i+1);grind) h;grind
  grind
theorem R8:∀{l:List Nat},kz j l=W->j∈l:=by
 intro l;induction l with
 |nil=>intro h;cases h
 |cons a r b =>
  intro h;simp only[kz]at h;grind[Nat.eq_of_beq_eq_true]
def R9{X:Cx P}(hf:P.follows Departure.mixedOrders=W)(hT:dA P T)(hC:b5 X CT){J':Fr}(h:M3 T CT N ds ops.toList J U=O (J',U',obs))(anE:aA obs){Q:Post}(hQ:Q .normal J' U')(id:Nat):
  AW X N (.region id ops W) Q J U:=by
 unfold M3 at h;split at h
 .cases h
 rename_i aex;rw[en]at h;split at h
 case h_2=>cases h
 rename_i sf A9;rw[en]at h;cases h;generalize abe:ops.toList=all at *;generalize hφm:tz all J=Jm at *;have aa:∀i:Nat,ops[i]?=all[i]?:=λi=>by grind
 have Wb:ops.size=V all:=az;let g:Ka:=⟨0,[],U,[],[],[],[]⟩
 obtain⟨E,AK⟩:=M5 (T:=T) (CT:=CT) (N:=N) (ds:=ds) (Jm:=Jm) (st:=g) (rest:=all) (k:=0) (λi=>by simp) A9;simp only[b8]at E AK;let F:=HK T CT N ds all Jm g;have q:∀i o,all[i]?=O o->all.getD i lV=o:=λi o h=>by grind
 have efr:∀i o,all[i]?=O o->ZL T CT N ds all Jm g i=(lL (λj=>kz j (cG (o).after.toList)) 0 (F i).pre (nA (F i).i all Jm)):=λi o h=>by unfold ZL;grind
 have l8:∀i o,all[i]?=O o->∃C,R7 T CT N ds all Jm (F i) (F (i+1)) o (xD T CT N ds all Jm g i) (if sT T CT N ds all Jm g i=W then O (F (i+1)).U else af) C:=by
  intro i o ho;obtain⟨x,σ1,C,n⟩:=HL (E i o ho);have u:=n.op;have hR:M4 T CT N ds all Jm g i=O (x,σ1,C):=by unfold M4 ZL;grind
  have hx:xD T CT N ds all Jm g i=x:=by unfold xD;rw[hR]
  cases σ1 with
  |none =>
   have A:sT T CT N ds all Jm g i=ae:=by unfold sT;rw[hR]
   grind
  |some σ2 =>
   have A:sT T CT N ds all Jm g i=W:=by unfold sT;rw[hR]
   have hσ2:(F (i+1)).U=σ2:=n.U;grind
 have K:∀i,i<=V all->(F i).i=i:=by
  intro i;induction i with
  |zero=>intro _;rfl
  |succ i B =>
   intro hi;obtain⟨_,n⟩:=l8 i _ (bD aq);rw[n.i,B aq]
 have aey:∀i,i<=V all->∀j,(F i).pre[j]?=if j<i then(all[j]?).map (λo=>(o.dst,xD T CT N ds all Jm g j))else af:=by
  intro i;induction i with
  |zero=>intro _ j;exact j3
  |succ i B =>
   intro hi j;obtain⟨_,n⟩:=l8 i _ (bD aq);have hlen:(F i).pre.length=i:=by
    apply Nat.le_antisymm
    .grind
    grind
   rw[n.pre];grind
 have ah5:∀i,i<=V all->∀j,(F i).x8[j]?=if j<i then O (ZM T CT N ds all Jm g j)else af:=by
  intro i;induction i with
  |zero=>intro _ j;exact j3
  |succ i B =>
   intro hi j;obtain⟨_,n⟩:=l8 i _ (bD aq);have hlen:(F i).x8.length=i:=by
    apply Nat.le_antisymm
    .apply Nat.le_of_not_lt;intro r;have:=B aq i;grind
    grind
   rw[n.x8];by_cases hji:j<i
   .grind
   rw[iy aq];by_cases e:j=i
   .subst e;rw[bh aq,hlen,Nat.sub_self];simp only[lH,ZM,q j _ (bD (by omega:j<V all))];rfl
   grind
 have anH:∀i,i<=V all->∀j,xQ (F i).FB j=(decide (j<i)&&sT T CT N ds all Jm g j):=by
  intro i;induction i with
  |zero=>intro _ j;exact j3
  |succ i B =>
   intro hi j;obtain⟨_,n⟩:=l8 i _ (bD aq);rw[n.eff];cases A:sT T CT N ds all Jm g i with
   |false =>
    grind
   |true =>
    simp only[cv,Option.isSome_some];rw[pX,B aq j,wX,K i aq];by_cases e:j=i
    .grind
    grind
 have nfI:∀i,i<=V all->∀j,xQ (F i).WN j=(decide (j<i)&&!y0 T CT N ds all Jm g j):=by
  intro i;induction i with
  |zero=>intro _ j;exact j3
  |succ i B =>
   intro hi j;obtain⟨_,n⟩:=l8 i _ (bD aq);have aez:(if sT T CT N ds all Jm g i=W then O (F (i+1)).U else af).isSome=sT T CT N ds all Jm g i:=by cases sT T CT N ds all Jm g i<;>rfl
   have J9:y0 T CT N ds all Jm g i=!(Qu (lL (λj=>kz j (cG (all[i]'aq).after.toList)) 0 (F i).pre (nA (F i).i all Jm)) (all[i]'aq)||sT T CT N ds all Jm g i):=by unfold y0;rw[efr i _ (bD aq),q i _ (bD aq)];simp
   rw[n.nf,aez];cases A:(Qu (lL (λj=>kz j (cG (all[i]'aq).after.toList)) 0 (F i).pre (nA (F i).i all Jm)) (all[i]'aq)||sT T CT N ds all Jm g i)with
   |false =>
    grind
   |true =>
    simp only[cv];rw[pX,B aq j,wX,K i aq];by_cases e:j=i
    .grind
    grind
 have aeA:∀i,i<=V all->aA (F i).obs:=by
  have back:∀k i,i+k=V all->aA (F i).obs:=by
   intro k;induction k with
   |zero =>
    grind
   |succ k B =>
    intro i hi;obtain⟨_,n⟩:=l8 i _ (bD aq);have:=B (i+1) aq;rw[n.obs,aA.eu]at this;exact this.2
  intro i hi;exact back (V all-i) i aq
 have oaI:∀i o,all[i]?=O o->OA X N all o (ZL T CT N ds all Jm g i) (F i).U (xD T CT N ds all Jm g i) (F (i+1)).U:=by intro i o ho;have hi:i<V all:=(cO.1 ho).1;obtain⟨_,n⟩:=l8 i o ho;have We:=aeA (i+1) aq;rw[n.obs,aA.eu]at We;have:=gK (P:=P) (N:=N) hT hC n.op We.1;rw[n.U];grind
 let idx:Nat->Option Nat:=λt=>(bl (V all)).find? (λi=>decide ((all.getD i lV).dst=O t));have M:∀t j,idx t=O j->∃o,all[j]?=O o/\o.dst=O t:=az;have R:∀i o d,all[i]?=O o->o.dst=O d->idx d=O i:=by
  intro i o d ho hd;have hi:i<V all:=(cO.1 ho).1;cases hx:idx d with
  |none =>
   grind
  |some j =>
   grind[x7]
 have ak:∀t,tw t all=W↔∃j,idx t=O j:=by grind[uw,wW]
 have Z:∀i o,all[i]?=O o->∀e∈o.after,eG e=W->e.on<i:=by intro i o ho e A S;have hi:i<V all:=(cO.1 ho).1;obtain⟨_,n⟩:=l8 i o ho;have:=KF n.lt e.on (gJ.2 ⟨e,by grind,S,rfl⟩);grind
 have alB:=Z;have hd:A3 X N ops J (λi=>(F i).U) (xD T CT N ds all Jm g) (ZL T CT N ds all Jm g) (y0 T CT N ds all Jm g) (λi=>decide (i<V all)&&sT T CT N ds all Jm g i) (λi j=>i<V all/\xQ (ZM T CT N ds all Jm g i) j=W) idx (lL (λ_=>W) 0 sf.pre (zz all J)):=by
  refine⟨hf,az,?_,?_,?_,?_,?_,?_,?_,?_,?_⟩
  .intro i o d ho hd;rw[aa]at ho;obtain⟨_,n⟩:=l8 i o ho;exact⟨R i o d ho hd,iB n.dst d hd⟩
  .grind
  .intro i A;rcases dy i (V all) with hi|hi
   .obtain⟨_,n⟩:=l8 i _ (bD hi);have:sT T CT N ds all Jm g i=ae:=az;have hσ:=n.U;grind
   have h0:all.getD i lV=lV:=az;show(F (i+1)).U=(F i).U;have:wY T CT N ds all Jm (F i) lV=af∨∃s',wY T CT N ds all Jm (F i) lV=O s':=by
    cases wY T CT N ds all Jm (F i) lV with
    |none=>grind
    |some s'=>grind
   show((wY T CT N ds all Jm (F i) (all.getD i lV)).getD (F i)).U=(F i).U;rw[h0];rcases this with h|⟨s',h⟩
   .grind
   rw[h];obtain⟨x,σ1,ob,n⟩:=HL h;have u:=n.op;have:σ1=af:=by unfold A5 at u;simp only[lV,WM,opN,Sa,qW]at u;grind
   rw[iY,n.U,this];rfl
  .grind
  .intro i o ho M6;rw[aa]at ho;have hi:i<V all:=(cO.1 ho).1;have p:Qu (lL (λj=>kz j (cG (o).after.toList)) 0 (F i).pre (nA (F i).i all Jm)) o=ae/\sT T CT N ds all Jm g i=ae:=by unfold y0 at M6;grind
   refine⟨by grind,λk=>?_⟩;obtain⟨ob,n⟩:=l8 i o ho;have u:=n.op;rw[p.2]at u;have ah7:=R6 p.1 (by simpa using u) (F k).U;have We:=aeA (i+1) aq;rw[n.obs,aA.eu]at We;have:=gK (P:=P) (N:=N) hT hC ah7 We.1;grind
  .intro L hL i j ⟨hi,S⟩;have im:∀i,i<V all->L i->∀e,e∈cG (all.getD i lV).after.toList->L e:=by intro i hi hLi e A;rw[q i _ (bD hi)]at A;obtain⟨e',Y,h2,rfl⟩:=gJ.1 A;grind
   have key:∀i,i<V all->∀j,xQ (ZM T CT N ds all Jm g i) j=W->(∀e∈cG (all.getD i lV).after.toList,L e)->L j:=by
    intro i;induction i using Nat.strongRecOn with
    |_ i B =>
     intro hi j S hLe;obtain⟨e,A,h⟩:=FC S;have r:e<i:=by have he':=A;rw[q i _ (bD hi)]at he';obtain⟨e',Y,h2,rfl⟩:=gJ.1 he';grind
     rcases h with rfl|⟨c,hc,ZE⟩
     .grind
     have:=ah5 i aq e;rw[bh r]at this;have hc':(F i).x8[e]?=O c:=hc;rw[hc']at this;cases this;exact B e r aq j ZE (im e aq (hLe e A))
   refine⟨λhLi=>key i hi j S (im i hi hLi),all[i],by grind,λWL=>key i hi j S ?_⟩;grind[List.getElem?_eq_getElem,gJ]
  .intro i f hi hf1 A Hg hnf;rw[Wb]at hi hf1;have he':sT T CT N ds all Jm g f=W:=az;rcases dy f i with r|hge
   .refine .inl ⟨r,hi,?_⟩;obtain⟨_,n⟩:=l8 i _ (bD hi);have Kt:ZM T CT N ds all Jm g i=Ox (F i).x8 (cG (all[i]).after.toList):=by unfold ZM;grind
    rw[Kt];cases hei:sT T CT N ds all Jm g i with
    |true =>
     have Y:=n.kO az;refine ux Y ?_;rw[nfI i aq f];have:y0 T CT N ds all Jm g f=ae:=by unfold y0;grind
     grind
    |false =>
     have hld:Qu (lL (λj=>kz j (cG (all[i]).after.toList)) 0 (F i).pre (nA (F i).i all Jm)) all[i]=W:=by unfold y0 at hnf;rw[efr i _ (bD hi),q i _ (bD hi),hei]at hnf;grind
     have Y:=n.load hld az;grind[ux]
   have r:i<f:=aq;refine .inr ⟨r,hf1,?_⟩;obtain⟨_,n⟩:=l8 f _ (bD hf1);have Kt:ZM T CT N ds all Jm g f=Ox (F f).x8 (cG (all[f]).after.toList):=by unfold ZM;grind
   rw[Kt];have Y:=n.kO az;grind[ux]
  .intro i o ho t U s v ab;rw[aa]at ho;have hi:i<V all:=(cO.1 ho).1;unfold ZL;rw[q i o ho];rcases qX (m:=λj=>kz j (cG o.after.toList)) (J:=nA (F i).i all Jm) (t:=t) (l:=(F i).pre) (i:=0)with⟨j,x,Y,h2,h3⟩|h3
   .have h3':look (lL (λj=>kz j (cG o.after.toList)) 0 (HK T CT N ds all Jm g i).pre (nA (HK T CT N ds all Jm g i).i all Jm)) t=x:=h3;rw[h3'];have hp:=aey i aq j;rw[Y]at hp;have hji:j<i:=az;rw[bh hji,bD (by omega:j<V all)]at hp;simp only[oQ,eF,l0]at hp;obtain⟨hp1,hp2⟩:=hp;have z:=R j _ t (bD (by omega:j<V all)) hp1.symm;rw[z]at ab;simp only at ab;rw[bh]at ab
    .grind
    have aia:j∈cG o.after.toList:=by simp only[b8]at h2;exact R8 h2
    obtain⟨e,a,b,c⟩:=gJ.1 aia;grind
   have h3':look (lL (λj=>kz j (cG o.after.toList)) 0 (HK T CT N ds all Jm g i).pre (nA (HK T CT N ds all Jm g i).i all Jm)) t=look (nA (F i).i all Jm) t:=h3;rw[h3',K i aq,<-hφm,DR];split
   .trivial
   rename_i hno;cases z:idx t with
   |some j =>
    have hD:=(ak t).2 ⟨j,z⟩;have hN:A6 i t all=ae:=az;obtain⟨oj,hoj,hdj⟩:=M t j z;have hm:=R8 (A7 hN j oj hoj hdj);obtain⟨e,A,S,heq⟩:=gJ.1 hm;rw[z]at ab;simp only at ab;split at ab
    ·
     rename_i hex;obtain⟨e2,he2,hb2,anL⟩:=hex;grind
    rw[bh ⟨oj,by grind,e,by grind,S,heq⟩]at ab;exact ab
   |none=>grind
  intro t U s v ab;have hF:F (V all)=sf:=AK;rcases qX (m:=λ_=>W) (J:=zz all J) (t:=t) (l:=sf.pre) (i:=0)with⟨j,x,Y,_,h3⟩|h3
  .rw[h3];have hp:=aey (V all) (bm _) j;rw[hF,Y]at hp;have hji:j<V all:=az;grind
  rw[h3,oF];split
  .trivial
  grind
 intro s a J9 hh b kk cs SS S hQQ;have hFn:F ops.size=sf:=az;refine .next aK λy H=>?_;have H:=X.kq H;have G:=hh.rely H;have aid:=J9.rely H hh;have st1:eO U y U {y with w:={y.w with drawn:=y.w.drawn+1}}:=eO.same rfl rfl rfl rfl;have J7:aH U {y with w:={y.w with drawn:=y.w.drawn+1}}:=G.same rfl;have stW:=H.db.trans (st1.pC G);refine⟨_,{y with w:={y.w with drawn:=y.w.drawn+1}},#[],oU,⟨⟨U,U,G,J7,st1⟩,.nil⟩,?_⟩;simp only[Region.schedule,hf,Bool.true_or,cv];refine hd.arr S (s0:={y with w:={y.w with drawn:=y.w.drawn+1}}) (λs2 a2 f2 h2 pA=>?_) ops.size _ ay ?_ ?_ 0 _ a aq ?_ ?_ J7 (.refl _ _) _
 .simp only[hFn]at f2 h2 pA;exact hQQ .normal _ _ s2 a2 hQ f2 h2 (stW.trans pA)
 .simp
 .intro i o ho hi;simp[gi,qm]at hi;split at hi<;>simp at hi
 .intro f hf1 hf2;simp[gi,qm];split<;>simp
 have p:=aid.mono (st1.pC G) G.len;refine⟨p.size,p.defers,λt=>?_⟩;unfold jm;cases z:idx t with
 |none=>exact p.ff t
 |some j =>
  simp only;rw[bc]
  .exact p.ff t
  simp[gi,qm];split<;>simp
end
section
variable {X:Cx P}
theorem I.ai3(b:P.follows Departure.mixedOrders=W)(hT:dA P T)(hC:b5 X CT){J':Fr}{id:Nat}(h:M3 T CT N ds ops.toList J U=O (J',U',obs))(a:aA obs)(k:I X N Qf K .normal J' U'):I X N Qf (.code (.region id ops W)::K) .normal J U :=
 R9 b hT hC h a k id
end
def A1(T:List (Nat×TI))(CT:List (Nat×eP))(ds:List (Nat×Bool))(N:Nat)(K:List It)(J:Fr)(U:List bq):Option (List It×Fr×List bq×List Prop) :=
 match K with
 |[]=>af
 |.blk _::K=>O (K,J,U,[])
 |.ops _ []::K=>O (K,J,U,[])
 |.ops all (o::rest)::K=>match g7 N o.dst with
  |true=>match A5 T CT ds all J U o with
   |some (x,af,obs)=>eT (lU o.dst x J) λJ=>O (.ops all rest::K,J,U,obs)
   |some (x,O U',obs)=>eT (lU o.dst x J) λJ=>O (.ops all rest::K,J,U',obs)
   |none=>af
  |false=>af
 |.code c::K=>match c with
  |.skip=>O (K,J,U,[])
  |.seq x y=>O (.code x::.code y::K,J,U,[])
  |.block id c=>O (.code c::.blk id::K,J,U,[])
  |.region id ops d=>match HO ds (id+1000000)with
   |some _=>af
   |none=>match d with
    |false=>O (.ops ops.toList ops.toList::K,J,U,[])
    |true=>match M3 T CT N ds ops.toList J U with
     |some (J',U',obs)=>O (K,J',U',obs)
     |none=>af
  |.exit id=>match me id K with
   |some K'=>O (K',J,U,[])
   |none=>af
  |.cond (.tmp t) x y=>match look J t with
   |.e (.bX (.c (.bool W)))=>O (.code x::K,J,U,[])
   |.e (.bX (.c (.bool ae)))=>O (.code y::K,J,U,[])
   |_=>af
  |_=>af
theorem Tc{X:Cx P}(i:P.follows Departure.mixedOrders=W)(hT:dA P T)(f:b5 X CT){g:List It}{J':Fr}(h:A1 T CT ds N K J U=O (g,J',U',obs))(ho:aA obs)(k:I X N Qf g .normal J' U'):I X N Qf K .normal J U:=by
 unfold A1 at h;split at h
 .cases h
 .grind [I.ab1]
 .grind [I.Tb]
 .rename_i all o rest K0;cases e:g7 N o.dst with
  |false=>grind
  |true =>
   simp only[e]at h;have d:=iB e;split at h
   .rename_i x a b;rw[en]at h;cases h;exact kA.FU (gK hT f b ho) d k
   .rename_i x σ1 a b;rw[en]at h;cases h;exact kA.FU (gK hT f b ho) d k
   grind
 rename_i c K0;split at h
 .grind [I.skip]
 .grind [I.seq]
 .grind [I.block]
 .grind [I.region,I.ai3]
 .grind [I.exit]
 .grind [I.cond]
 grind
def gZ(T:List (Nat×TI))(CT:List (Nat×eP))(ds:List (Nat×Bool))(N:Nat):Nat->List It->Fr->List bq->List Prop->Option (List It×Fr×List bq×List Prop)
 |0,K,J,U,obs=>eT obs λobs=>O (K,J,U,obs)
 |n+1,K,J,U,obs=>match A1 T CT ds N K J U with
  |some (a,J',U',o)=>gZ T CT ds N n a J' U' (mH o obs)
  |none=>eT obs λobs=>O (K,J,U,obs)
def Nu{P:aR}{X:Cx P}(b:P.follows Departure.mixedOrders=W){T:List (Nat×TI)}(hT:dA P T){CT:List (Nat×eP)}(d:b5 X CT){ds:List (Nat×Bool)}{N:Nat}{Qf:Post}:∀{n:Nat}{K a:List It}{J J':Fr}{U U':List bq}{obs Xs:List Prop},
  gZ T CT ds N n K J U obs=O (a,J',U',Xs)->aA Xs->I X N Qf a .normal J' U'->I X N Qf K .normal J U/\aA obs
 |0,K,a,J,J',U,U',obs,Xs,h,ho,k=>by simp only[gZ,en]at h;grind
 |n+1,K,a,J,J',U,U',obs,Xs,h,ho,k=>by
  simp only[gZ]at h;cases c:A1 T CT ds N K J U with
  |none =>
   grind[en]
  |some r =>
   obtain⟨j,f,σ1,g⟩:=r;simp only[c]at h;obtain⟨i,e⟩:=Nu b hT d h ho k;grind[aA.eu,Tc]
def I.gZ{X:Cx P}(c:P.follows Departure.mixedOrders=W)(hT:dA P T)(hC:b5 X CT)(ds:List (Nat×Bool))(n:Nat){b:List It}{J':Fr}{a:List Prop}(h:AM.gZ T CT ds N n K J U []=O (b,J',U',a))(ho:aA a)(k:I X N Qf b .normal J' U'):I X N Qf K .normal J U:=(Nu c hT hC h ho k).1
section
variable {X:Cx P}
def Fu(rs:List ResultVar)(ks:List Nat)(J:Fr)(res:D):Option (List Prop) :=
 match C8 J rs with
 |some ds=>match wS ds with
  |some d=>match C7 (V ks) res with
   |true=>J8 d (ky ks res)
   |false=>af
  |none=>af
 |none=>af
def I.dt{fn:Func}{a:Nat}{res:D}(ks:List Nat)(h:Fu fn.results.toList ks J res=O ps)(c:aA ps)(d:l6 ks U=O U')(b:mI U'=W)(e:fa ks=W)(hk:∀j,j<a->ks[j]?=O j):
  I X N (cM fn a res U') (.code .ret::K) .normal J U:=by refine I.ret ⟨.inl Z,ks,?_⟩;unfold Fu at h;grind
def I.bE{fn:Func}{res:D}(h:Fu fn.results.toList [] J res=O ps)(a:aA ps:=by simp):I X N (cM fn 0 res []) (.code .ret::K) .normal J U :=
 I.dt [] h a Z Z Z (λj h=>by omega)
def cM.zero{fn:Func}{res:D}(h:Fu fn.results.toList [] J res=O ps)(c:aA ps:=by simp):cM fn 0 res [] .ret J U:=by
 refine⟨.inl Z,[],?_⟩;unfold Fu at h;split at h
 .rename_i ds hds;split at h
  .rename_i d b;split at h
   .rename_i a;exact⟨ds,d,ps,hds,b,h,c,a,Z,Z,Z,λj h=>by omega⟩
   grind
  grind
 grind
def I.gE{id:Nat}{A:Fr->List bq->Prop}{Qr:Post}{f g:List It}(h1:me id K=af)(h2:me id f=O g)(k:I X N Qr g .normal J U):
  I X N (λe J' U'=>match e with
   |.normal=>A J' U'
   |e=>I X N Qr f e J' U') (.code (.exit id)::K) .normal J U:=by
 have key:∀{K:List It},me id K=af->∀{Q:Post},Q (.exit id) J U->I X N Q K (.exit id) J U:=by
  intro K;induction K with
  |nil=>intro _ Q h;exact h
  |cons i r l =>
   intro hk Q h;cases i with
   |code c=>exact l (by simpa[me]using hk) h
   |ops a b=>exact l (by simpa[me]using hk) h
   |blk j =>
    simp only[me]at hk;cases hb:aC id j with
    |true=>grind
    |false =>
     simp[hb]at hk;have d:id≠j:=λe=>by grind[Nat.beq_refl]
     simp only[I,d,cC];grind
 exact AW.exit (key h1 (I.Bo h2 k))
def I.j5{A:Fr->List bq->Prop}{Qr:Post}{a:List It}(k:Qr .ret J U):
  I X N (λe J' U'=>match e with
   |.normal=>A J' U'
   |e=>I X N Qr a e J' U') (.code .ret::K) .normal J U:=I.ret (I.xe (Qf:=Qr) k)
def I.again{S:Type}{AK:S->Prop}{fr:S->Fr}{st:S->List bq}{a:S->Nat}{x:S}{Qr:Post}(y:S)(c:rf J (fr y)=O ps)(f:aA ps)(g:AK y)(d:a y<a x)(b:U=st y):
  I X N (λe J' U'=>match e with
   |.normal=>∃y,AK y/\a y<a x/\rS J' (fr y)/\U'=st y
   |e=>Qr e J' U') [] .normal J U:=⟨y,g,d,dJ c f,b⟩
def I.Bp{S:Type}(AK:S->Prop)(fr:S->Fr)(st:S->List bq)(b:S->Nat)(x:S)(d:rf J (fr x)=O ps)(f:aA ps)(g:AK x)(a:st x=U)(round:∀x,AK x->I X N (λe J' U'=>match e with
   |.normal=>∃y,AK y/\b y<b x/\rS J' (fr y)/\U'=st y
   |e=>I X N Qf K e J' U') [.code c] .normal (fr x) (st x)):I X N Qf (.code (.loop c)::K) .normal J U :=
 I.loop AK fr st b x g (dJ d f) a round
def vA(args:List D)(U:List bq):Prop:=∃s vs,cU U s vs args/\aH U s
def vA.at{args:List D}(h:vA args U){d:D}(hj:args[j]?=O d):∃s v,ey U s v d:=by obtain⟨s,vs,a,_⟩:=h;obtain⟨_,b⟩:=cU.get a;grind
def vA.du{args:List D}{U:List bq}(h:vA args U)(j:Nat){l:List UInt8}(hj:args[j]?=O (b7 (.du l))):V l<=9223372036854775807:=by
 obtain⟨s,v,a⟩:=h.at hj;cases gG a with
 |du h hl=>exact hl
def vA.sl{args:List D}{U:List bq}(h:vA args U)(j:Nat){t:Bool}{k n:Nat}{es:Nat->List C}(hj:args[j]?=O (b7 (.sl t k n es))):n<=9223372036854775807:=by
 obtain⟨s,v,d⟩:=h.at hj;cases gG d with
 |sl b off f a hb=>omega
def Ev.body{f:aO}{fn:Func}{args:List D}{res:D}(d:P.funcs[f]?=O fn)(a:(fn.name== "runtime.NumGoroutine")=ae)(hb:fn.body=O c)(b:bP args.length fn.ntmps=W)(h:vA args U->I X fn.ntmps (cM fn U.length res U') [.code c] .normal (lu 0 args) U):Ev X f args U res U':=by refine⟨⟨fn,d,a,by grind⟩,λs vs hr hh=>?_⟩;exact(Ev.intro d a hb (fY b) (I.dX (h ⟨s,vs,hr,hh⟩))).2 s vs hr hh
def Ev.bQ{f:aO}{fn:Func}{c:Code}{args:List D}{U U':List bq}{res:D}(b:P.funcs[f]?=O fn)(a:(fn.name== "runtime.NumGoroutine",fn.body,bP args.length fn.ntmps)=(ae,O c,W))(h:vA args U->I X fn.ntmps (cM fn U.length res U') [.code c] .normal (lu 0 args) U):Ev X f args U res U':=by simp only[l0]at a;exact Ev.body b a.1 a.2.1 a.2.2 h
def I.tG{b:List It}(J':Fr)(U':List bq)(h:(∀(a:Fr)(ps:List Prop),rf a J'=O ps->aA ps->I X N Qf (.code c::b) .normal a U')->I X N Qf K .normal J U)(k:I X N Qf (.code c::b) .normal J' U'):I X N Qf K .normal J U :=
 h λ_ _ h1 h2=>AW.le k (dJ h1 h2)
end
def gC{i:TypeInfo}(h:P.types[t]?=O i):P.info? t=O i:=by unfold Tables.info?;rw[bh (gN.1 h).1];exact h
def dA.nil:dA P []:=λ_ _ h=>by cases h
def dA.cons{i:TI}(h:eN P t i)(r:dA P T):dA P ((t,i)::T):=by
 intro a i2 h2;simp only[bY]at h2;cases hb:aC t a with
 |true=>rw[hb]at h2;cases h2;rw[<-dH hb];exact h
 |false=>rw[hb]at h2;exact r a i2 h2
def eN.mk1{i:TI}{n:TypeInfo}(h:P.underlying t=O i.desc)(k:P.types[t]?=O n)(a:(F2 i.desc==i.agg&&n.size==i.size&&n.bytes==i.bytes&&(!i.agg||n.zero.any λz=>match z with|.agg _=>W|_=>ae)&&V i.zero==i.size&&i.eq.isEmpty)=W:=by rfl)(b:n.zero.map (λz=>z.cells.toList.map vB)=O (i.zero.map O):=by rfl):eN P t i:=by
 simp only[cu,fR,List.isEmpty_iff]at a;obtain⟨⟨⟨⟨⟨a1,a2⟩,a3⟩,a4⟩,a5⟩,a6⟩:=a;cases c:n.zero with
 |none=>rw[c]at b;cases b
 |some z =>
  rw[c]at b a4;refine⟨h,a1,⟨n,z,gC k,a2,a3,c,ou b,?_,a5⟩,λh=>absurd a6 h⟩;cases d:i.agg with
  |false=>exact⟨#[],rfl⟩
  |true =>
   rw[d]at a4;cases z<;>first|exact⟨_,rfl⟩|cases a4
def dA.c1{i:TI}{n:TypeInfo}(h:P.underlying t=O i.desc)(k:P.types[t]?=O n)(r:dA P T)(a:(F2 i.desc==i.agg&&n.size==i.size&&n.bytes==i.bytes&&(!i.agg||n.zero.any λz=>match z with|.agg _=>W|_=>ae)&&V i.zero==i.size&&i.eq.isEmpty)=W:=by rfl)(b:n.zero.map (λz=>z.cells.toList.map vB)=O (i.zero.map O):=by rfl):dA P ((t,i)::T):=dA.cons (eN.mk1 h k a b) r
namespace R1
abbrev pI:= "loop.example/depositary/impl"
abbrev pS:= "loop.example/depositary/spec"
abbrev f0(a:String)(b c:Nat)(d:String)(e:Nat)(f:Bool:=ae):Field:={name:=a,type:=b,offset:=c,embedded:=f,tag:= "",pkgPath:=d,byteOffset:=e}
abbrev zS:C:=.sl W 0 0 (λ_=>[])
@[simp] def LP(n:av):TI:=⟨1,24,ae,.slice n,[zS],[]⟩
@[simp] def PQ(n:av):TI:=⟨1,8,ae,.pointer n,[.ki],[]⟩
@[simp] def Jk(b:Nat)(k:IntKind):TI:=⟨1,b,ae,.int k,[.int k 0],[]⟩
@[simp] def zk(s b:Nat)(f:Array Field)(z:List C)(e:List TypeDesc:=[]):TI:=⟨s,b,W,.struct f,z,e⟩
def i2:TI:=Jk 8 .i64
def i3:TI:=Jk 8 .i64
def i4:TI:=⟨1,1,ae,TypeDesc.bool,[.bool ae],[]⟩
def i5:TI:=Jk 1 .u8
def i6:TI:=Jk 1 .u8
def i8:TI:=zk 4 24 #[f0 "x" 2 0 "runtime" 0,f0 "y" 3 1 "runtime" 8,f0 "signed" 4 2 "runtime" 16,f0 "code" 6 3 "runtime" 17] [.int .i64 0,.int .i64 0,.bool ae,.int .u8 0]
def i9:TI:=⟨1,16,ae,TypeDesc.string,[.du []],[]⟩
def i12:TI:=Jk 8 .u64
def i16:TI:=PQ 349
def i17:TI:=PQ 356
def i20:TI:=⟨1,16,ae,TypeDesc.interface #[],[.kG],[]⟩
def i21:TI:=Jk 4 .i32
def i22:TI:=LP 5
def i23:TI:=LP 83
def i24:TI:=LP 42
def i25:TI:=LP 126
def i27:TI:=zk 3 72 #[f0 "Packs" 23 0 "" 0,f0 "Snaps" 24 1 "" 24,f0 "Log" 25 2 "" 48] [zS,zS,zS]
def i28:TI:=LP 3
def i30:TI:=zk 5 120 #[f0 "Store" 27 0 "" 0,f0 "Marks" 28 3 "" 72,f0 "Left" 28 4 "" 96] [zS,zS,zS,zS,zS]
def i31:TI:=LP 98
def i40:TI:=LP 76
def i42:TI:=zk 2 32 #[f0 "No" 3 0 "" 0,f0 "All" 40 1 "" 8] [.int .i64 0,zS]
def i56:TI:=PQ 106
def i68:TI:=⟨1,16,ae,TypeDesc.interface #[("Error",295)],[.kG],[]⟩
def i71:TI:=PQ 136
def i73:TI:=PQ 71
def i76:TI:=zk 2 40 #[f0 "Path" 9 0 "" 0,f0 "Names" 28 1 "" 16] [.du [],zS]
def i81:TI:=LP 161
def i83:TI:=zk 2 32 #[f0 "No" 3 0 "" 0,f0 "Item" 81 1 "" 8] [.int .i64 0,zS]
def Ym:TI:=zk 2 32 #[f0 "Path" 9 0 "" 0,f0 "Text" 9 1 "" 16] [.du [],.du []] [.string,.string]
def g98:eN ag 98 Ym:=⟨Tryz.underlying98,rfl,⟨_,_,gC Tryz.type98,rfl,rfl,rfl,rfl,⟨_,rfl⟩,rfl⟩,λ_=>nI (fs:=[f0 "Path" 9 0 "" 0,f0 "Text" 9 1 "" 16]) Tryz.underlying98 uY Tryz.eqGuardType98 ⟨by decide,rfl,Tryz.underlying9,an,by decide,rfl,Tryz.underlying9,an,an⟩⟩
def i99:TI:=LP 83
def ajQ:TI:=zk 3 72 #[f0 "packed" 99 0 pI 0 W,f0 "snaps" 24 1 pI 24,f0 "log" 25 2 pI 48] [zS,zS,zS]
def ajR:TI:=zk 2 32 #[f0 "b" 22 0 pS 0,f0 "p" 3 1 pS 24] [zS,.int .i64 0]
def ajS:TI:=LP 9
def ajT:TI:=LP 184
def Uf:TI:=zk 2 16 #[f0 "By" 3 0 "" 0,f0 "Snap" 3 1 "" 8] [.int .i64 0,.int .i64 0] [.int .i64,.int .i64]
def ajU:eN ag 126 Uf:=⟨Tryz.underlying126,rfl,⟨_,_,gC Tryz.type126,rfl,rfl,rfl,rfl,⟨_,rfl⟩,rfl⟩,λ_=>nI (fs:=[f0 "By" 3 0 "" 0,f0 "Snap" 3 1 "" 8]) Tryz.underlying126 uY Tryz.eqGuardType126 ⟨by decide,rfl,Tryz.underlying3,an,by decide,rfl,Tryz.underlying3,an,an⟩⟩
def af9:TI:=zk 1 16 #[f0 "what" 9 0 pI 0] [.du []] [.string]
def ajV:eN ag 136 af9:=⟨Tryz.underlying136,rfl,⟨_,_,gC Tryz.type136,rfl,rfl,rfl,rfl,⟨_,rfl⟩,rfl⟩,λ_=>nI (fs:=[f0 "what" 9 0 pI 0]) Tryz.underlying136 uY Tryz.eqGuardType136 ⟨by decide,rfl,Tryz.underlying9,an,an⟩⟩
def ajW:TI:=⟨1,8,ae,TypeDesc.unsafePointer,[.ki],[]⟩
def ajX:TI:=Jk 8 .u64
def ajY:TI:=zk 3 24 #[f0 "typ_" 17 0 "internal/reflectlite" 0,f0 "ptr" 141 1 "internal/reflectlite" 8,f0 "flag" 142 2 "internal/reflectlite" 16 W] [.ki,.ki,.int .u64 0]
def ajZ:TI:=⟨1,16,ae,TypeDesc.interface #[("AssignableTo",152),("Comparable",151),("Elem",148),("Implements",152),("Kind",150),("Name",295),("PkgPath",295),("Size",357),("String",295),("internal/reflectlite.common",350),("internal/reflectlite.uncommon",358)],[.kG],[]⟩
def aj0:TI:=Jk 1 .u8
def aj1:TI:=Jk 8 .u64
def yx:TI:=zk 2 24 #[f0 "Name" 3 0 "" 0,f0 "Body" 9 1 "" 8] [.int .i64 0,.du []] [.int .i64,.string]
def aj2:eN ag 161 yx:=⟨Tryz.underlying161,rfl,⟨_,_,gC Tryz.type161,rfl,rfl,rfl,rfl,⟨_,rfl⟩,rfl⟩,λ_=>nI (fs:=[f0 "Name" 3 0 "" 0,f0 "Body" 9 1 "" 8]) Tryz.underlying161 uY Tryz.eqGuardType161 ⟨by decide,rfl,Tryz.underlying3,an,by decide,rfl,Tryz.underlying9,an,an⟩⟩
def aj3:TI:=PQ 30
def yy:TI:=zk 2 16 #[f0 "Name" 3 0 "" 0,f0 "Pack" 3 1 "" 8] [.int .i64 0,.int .i64 0] [.int .i64,.int .i64]
def aj4:eN ag 184 yy:=⟨Tryz.underlying184,rfl,⟨_,_,gC Tryz.type184,rfl,rfl,rfl,rfl,⟨_,rfl⟩,rfl⟩,λ_=>nI (fs:=[f0 "Name" 3 0 "" 0,f0 "Pack" 3 1 "" 8]) Tryz.underlying184 uY Tryz.eqGuardType184 ⟨by decide,rfl,Tryz.underlying3,an,by decide,rfl,Tryz.underlying3,an,an⟩⟩
def aj5:TI:=PQ 256
def aj6:TI:=PQ 199
def ac2:TI:=LP 161
def aj7:TI:=⟨1,16,ae,TypeDesc.interface #[("As",210)],[.kG],[]⟩
def aj8:TI:=⟨1,16,ae,TypeDesc.interface #[("Unwrap",212)],[.kG],[]⟩
def aj9:TI:=⟨1,16,ae,TypeDesc.interface #[("Unwrap",215)],[.kG],[]⟩
def aka:TI:=LP 68
def akb:TI:=Jk 8 .i64
def akc:TI:=Jk 4 .u32
def akd:TI:=Jk 8 .u64
def XT:TI:=LP 240
def ake:TI:=zk 0 0 #[] []
def akf:TI:=zk 0 0 #[] []
def akg:TI:=zk 0 0 #[] []
def akh:TI:=zk 1 8 #[f0 "_" 233 0 "sync/atomic" 0,f0 "_" 234 0 "sync/atomic" 0,f0 "v" 229 0 "sync/atomic" 0] [.int .u64 0]
def aki:TI:=zk 2 16 #[f0 "noCopy" 232 0 "sync" 0,f0 "state" 236 0 "sync" 0,f0 "sema" 227 1 "sync" 8] [.int .u64 0,.int .u32 0]
def Iy:TI:=zk 2 24 #[f0 "piece" 9 0 pI 0,f0 "ok" 4 1 pI 16] [.du [],.bool ae] [.string,.bool]
def akj:eN ag 240 Iy:=⟨Tryz.underlying240,rfl,⟨_,_,gC Tryz.type240,rfl,rfl,rfl,rfl,⟨_,rfl⟩,rfl⟩,λ_=>nI (fs:=[f0 "piece" 9 0 pI 0,f0 "ok" 4 1 pI 16]) Tryz.underlying240 uY Tryz.eqGuardType240 ⟨by decide,rfl,Tryz.underlying9,an,by decide,rfl,Tryz.underlying4,an,an⟩⟩
def akk:TI:=LP 121
def akl:TI:=zk 4 32 #[f0 "spot" 184 0 pI 0,f0 "left" 195 2 pI 16,f0 "right" 195 3 pI 24] [.int .i64 0,.int .i64 0,.ki,.ki]
def akm:TI:=Jk 8 .i64
def akn:TI:=⟨1,16,ae,TypeDesc.interface #[("Len",192),("Less",222),("Pop",268),("Push",264),("Swap",266)],[.kG],[]⟩
def ako:TI:=Jk 8 .u64
def akp:TI:=PQ 3
def akq:TI:=PQ 292
def akr:TI:=zk 2 32 #[f0 "addr" 290 0 "strings" 0,f0 "buf" 22 1 "strings" 8] [.ki,zS]
def aks:TI:=PQ 5
def akt:TI:=⟨1,16,ae,TypeDesc.interface #[("Is",320)],[.kG],[]⟩
def aku:TI:=PQ 329
def aga:TI:=zk 2 2 #[f0 "lo" 5 0 "unicode/utf8" 0,f0 "hi" 5 1 "unicode/utf8" 1] [.int .u8 0,.int .u8 0] [.int .u8,.int .u8]
def akv:eN ag 342 aga:=⟨Tryz.underlying342,rfl,⟨_,_,gC Tryz.type342,rfl,rfl,rfl,rfl,⟨_,rfl⟩,rfl⟩,λ_=>nI (fs:=[f0 "lo" 5 0 "unicode/utf8" 0,f0 "hi" 5 1 "unicode/utf8" 1]) Tryz.underlying342 uY Tryz.eqGuardType342 ⟨by decide,rfl,Tryz.underlying5,an,by decide,rfl,Tryz.underlying5,an,an⟩⟩
def akw:TI:=⟨32,32,W,TypeDesc.array 16 342,[.int .u8 0,.int .u8 0,.int .u8 0,.int .u8 0,.int .u8 0,.int .u8 0,.int .u8 0,.int .u8 0,.int .u8 0,.int .u8 0,.int .u8 0,.int .u8 0,.int .u8 0,.int .u8 0,.int .u8 0,.int .u8 0,.int .u8 0,.int .u8 0,.int .u8 0,.int .u8 0,.int .u8 0,.int .u8 0,.int .u8 0,.int .u8 0,.int .u8 0,.int .u8 0,.int .u8 0,.int .u8 0,.int .u8 0,.int .u8 0,.int .u8 0,.int .u8 0],[]⟩
def akx:TI:=PQ 362
def aky:TI:=⟨0,0,W,TypeDesc.array 0 16,[],[]⟩
def akz:TI:=zk 0 0 #[f0 "_" 347 0 "runtime" 0] []
def akA:TI:=Jk 1 .u8
def akB:TI:=Jk 4 .i32
def akC:TI:=Jk 4 .i32
def akD:TI:=zk 11 48 #[f0 "Size_" 12 0 "" 0,f0 "PtrBytes" 12 1 "" 8,f0 "Hash" 227 2 "" 16,f0 "TFlag" 351 3 "" 20,f0 "Align_" 5 4 "" 21,f0 "FieldAlign_" 5 5 "" 22,f0 "Kind_" 149 6 "" 23,f0 "Equal" 352 7 "" 24,f0 "GCData" 314 8 "" 32,f0 "Str" 353 9 "" 40,f0 "PtrToThis" 354 10 "" 44] [.int .u64 0,.int .u64 0,.int .u32 0,.int .u8 0,.int .u8 0,.int .u8 0,.int .u8 0,.C5,.ki,.int .i32 0,.int .i32 0]
def agb:TI:=zk 1 16 #[f0 "s" 9 0 "errors" 0] [.du []] [.string]
def akE:eN ag 362 agb:=⟨Tryz.underlying362,rfl,⟨_,_,gC Tryz.type362,rfl,rfl,rfl,rfl,⟨_,rfl⟩,rfl⟩,λ_=>nI (fs:=[f0 "s" 9 0 "errors" 0]) Tryz.underlying362 uY Tryz.eqGuardType362 ⟨by decide,rfl,Tryz.underlying9,an,an⟩⟩
def tt:List (Nat×TI):=[(2,i2),(3,i3),(4,i4),(5,i5),(6,i6),(8,i8),(9,i9),(12,i12),(16,i16),(17,i17),(20,i20),(21,i21),(22,i22),(23,i23),(24,i24),(25,i25),(27,i27),(28,i28),(30,i30),(31,i31),(40,i40),(42,i42),(56,i56),(68,i68),(71,i71),(73,i73),(76,i76),(81,i81),(83,i83),(98,Ym),(99,i99),(101,ajQ),(106,ajR),(119,ajS),(121,ajT),(126,Uf),(136,af9),(141,ajW),(142,ajX),(144,ajY),(147,ajZ),(149,aj0),(159,aj1),(161,yx),(163,aj3),(184,yy),(195,aj5),(198,aj6),(199,ac2),(208,aj7),(211,aj8),(213,aj9),(214,aka),(218,akb),(227,akc),(229,akd),(230,XT),(232,ake),(233,akf),(234,akg),(236,akh),(238,aki),(240,Iy),(250,akk),(256,akl),(257,akm),(263,akn),(269,ako),(273,akp),(290,akq),(292,akr),(314,aks),(318,akt),(333,aku),(342,aga),(343,akw),(344,akx),(347,aky),(349,akz),(351,akA),(353,akB),(354,akC),(356,akD),(362,agb)]
def bO:dA ag tt:=dA.c1 Tryz.underlying2 Tryz.type2 ( dA.c1 Tryz.underlying3 Tryz.type3 ( dA.c1 Tryz.underlying4 Tryz.type4 ( dA.c1 Tryz.underlying5 Tryz.type5 ( dA.c1 Tryz.underlying6 Tryz.type6 ( dA.c1 Tryz.underlying8 Tryz.type8 ( dA.c1 Tryz.underlying9 Tryz.type9 ( dA.c1 Tryz.underlying12 Tryz.type12 ( dA.c1 Tryz.underlying16 Tryz.type16 ( dA.c1 Tryz.underlying17 Tryz.type17 ( dA.c1 Tryz.underlying20 Tryz.type20 ( dA.c1 Tryz.underlying21 Tryz.type21 ( dA.c1 aZ Tryz.type22 ( dA.c1 Tryz.underlying23 Tryz.type23 ( dA.c1 Tryz.underlying24 Tryz.type24 ( dA.c1 Tryz.underlying25 Tryz.type25 ( dA.c1 Tryz.underlying27 Tryz.type27 ( dA.c1 Tryz.underlying28 Tryz.type28 ( dA.c1 Tryz.underlying30 Tryz.type30 ( dA.c1 Tryz.underlying31 Tryz.type31 ( dA.c1 Tryz.underlying40 Tryz.type40 ( dA.c1 Tryz.underlying42 Tryz.type42 ( dA.c1 Tryz.underlying56 Tryz.type56 ( dA.c1 Tryz.underlying68 Tryz.type68 ( dA.c1 Tryz.underlying71 Tryz.type71 ( dA.c1 Tryz.underlying73 Tryz.type73 ( dA.c1 Tryz.underlying76 Tryz.type76 ( dA.c1 Tryz.underlying81 Tryz.type81 ( dA.c1 Tryz.underlying83 Tryz.type83 ( dA.cons g98 ( dA.c1 Tryz.underlying99 Tryz.type99 ( dA.c1 Tryz.underlying101 Tryz.type101 ( dA.c1 Tryz.underlying106 Tryz.type106 ( dA.c1 Tryz.underlying119 Tryz.type119 ( dA.c1 Tryz.underlying121 Tryz.type121 ( dA.cons ajU ( dA.cons ajV ( dA.c1 Tryz.underlying141 Tryz.type141 ( dA.c1 Tryz.underlying142 Tryz.type142 ( dA.c1 Tryz.underlying144 Tryz.type144 ( dA.c1 Tryz.underlying147 Tryz.type147 ( dA.c1 Tryz.underlying149 Tryz.type149 ( dA.c1 Tryz.underlying159 Tryz.type159 ( dA.cons aj2 ( dA.c1 Tryz.underlying163 Tryz.type163 ( dA.cons aj4 ( dA.c1 Tryz.underlying195 Tryz.type195 ( dA.c1 Tryz.underlying198 Tryz.type198 ( dA.c1 Tryz.underlying199 Tryz.type199 ( dA.c1 Tryz.underlying208 Tryz.type208 ( dA.c1 Tryz.underlying211 Tryz.type211 ( dA.c1 Tryz.underlying213 Tryz.type213 ( dA.c1 Tryz.underlying214 Tryz.type214 ( dA.c1 Tryz.underlying218 Tryz.type218 ( dA.c1 Tryz.underlying227 Tryz.type227 ( dA.c1 Tryz.underlying229 Tryz.type229 ( dA.c1 Tryz.underlying230 Tryz.type230 ( dA.c1 Tryz.underlying232 Tryz.type232 ( dA.c1 Tryz.underlying233 Tryz.type233 ( dA.c1 Tryz.underlying234 Tryz.type234 ( dA.c1 Tryz.underlying236 Tryz.type236 ( dA.c1 Tryz.underlying238 Tryz.type238 ( dA.cons akj ( dA.c1 Tryz.underlying250 Tryz.type250 ( dA.c1 Tryz.underlying256 Tryz.type256 ( dA.c1 Tryz.underlying257 Tryz.type257 ( dA.c1 Tryz.underlying263 Tryz.type263 ( dA.c1 Tryz.underlying269 Tryz.type269 ( dA.c1 Tryz.underlying273 Tryz.type273 ( dA.c1 Tryz.underlying290 Tryz.type290 ( dA.c1 Tryz.underlying292 Tryz.type292 ( dA.c1 Tryz.underlying314 Tryz.type314 ( dA.c1 Tryz.underlying318 Tryz.type318 ( dA.c1 Tryz.underlying333 Tryz.type333 ( dA.cons akv ( dA.c1 Tryz.underlying343 Tryz.type343 ( dA.c1 Tryz.underlying344 Tryz.type344 ( dA.c1 Tryz.underlying347 Tryz.type347 ( dA.c1 Tryz.underlying349 Tryz.type349 ( dA.c1 Tryz.underlying351 Tryz.type351 ( dA.c1 Tryz.underlying353 Tryz.type353 ( dA.c1 Tryz.underlying354 Tryz.type354 ( dA.c1 Tryz.underlying356 Tryz.type356 ( dA.cons akE (dA.nil))))))))))))))))))))))))))))))))))))))))))))))))))))))))))))))))))))))))))))))))))))
end R1
abbrev Bs:=List UInt8
abbrev dS(s:Bs):D:=b7 (.du s)
abbrev dI(n:Int):D:=b7 (.int .i64 n)
abbrev dU(n:Int):D:=b7 (.int .u8 n)
abbrev dB(b:Bool):D:=b7 (.bool b)
def mO{s:Bs}:lM s i=s.getD i 0:=rfl
namespace R1
variable {X:Cx ag}
def gB:Tryz.prog.follows Departure.mixedOrders=W:=rfl
def ac3{X:Cx ag}{CT:List (Nat×eP)}(c:b5 X CT)(ds:List (Nat×Bool)){N:Nat}{Qf:Post}(n:Nat){K b:List It}{J J':Fr}{U U':List bq}{a:List Prop}(h:AM.gZ tt CT ds N n K J U []=O (b,J',U',a))(ho:aA a)(k:I X N Qf b .normal J' U'):I X N Qf K .normal J U:=I.gZ gB bO c ds n h ho k
def sY{X:Cx ag}(ds:List (Nat×Bool)){N:Nat}{Qf:Post}(n:Nat){K b:List It}{J J':Fr}{U U':List bq}{a:List Prop}(h:AM.gZ tt [] ds N n K J U []=O (b,J',U',a))(ho:aA a)(k:I X N Qf b .normal J' U'):I X N Qf K .normal J U:=I.gZ gB bO b5.nil ds n h ho k
def bt{X:Cx ag}{N:Nat}{Qf:Post}{K b:List It}{J J':Fr}{U U':List bq}{a:List Prop}(h:AM.gZ tt [] [] N 100 K J U []=O (b,J',U',a))(ho:aA a)(k:I X N Qf b .normal J' U'):I X N Qf K .normal J U:=I.gZ gB bO b5.nil [] 100 h ho k
def dj{X:Cx ag}{N:Nat}{Qf:Post}{K b:List It}{J J':Fr}{U U':List bq}{a:List Prop}(h:AM.gZ tt [] [] N 200 K J U []=O (b,J',U',a))(ho:aA a)(k:I X N Qf b .normal J' U'):I X N Qf K .normal J U:=I.gZ gB bO b5.nil [] 200 h ho k
def aY{X:Cx ag}{CT:List (Nat×eP)}(c:b5 X CT)(ds:List (Nat×Bool)){N:Nat}{Qf:Post}{K b:List It}{J J':Fr}{U U':List bq}{a:List Prop}(h:AM.gZ tt CT ds N 100 K J U []=O (b,J',U',a))(ho:aA a)(k:I X N Qf b .normal J' U'):I X N Qf K .normal J U:=I.gZ gB bO c ds 100 h ho k
def bj{X:Cx ag}{CT:List (Nat×eP)}(c:b5 X CT)(ds:List (Nat×Bool)){N:Nat}{Qf:Post}{K b:List It}{J J':Fr}{U U':List bq}{a:List Prop}(h:AM.gZ tt CT ds N 200 K J U []=O (b,J',U',a))(ho:aA a)(k:I X N Qf b .normal J' U'):I X N Qf K .normal J U:=I.gZ gB bO c ds 200 h ho k
def ba{X:Cx ag}(ds:List (Nat×Bool)){N:Nat}{Qf:Post}{K b:List It}{J J':Fr}{U U':List bq}{a:List Prop}(h:AM.gZ tt [] ds N 100 K J U []=O (b,J',U',a))(ho:aA a)(k:I X N Qf b .normal J' U'):I X N Qf K .normal J U:=I.gZ gB bO b5.nil ds 100 h ho k
def bM{X:Cx ag}(ds:List (Nat×Bool)){N:Nat}{Qf:Post}{K b:List It}{J J':Fr}{U U':List bq}{a:List Prop}(h:AM.gZ tt [] ds N 200 K J U []=O (b,J',U',a))(ho:aA a)(k:I X N Qf b .normal J' U'):I X N Qf K .normal J U:=I.gZ gB bO b5.nil ds 200 h ho k
def cp{X:Cx ag}{CT:List (Nat×eP)}(c:b5 X CT){N:Nat}{Qf:Post}{K b:List It}{J J':Fr}{U U':List bq}{a:List Prop}(h:AM.gZ tt CT [] N 100 K J U []=O (b,J',U',a))(ho:aA a)(k:I X N Qf b .normal J' U'):I X N Qf K .normal J U:=I.gZ gB bO c [] 100 h ho k
def cY{X:Cx ag}{CT:List (Nat×eP)}(c:b5 X CT){N:Nat}{Qf:Post}{K b:List It}{J J':Fr}{U U':List bq}{a:List Prop}(h:AM.gZ tt CT [] N 200 K J U []=O (b,J',U',a))(ho:aA a)(k:I X N Qf b .normal J' U'):I X N Qf K .normal J U:=I.gZ gB bO c [] 200 h ho k
def qe(b:Int):Bool:=decide (97<=b)&&decide (b<=101)
theorem Yr(b:Int):Ev X 124 [dU b] [] (dB (qe b)) []:=by
 refine Ev.bQ Tryz.func124 rfl λ_=>?_;by_cases h:97<=b
 .refine ba [(4,W)] Z ?_ (I.bE Z ?_)<;>simp[h,qe]
 refine ba [(4,ae)] Z ?_ (I.bE Z ?_)<;>simp[h,qe]
def iG(b:UInt8):Bool:=decide (97<=b.toNat)&&decide (b.toNat<=122)
def cV(s:Bs):Bool:=s.all iG
def xI{s:Bs}(h:∀j,j<V s->iG (s.getD j 0)=W):cV s=W:=by simp only[cV,bL];grind[List.getElem_of_mem]
def m8{s:Bs}(h:j<V s)(b:iG (s.getD j 0)=ae):cV s=ae:=by
 cases a:cV s with
 |false=>rfl
 |true =>
  simp only[cV,bL]at a;grind
theorem LQ(s:Bs):Ev X 125 [dS s] [] (dB (cV s)) []:=by
 refine Ev.bQ Tryz.func125 rfl λe=>?_;have g:=e.du 0 Z;refine bt Z an (I.Bp (λi=>i<=V s/\∀j,j<i->iG (s.getD j 0)=W) (λi:Nat=>[(0,dS s),(3,dI i)]) (λ_=>[]) (λi=>V s-i) 0 Z ay ⟨by omega,by omega⟩ Z ?_);rintro i ⟨hi,c⟩;by_cases h:i<V s
 .generalize a:s.getD i 0=b;by_cases k:b.toNat<97
  .refine ba [(7,W),(13,W)] Z ?_ (I.j5 (cM.zero Z ?_))
   .simp only[aA,mO,bu,a];omega
   rw[aA,m8 h MC]
  by_cases f:b.toNat>122
  .refine ba [(7,W),(13,ae),(18,W)] Z ?_ (I.j5 (cM.zero Z ?_))
   .simp only[aA,mO,bu,dm,a];omega
   rw[aA,m8 h MC]
  refine ba [(7,W),(13,ae),(18,ae)] Z ?_ (I.again (i+1) Z ?_ ?_ ?_ Z)
  .simp only[aA,mO,bu,dm,a,cd];omega
  .simp
  .refine⟨by omega,λj d=>?_⟩;rcases zR.1 d with d|rfl
   .grind
   rw[a];simp only[iG,cu,bu];omega
  omega
 refine ba [(7,ae)] Z c6 (I.gE Z Z ?_);refine bt Z an (I.bE Z ?_);rw[aA,xI (λj d=>c j aq)]
end R1
def Ev.args{P:aR}{X:Cx P}{f:aO}{args Jl:List D}{U U':List bq}{res:D}(h:Ev X f Jl U res U')(hl:∀s vs,cU U s vs args->cU U s vs Jl):Ev X f args U res U' :=
 ⟨h.1,λs vs hr hh=>h.2 s vs (hl s vs hr) hh⟩
def mf(a:Nat):D->Option (Nat×(Nat->List C))
 |.e (.bX (.c (.sl _ k n es)))=>match aC k a with
  |true=>O (n,es)
  |false=>match aC n 0 with
   |true=>O (0,λ_=>[])
   |false=>af
 |_=>af
def US{g:Nat}{d:D}{n:Nat}{es:Nat->List C}(h:mf g d=O (n,es)){U:List bq}{s:St}{v:ah}(r:ey U s v d):Rd s.M v (.sl ae g n es):=by
 unfold mf at h;split at h
 .rename_i t k m es';split at h
  .rename_i hk;have e:=dH hk;subst e;cases h;exact(gG r).AI
  split at h
  .rename_i j;have e:=dH j;subst e;cases h;have r':=gG r;cases r' with
   |sl b off f a i l hk ha hm hr=>exact Rd.sl b off f a i ay aq aq aq aq
  grind
 grind
def Dk{α:Type}(enc:α->List C)(cy:α)(l:List α):Nat->List C:=λi=>enc (l.getD i cy)
structure lX(α:Type) where
 k:Nat
 enc:α->List C
 Kd:List C->α
 cy:α
 inv:∀a,Kd (enc a)=a
 len:∀a,V (enc a)=k
namespace lX
variable {α:Type}(c:lX α)
def cz(n:Nat)(es:Nat->List C):List α:=(bl n).map λi=>c.Kd (es i)
def fn(l:List α):Nat->List C:=Dk c.enc c.cy l
def pd(n:Nat)(es:Nat->List C):Prop:=∀i,i<n->es i=c.enc (c.Kd (es i))
def sl(l:List α):D:=b7 (.sl ae c.k (V l) (c.fn l))
def Jn{n:Nat}{es:Nat->List C}:V (c.cz n es)=n:=by simp[cz]
def aw(l:List α):c.cz (V l) (c.fn l)=l:=by
 apply uh
 .simp[cz]
 intro i b a;simp[cz,fn,Dk,aj,bD a,c.inv]
def aE(l:List α){n:Nat}:c.pd n (c.fn l):=λi _=>by simp[fn,Dk,c.inv]
def Ys{n:Nat}{es:Nat->List C}(h:c.pd n es):eW n es (c.fn (c.cz n es)):=by intro i hi;rw[h i hi];simp[fn,Dk,cz,aj,hi]
def k8{d:D}{n:Nat}{es:Nat->List C}(h:mf c.k d=O (n,es))(a:c.pd n es){U:List bq}{s:St}{v:ah}(r:ey U s v d):ey U s v (c.sl (c.cz n es)):=by have b:=US h r;have e:=b.Kp (c.Ys a);show Rd s.M v (.sl ae c.k (V (c.cz n es)) _);rw[c.Jn];exact e
end lX
def dM(s:Bs)(i:Nat):Int:=(s.getD i 0).toNat
theorem fK(s:Bs)(j:Int):((lM s j).toNat:Int)=dM s j.toNat:=rfl
abbrev bF:=Bs×Bs
def Ir(cs:List C)(j:Nat):Bs:=match eH j cs with|some (.du s)=>s|_=>[]
def BL(cs:List C)(j:Nat):Int:=match eH j cs with|some (.int _ s)=>s|_=>0
def cF:lX bF:={k:=2,enc:=λf=>[.du f.1,.du f.2],Kd:=λcs=>(Ir cs 0,Ir cs 1),cy:=([],[]),inv:=λ_=>rfl,len:=λ_=>rfl}
namespace R1
variable {X:Cx ag}
def ac4:eP:=λargs U=>match args,U with
 |[.e (.bX (.c (.int .u8 b)))],[]=>O (dB (qe b),[],[])
 |_,_=>af
def akF:fp X 124 ac4:=by intro args U res U' obs h _;unfold ac4 at h;grind[Yr]
def Yd:eP:=λargs U=>match args,U with
 |[.e (.bX (.c (.du b)))],[]=>O (dB (cV b),[],[])
 |_,_=>af
def af6:fp X 125 Yd:=by intro args U res U' obs h _;unfold Yd at h;grind[LQ]
def ct1:List (Nat×eP):=[(124,ac4),(125,Yd)]
def Jo:b5 X ct1:=b5.cons akF (b5.cons af6 b5.nil)
def fT(s:Bs):Bool:=if V s=1 then qe (dM s 0)else if V s=3 then qe (dM s 0)&&(dM s 1==47)&&qe (dM s 2)else ae
theorem PR(s:Bs):Ev X 71 [dS s] [] (dB (fT s)) []:=by
 refine Ev.bQ Tryz.func71 rfl λf=>?_;by_cases e:V s=1
 .refine aY Jo [(6,W)] Z Hp (I.bE Z ?_);simp[fT,e,fK]
 by_cases a:V s=3
 .by_cases b:qe (dM s 0)=W
  .by_cases d:dM s 1=47
   .refine aY Jo [(6,ae),(11,W),(14,W),(18,W)] Z ?_ (I.bE Z ?_)
    .simp[a,fK,b,d]
    simp[fT,a,b,d,fK]
   refine aY Jo [(6,ae),(11,W),(14,W),(18,ae)] Z ?_ (I.bE Z ?_)
   .simp[a,fK,b,d]
   simp[fT,a,b,d]
  refine aY Jo [(6,ae),(11,W),(14,ae)] Z ?_ (I.bE Z ?_)
  .simp[a,fK,b]
  simp[fT,a,b]
 refine aY Jo [(6,ae),(11,ae)] Z c6 (I.bE Z ?_);simp[fT,e,a]
def fG(s:Bs):Bool:=decide (V s<=40)&&cV s
theorem PS(s:Bs):Ev X 72 [dS s] [] (dB (fG s)) []:=by
 refine Ev.bQ Tryz.func72 rfl λb=>?_;by_cases a:V s<=40
 .refine aY Jo [(5,W)] Z c6 (I.bE Z ?_);simp[fG,a]
 refine aY Jo [(5,ae)] Z c6 (I.bE Z ?_);simp[fG,a]
def qf(a b:Bs):Bool:=(V a != V b)&&(dM a 0==dM b 0)
def UT(a b:Bs)(g:a≠[])(e:b≠[]):Ev X 73 [dS a,dS b] [] (dB (qf a b)) []:=by
 have h:=E6.2 g;have f:=E6.2 e;refine Ev.bQ Tryz.func73 rfl λi=>?_;by_cases d:V a=V b
 .refine ba [(9,ae)] Z AG (I.bE Z ?_);simp[qf,d]
 refine ba [(9,W)] Z c9 (I.bE Z ?_);simp[qf,d,fK]
end R1
def KY(U U':List bq):Prop:=∀(s:St),aH U s->aH U' s/\eO U s U' s/\∀(v:ah)(d:D),ey U s v d->ey U' s v d
def leB:bq->bq->Option (List Prop)
 |.dk E k n es,.dk E' k' n' es'=>match aC E E',aC k k' with
  |true,W=>O [n=n',eW n es es']
  |_,_=>af
 |.cells E cs,.cells E' pE=>match aC E E' with
  |true=>Z6 cs pE
  |false=>af
 |.cg,.cg=>O []
 |.cJ H,.cJ H'=>O [H=H']
 |.loop N J r,.loop N' J' r'=>O [bq.loop N J r=bq.loop N' J' r']
 |.vr,.vr=>O []
 |.eX E k n es,.eX E' k' n' es'=>match aC E E',aC k k' with
  |true,W=>O [n=n',eW n es es']
  |_,_=>af
 |_,_=>af
def sW:List bq->List bq->Option (List Prop)
 |[],[]=>O []
 |a::r,b::q=>match leB a b with
  |some p=>match sW r q with
   |some ps=>O (mH p ps)
   |none=>af
  |none=>af
 |_,_=>af
def Xk(B B':bq):Prop :=
 (∀E k n es,B=.dk E k n es->∃es',B'=.dk E k n es'/\eW n es es')/\((∀E k n es,B≠.dk E k n es)->(∀E k n es,B'≠.dk E k n es)/\(B=B'∨(∃E cs pE,B=.cells E cs/\B'=.cells E pE/\∀U s vs,fD U s vs cs->fD U s vs pE)∨∃E k n es es',B=.eX E k n es/\B'=.eX E k n es'/\eW n es es'))
theorem abO{B B':bq}(h:leB B B'=O ps)(a:aA ps):Xk B B':=by
 unfold leB at h;split at h
 .rename_i E k n es E' k' n' es';split at h
  .rename_i b d;cases h;have c:=dH b;have f:=dH d;obtain⟨g,i⟩:n=n'/\eW n es es':=a;subst c f g;refine⟨λE0 k0 n0 es0 he=>?_,λl=>absurd Z (l _ _ _ _)⟩;grind
  grind
 .rename_i E cs E' pE;split at h
  .rename_i b;have c:=dH b;subst c;exact⟨λ_ _ _ _ he=>sx,λ_=>⟨λ_ _ _ _ he=>sx,.inr (.inl ⟨E,cs,pE,Z,Z,λU s vs r=>K1 h a r⟩)⟩⟩
  grind
 .exact⟨λ_ _ _ _ he=>sx,λ_=>⟨λ_ _ _ _ he=>sx,.inl Z⟩⟩
 .cases h;rename_i H H';have e:H=H':=a;subst e;exact⟨λ_ _ _ _ he=>sx,λ_=>⟨λ_ _ _ _ he=>sx,.inl Z⟩⟩
 .cases h;rename_i N J r j J' r';have e:bq.loop N J r=bq.loop j J' r':=a;exact⟨λ_ _ _ _ he=>sx,λ_=>⟨λ_ _ _ _ he=>sx,.inl e⟩⟩
 .exact⟨λ_ _ _ _ he=>sx,λ_=>⟨λ_ _ _ _ he=>sx,.inl Z⟩⟩
 .rename_i E k n es E' k' n' es';split at h
  .rename_i b d;cases h;have c:=dH b;have f:=dH d;obtain⟨g,i⟩:n=n'/\eW n es es':=a;subst c f g;exact⟨λ_ _ _ _ he=>sx,λ_=>⟨λ_ _ _ _ he=>sx,.inr (.inr ⟨E,k,n,es,es',Z,Z,i⟩)⟩⟩
  grind
 grind
def H0:∀{U U':List bq}{ps:List Prop},sW U U'=O ps->aA ps->V U'=V U/\∀(l:Nat)(B B':bq),U[l]?=O B->U'[l]?=O B'->Xk B B'
 |[],[],_,_,_=>⟨rfl,λl B B' h=>by grind⟩
 |[],_::_,_,h,_=>by cases h
 |_::_,[],_,h,_=>by cases h
 |a::r,b::q,ps,h,c=>by
  simp only[sW]at h;split at h
  .rename_i p e;split at h
   .rename_i p2 h2;cases h;rw[aA.eu]at c;obtain⟨d,f⟩:=H0 h2 c.2;grind[abO]
   grind
  grind
def jV(h:sW U U'=O ps)(hp:aA ps):KY U U':=by
 obtain⟨Y,hg⟩:=H0 h hp;intro s G;have R:∀(l:Nat) (B:bq),U[l]?=O B->∃B',U'[l]?=O B'/\Xk B B':=az;have get:∀(l:Nat) (B':bq),U'[l]?=O B'->∃B,U[l]?=O B/\Xk B B':=az;have i:∀(l:Nat),(∀B,U[l]?=O B->B.gr=ae)->∀B,U'[l]?=O B->B.gr=ae:=by
  intro l hn B' he;obtain⟨B,hB,j⟩:=get l _ he;have K:=hn B hB;rcases(j.2 (λE k n es e=>by rw[e]at K;cases K)).2 with rfl|⟨E,cs,z,rfl,rfl,_⟩|⟨E,k,n,es,es',rfl,rfl,_⟩
  .omega
  .rfl
  exact j3
 have T:∀(l:Nat) E k n es,U'[l]?=O (bq.eX E k n es)->∃es',U[l]?=O (bq.eX E k n es'):=by
  intro l E k n es he;obtain⟨B,hB,j⟩:=get l _ he;by_cases p:∃E k n es,B=bq.dk E k n es
  .obtain⟨E1,k1,n1,es1,rfl⟩:=p;obtain⟨es',f,_⟩:=j.1 _ _ _ _ rfl;cases f
  rcases(j.2 (λE k n es e=>p ⟨E,k,n,es,e⟩)).2 with rfl|⟨E,cs,z,rfl,h,_⟩|⟨E,k,n,es,es',rfl,h,_⟩
  .grind
  .cases h
  grind
 have F:∀(l:Nat) E k n es,U'[l]?=O (bq.dk E k n es)->∃es',U[l]?=O (bq.dk E k n es'):=by
  intro l E k n es he;obtain⟨B,hB,j⟩:=get l _ he;by_cases p:∃E k n es,B=bq.dk E k n es
  .obtain⟨E1,k1,n1,es1,rfl⟩:=p;obtain⟨es',f,_⟩:=j.1 _ _ _ _ rfl;grind
  exact absurd aK ((j.2 (λE k n es e=>p ⟨E,k,n,es,e⟩)).1 E k n es)
 have Q:∀(v:ah) (a:A),jh U s v a->jh U' s v a:=by
  intro v a r;cases a with
  |c x=>exact r
  |ptr l o=>exact⟨i l r.1,r.2⟩
  |dk l k n es =>
   refine⟨r.1,by rw[Y];exact r.2.1,λE k' n' es' he=>?_⟩;obtain⟨Kq,g⟩:=F l E k' n' es' he;exact r.2.2 E k' n' Kq g
  |oY l=>exact⟨i l r.1,r.2⟩
  |bp l w =>
   obtain⟨lv,r1,r2,r3⟩:=r;refine⟨lv,r1,by grind,λE k' n' es' he=>?_⟩;grind
  |any=>exact r
 have y:∀(vs:List ah) (cs:List A),fD U s vs cs->fD U' s vs cs:=by
  intro vs;induction vs with
  |nil=>intro cs r;cases cs with|nil=>trivial|cons _ _=>exact r.elim
  |cons v vs ih=>intro cs r;cases cs with|nil=>exact r.elim|cons c cs=>exact⟨Q _ _ r.1,ih _ r.2⟩
 have M:∀(v:ah) (e:E1),qF U s v e->qF U' s v e:=by
  intro v e r;cases e with
  |bX a=>exact Q _ _ r
  |agg cs=>obtain⟨vs,f,g⟩:=r;exact⟨vs,f,y _ _ g⟩
 have aa:∀(vs:List ah) (cs:List E1),j4 U s vs cs->j4 U' s vs cs:=by
  intro vs;induction vs with
  |nil=>intro cs r;cases cs with|nil=>trivial|cons _ _=>exact r.elim
  |cons v vs ih=>intro cs r;cases cs with|nil=>exact r.elim|cons c cs=>exact⟨M _ _ r.1,ih _ r.2⟩
 have AK:∀(v:ah) (d:D),ey U s v d->ey U' s v d:=by
  intro v d r;cases d with
  |e x=>exact M _ _ r
  |gI xs=>obtain⟨vs,f,g⟩:=r;exact⟨vs,f,aa _ _ g⟩
  |any=>trivial
 refine⟨⟨G.mem,by rw[G.len,Y],?_,G.gY,G.lt,G.own⟩,⟨bm _,λ_ _ _=>rfl,λ_ _ _ h=>h,λ_ _ _ _=>rfl,λL h b m=>.inr ⟨L,h,m⟩,?_,aK,aK,aK,aK⟩,AK⟩
 .intro l B' L C ak;obtain⟨B,hB,j⟩:=get l B' C;have m:=G.box l B L hB ak;by_cases p:∃E k n es,B=bq.dk E k n es
  .obtain⟨E,k,n,es,rfl⟩:=p;obtain⟨es',rfl,he⟩:=j.1 _ _ _ _ rfl;refine⟨m.1.Kp he,?_⟩;rcases m.2 with⟨f,g⟩|f
   .exact .inl ⟨f,g.Kp he⟩
   grind
  rcases(j.2 (λE k n es e=>p ⟨E,k,n,es,e⟩)).2 with rfl|⟨E,cs,z,rfl,rfl,S⟩|⟨E,k,n,es,es',rfl,rfl,S⟩
  .cases B with
   |cells E cs=>obtain⟨b,vs,f,g,q,u⟩:=m;exact⟨b,vs,f,g,y _ _ q,u⟩
   |dk E k n es=>grind
   |cJ H=>exact m
   |cg=>trivial
   |loop N J r=>obtain⟨l,tmps,fn,df,f,g,q,u,ab⟩:=m;exact⟨l,tmps,fn,df,f,g,q,λt=>AK _ _ (u t),ab⟩
   |vr=>exact m
   |eX E k n es=>exact m
  .obtain⟨b,vs,f,g,q,u⟩:=m;exact⟨b,vs,f,g,y _ _ (S _ _ _ q),u⟩
  rcases m with m|⟨b,c0,vs,zs,f,g,q,u,ab,Z,h7⟩
  .exact .inl m
  exact .inr ⟨b,c0,vs,zs,f,g,q,u,ab,Z.Kp S,h7⟩
 intro l B L hB ak;obtain⟨B',C,j⟩:=R l B hB;refine⟨B',L,C,ak,?_⟩;by_cases p:∃E k n es,B=bq.dk E k n es
 .obtain⟨E,k,n,es,rfl⟩:=p;obtain⟨es',rfl,he⟩:=j.1 _ _ _ _ rfl;exact⟨λ_=>rfl,bm _⟩
 rcases(j.2 (λE k n es e=>p ⟨E,k,n,es,e⟩)).2 with rfl|⟨E,cs,z,rfl,rfl,S⟩|⟨E,k,n,es,es',rfl,rfl,_⟩
 .exact ji.refl _ _
 .exact aK
 exact⟨λ_=>rfl,bm _⟩
section
variable {X:Cx P}
theorem AW.c8{Q:Post}{J':Fr}(h:∀s a,c7 N U s J a->aH U s->∃s':St,s'.w=s.w/\c7 N U' s' J' a/\aH U' s'/\eO U s U' s')(k:AW X N c Q J' U'):AW X N c Q J U:=by intro s a j hh b kk cs S hb hQ;obtain⟨s',m,g,f,st⟩:=h s a j hh;have d:=st.pC hh;refine .c8 (.of hh f m d) ?_;exact k s' a g f b kk cs S hb λe i σ2 s2 a2 q l h2 pA=>hQ e i σ2 s2 a2 q l h2 (d.trans pA)
theorem I.c8{J':Fr}{U':List bq}(h:∀s a,c7 N U s J a->aH U s->∃s':St,s'.w=s.w/\c7 N U' s' J' a/\aH U' s'/\eO U s U' s')(k:I X N Qf (.code c::K) .normal J' U'):I X N Qf (.code c::K) .normal J U :=
 AW.c8 h k
def c7.bs{a:Act}(hb:KY U U')(f:c7 N U s J a)(hh:aH U s):c7 N U' s J a:=⟨f.size,f.defers.imp λ_ h1=>h1.mono (hb s hh).2.1.ext,λt=>(hb s hh).2.2 _ _ (f.ff t)⟩
def I.kR(U':List bq)(h:sW U U'=O ps)(b:aA ps)(k:I X N Qf (.code c::K) .normal J U'):I X N Qf (.code c::K) .normal J U :=
 I.c8 (λs a d hh=>⟨s,rfl,d.bs (jV h b) hh,(jV h b s hh).1,(jV h b s hh).2.1⟩) k
def I.jK(t:Nat)(E:av)(k:Nat){k':Nat}(g:look J t=b7 (.sl W k' n es))(f:n=0)(kk:I X N Qf (.code c::K) .normal ((t,.e (.bX (.dk (V U) k n es)))::J) (U++[.dk E k n es])):I X N Qf (.code c::K) .normal J U:=by
 refine I.c8 (λs a b hh=>?_) kk;have d:=b.ff t;rw[g]at d;have h1:=Rd.Fa (k:=k') (k':=k) (.inr f) (gG d);have hB:gb (U++[.dk E k n es]) {s with β:=s.β++[⟨a.tmps.getD t ai,[]⟩]} (.dk E k n es) ⟨a.tmps.getD t ai,[]⟩:=⟨h1.AI,.inl ⟨⟨rfl,f⟩,h1⟩⟩;obtain⟨h,g2⟩:=hh.jQ (.refl _ _) rfl hh hB ay
 refine⟨{s with β:=s.β++[⟨a.tmps.getD t ai,[]⟩]},rfl,⟨b.size,b.defers.imp λ_ h1=>h1.mono g2.ext,λu=>?_⟩,h,g2⟩;simp only[look];cases hb:aC t u with
 |false=>exact(b.ff u).mono g2.ext hh.len
 |true =>
  have e:=dH hb;subst e;exact uo (L:=⟨a.tmps.getD t ai,[]⟩) ay Hm hB
def I.lQ{S:Type}(AK:S->Prop)(fr:S->Fr)(st:S->List bq)(j:S->Nat)(x:S){qs:List Prop}(r:rf J (fr x)=O ps)(E:aA ps)(o:sW U (st x)=O qs)(D:aA qs)(F:AK x)(round:∀x,AK x->I X N (λe J' U'=>match e with
   |.normal=>∃y,AK y/\j y<j x/\rS J' (fr y)/\KY U' (st y)
   |e=>I X N Qf K e J' U') [.code c] .normal (fr x) (st x)):I X N Qf (.code (.loop c)::K) .normal J U:=by
 intro s a B hh b kk cs SS hb hQ;have i:=jV o D;obtain⟨u,p,_⟩:=i s hh;refine xf (λn a' s'=>∃y,AK y/\c7 N (st y) s' (fr y) a'/\aH (st y) s'/\dE U s (st y) s'/\j y=n) ?_ ?_ ⟨x,F,(B.le (dJ r E)).bs i hh,u,p.pC hh,Z⟩
 .rintro n a' s' ⟨y,m,t,g,d,e⟩;exact⟨st y,g,λH h1=>⟨y,m,t.rely h1 g,g.rely h1,d.trans h1.db,e⟩⟩
 rintro n a' s' ⟨y,m,t,g,d,rfl⟩ A;refine round y m s' a' t g b (.inLoop c::kk) cs SS hb ?_;intro e G σ2 s2 a2 q w h2 pA;cases e with
 |normal =>
  obtain⟨z,C,k,h,f⟩:=q;obtain⟨v,l,_⟩:=f s2 h2;exact A a2 s2 (j z) k ⟨z,C,(w.le h).bs f h2,v,d.trans (pA.trans (l.pC h2)),Z⟩
 |_=>exact vJ.cons (λ_ _=>rfl) ay (hQ _ _ _ _ _ q w h2 (d.trans pA))
def I.iD{S:Type}{AK:S->Prop}{fr:S->Fr}{st:S->List bq}{a:S->Nat}{x:S}{Qr:Post}(y:S){qs:List Prop}(c:rf J (fr y)=O ps)(g:aA ps)(b:sW U (st y)=O qs)(f:aA qs)(h:AK y)(d:a y<a x):
  I X N (λe J' U'=>match e with
   |.normal=>∃y,AK y/\a y<a x/\rS J' (fr y)/\KY U' (st y)
   |e=>Qr e J' U') [] .normal J U:=⟨y,h,d,dJ c g,jV b f⟩
end
def Ev.jz{X:Cx P}{f:aO}{args:List D}{res res':D}(h:Ev X f args [] res U')(e:J8 res res'=O ps)(g:aA ps)(a:C7 0 res'=W):Ev X f args [] res' []:=by
 refine⟨h.1,λs vs hr hh S cs hS=>h.2 s vs hr hh S cs λfr v c hl hv h1 st=>?_⟩;have j:s.β=[]:=kB hh.len;have i:gn c {c with β:=[]}:=⟨rfl,λ_ _ _ h=>h,λ_ _ _=>rfl,h1.mem,λb hb=>.inl az⟩
 refine .c8 i (hS fr v {c with β:=[]} (hl.mono λ_ _ _ h=>h) ?_ ⟨h1.mem,rfl,by simp,by simp,by simp,λb hb=>⟨(h1.own b hb).1,by simp⟩⟩ ⟨st.size,st.keep,st.mem,st.lJ,by simp,λl B L hB=>by grind,st.os,st.tape,st.output,st.own⟩);have h2:=rV e g hv;have:=ey.sub (ks:=[]) (U:=U') (U':=[]) (s:=c) (β':=[]) (d:=res') Z Z (by rw[H3 a];exact h2) a;omega
section drop
variable {σ1 rest:List bq}
def inB(n:Nat):bq->Bool
  | .cells _ cs=>MV n cs
  | .loop ..=>ae
  | _=>W
def wV(n:Nat):List bq->Bool
  | []=>W
  | a::r=>match inB n a with|true=>wV n r|false=>ae
def H4{n:Nat}:∀{l:List bq},wV n l=W->∀B∈l,inB n B=W
  | [],_,B,hB=>by grind
  | b::r,h,B,hB=>by
    simp only[wV]at h;cases a:inB n b with
    | false=>grind
    | true =>
      simp only[a]at h;rcases eQ.1 hB with rfl|hB
      · exact a
      · exact H4 h B hB
def gb.y6{B:bq}{L:Loc}(a:inB (V σ1) B=W)(h:gb (σ1++rest) s B L):gb σ1 (s.cut (V σ1)) B L:=by
  cases B with
  | cells E cs =>
    obtain⟨b,vs,h1,h2,c,d⟩:=h;exact⟨b,vs,h1,h2,fD.x9 c a,d⟩
  | dk E k n es=>exact h
  | cJ H=>exact h
  | cg=>trivial
  | loop N J r=>simp[inB]at a
  | vr=>exact h
  | eX E k n es=>exact h
def aH.drop(h:aH (σ1++rest) s)(e:wV (V σ1) σ1=W):aH σ1 (s.cut (V σ1)):=by
  have hl:V σ1<=V s.β:=by rw[h.len];simp
  refine⟨h.mem,by simp[St.cut,hl],?_,?_,?_,λb hb=>⟨(h.own b hb).1,λL a=>(h.own b hb).2 L (hO a)⟩⟩
  · intro l B L hB a
    have d:l<V σ1:=(cO.1 hB).1;simp only[St.cut,hU,d,cv]at a;exact gb.y6 (rest:=rest) (H4 e B (b9 hB)) (h.box l B L az a)
  · intro l l' L L' a c b hb qq
    simp only[St.cut,hU]at a c;split at a<;>split at c<;>first|exact h.gY l l' L L' a c b hb qq|grind|grind
  · intro L a b hb
    exact h.lt L (hO a) b hb
def sR.drop(a:oe rest=W):∀{ds:List Deferred} {ls:List Nat},sR (σ1++rest) s ds ls->sR σ1 (s.cut (V σ1)) ds ls
  | [],[],_=>trivial
  | [],_::_,r=>r.elim
  | _::_,[],r=>r.elim
  | d::ds,l::ls,⟨⟨h1,L,r,h2,b⟩,e,c⟩=>by
    have hl:l<V σ1:=by
      rcases dy l (V σ1) with h|h
      · exact h
      · rw[iy h]at h1
        exact absurd Z (qU a _ (b9 h1))
    rw[j8 hl]at h1;exact⟨⟨h1,L,r,by simp only[St.cut,hU,hl,cv];exact h2,b⟩,e,sR.drop a c⟩
def Bq(n:Nat)(U:List bq):Bool:=match bP n (V U) with|true=>oe (U.drop n)|false=>ae
theorem uC(h:Bq n U=W):bP n (V U)=W/\oe (U.drop n)=W:=by unfold Bq at h;grind
end drop
def H5(n:Nat):Fr->Bool
  | []=>W
  | (_,d)::r=>match C7 n d with|true=>H5 n r|false=>ae
def rh{n:Nat}:∀{J:Fr} {t:Nat},H5 n J=W->C7 n (look J t)=W
  | [],t,_=>rfl
  | (u,d)::r,t,h=>by
    simp only[H5]at h;cases a:C7 n d with
    | false=>grind
    | true =>
      simp only[a]at h;simp only[look];cases aC u t with
      | true=>exact a
      | false=>exact rh h
section
variable {X:Cx P}
def nZ{S:Type}(X:Cx P)(N:Nat)(Qf:Post)(K:List It)(AK:S->Prop)(b:S->Fr)(st:S->List bq)(a:S->Nat)(n:Nat)(x:S):Post:=λe J' U'=>match e with
  | .normal=>∃y,AK y/\a y<a x/\rS J' (b y)/\H5 n (b y)=W/\∃σ1 rest,U'=σ1++rest/\V σ1=n/\(wV n σ1=W/\oe rest=W)/\KY σ1 (st y)
  | e=>I X N Qf K e J' U'
def I.cm{S:Type}(n:Nat)(AK:S->Prop)(fr:S->Fr)(st:S->List bq)(B:S->Nat)(x:S){qs:List Prop}(C:rf J (fr x)=O ps)(Y:aA ps)(w:sW U (st x)=O qs)(T:aA qs)(hn:V U=n)(Z:AK x)(round:∀x,AK x->I X N (nZ X N Qf K AK fr st B n x) [.code c] .normal (fr x) (st x)):I X N Qf (.code (.loop c)::K) .normal J U:=by
  intro s a Q hh b kk cs SS hb hQ;have i:=jV w T;obtain⟨E,A,_⟩:=i s hh;refine xf (λm a' s'=>∃y,AK y/\c7 N (st y) s' (fr y) a'/\aH (st y) s'/\dE U s (st y) s'/\B y=m) ?_ ?_ ⟨x,Z,(Q.le (dJ C Y)).bs i hh,E,A.pC hh,aK⟩
  · rintro n a' s' ⟨y,u,D,f,d,e⟩
    exact⟨st y,f,λs1 h1=>⟨y,u,D.rely h1 f,f.rely h1,d.trans h1.db,e⟩⟩
  rintro m a' s' ⟨y,u,D,f,d,rfl⟩ aa;refine round y u s' a' D f b (.inLoop c::kk) cs SS hb ?_;intro e φ2 σ2 s2 a2 q G h2 pA;cases e with
  | normal =>
    obtain⟨z,R,l,g,hin,σ1,rest,rfl,H,⟨ak,p⟩,k⟩:=q;have F:=h2.drop az;obtain⟨o,j,r⟩:=k _ F;have v:=G.le g;have M:gn s2 (s2.cut (V σ1)):=⟨rfl,λ_ _ _ h=>h,λ_ _ _=>rfl,h2.mem,λb hb=>hb.imp id λ⟨L,ab,hb⟩=>⟨L,hO ab,hb⟩⟩
    refine .c8 M (aa a2 (s2.cut (V σ1)) (B z) l ⟨z,R,⟨v.size,v.defers.imp λ_ h1=>(h1.drop p).mono j.ext,λt=>r _ _ ((v.ff t).drop (rh az))⟩,o,?_,aK⟩);exact((d.trans pA).drop aq).trans (j.pC F)
  | _=>exact vJ.cons (λ_ _=>rfl) ay (hQ _ _ _ _ _ q G h2 (d.trans pA))
def I.abP{S:Type}{AK:S->Prop}{fr:S->Fr}{st:S->List bq}{b:S->Nat}{x:S}{j:List It}(y:S){qs:List Prop}(c:rf J (fr y)=O ps)(i:aA ps)(f:H5 n (fr y)=W)(g:Bq n U=W)(a:sW (U.take n) (st y)=O qs)(h:aA qs)(d:wV n (U.take n)=W)(k:AK y)(e:b y<b x):
    I X N (nZ X N Qf j AK fr st b n x) [] .normal J U :=
  ⟨y,k,e,dJ c i,f,U.take n,U.drop n,(Az n U).symm,by grind[Nat.le_of_ble_eq_true,uC],⟨d,(uC g).2⟩,jV a h⟩
def I.aQ{S:Type}{n:Nat}{AK:S->Prop}{fr:S->Fr}{st:S->List bq}{a:S->Nat}{x:S}{e:List It}(y:S){ps qs:List Prop}(h:(rf J (fr y),H5 n (fr y),Bq n U,sW (U.take n) (st y),wV n (U.take n))=(O ps,W,W,O qs,W))(d:aA ps)(c:aA qs)(f:AK y)(b:a y<a x):
    I X N (nZ X N Qf e AK fr st a n x) [] .normal J U:=by simp only[l0]at h;exact I.abP y h.1 d h.2.1 h.2.2.1 h.2.2.2.1 c h.2.2.2.2 f b
def I.br{S:Type}{AK:S->Prop}{fr:S->Fr}{st:S->List bq}{b:S->Nat}{x:S}{id:Nat}{d a c:List It}(h1:me id d=af)(h2:me id a=O c)(k:I X N Qf c .normal J U):
    I X N (nZ X N Qf a AK fr st b n x) (.code (.exit id)::d) .normal J U :=
  AW.mono (I.gE (A:=λJ' U'=>nZ X N Qf a AK fr st b n x .normal J' U') h1 h2 k) λe J' U' q=>by
    have key:∀(K:List It) e,I X N (λe J' U'=>match e with
        | .normal=>nZ X N Qf a AK fr st b n x .normal J' U'
        | e=>I X N Qf a e J' U') K e J' U'->I X N (nZ X N Qf a AK fr st b n x) K e J' U':=by
      have e:(λe J' U'=>match e with
        | .normal=>nZ X N Qf a AK fr st b n x .normal J' U'
        | e=>I X N Qf a e J' U')=nZ X N Qf a AK fr st b n x:=by funext e J' U';cases e<;>rfl
      grind
    exact key _ _ q
def I.gp{S:Type}{AK:S->Prop}{fr:S->Fr}{st:S->List bq}{a:S->Nat}{x:S}{c b:List It}(k:Qf .ret J U):I X N (nZ X N Qf b AK fr st a n x) (.code .ret::c) .normal J U :=
  I.ret (I.xe (Qf:=Qf) k)
theorem c7.freeze(t l:Nat){cs:List A}{cc:List C}(y:look J t=cE l 0)(hl:eH l U=O (.cells E cs))(z:jB cs=O cc){a:Act}(g:c7 N U s J a)(hh:aH U s):∃s':St,s'.w=s.w/\c7 N (U.set l .cg) s' ((t,b7 (.rp cc))::J) a/\aH (U.set l .cg) s'/\eO U s (U.set l .cg) s':=by
  have hB:=cD hl;have k:l<V U:=(cO.1 hB).1;have p:=g.ff t;rw[y]at p;obtain⟨_,L,b,i,d,D⟩:=p;obtain⟨f,vs,h1,h2,x,G⟩:=hh.box l _ L hB i;subst h1;simp at d;subst d;let s':St:={s with M:=λn o=>if n=f then vs[o]? else s.M n o}
  have st:eO U s (U.set l .cg) s':=by
    refine⟨bm _,λ_ _ _=>rfl,?_,?_,λL h b hb=>.inr ⟨L,h,hb⟩,?_,Z,Z,Z,Z⟩
    · grind
    · intro b hb hn o
      have m:b≠f:=λe=>hn _ (b9 i) Hp;grind
    · intro l' B L' mT im
      by_cases e:l=l'
      · subst e
        rw[hB]at mT;cases mT;exact⟨.cg,L',by grind,im,Z⟩
      · exact⟨B,L',by grind,im,.refl _ _⟩
  refine⟨s',Z,⟨g.size,g.defers.imp λ_ h1=>h1.mono st.ext,λu=>?_⟩,⟨?_,by simp[hh.len,s'],?_,hh.gY,hh.lt,hh.own⟩,st⟩
  · simp only[look]
    cases hb:aC t u with
    | false=>exact(g.ff u).mono st.ext hh.len
    | true =>
      have e:=dH hb;subst e;rw[D];have q:=oG z x;refine Rd.rp f 0 (λj=>(vs[j]?).getD ai) ?_ ?_
      · intro j c hj
        obtain⟨v,r,_⟩:=q.get (j:=j) (a:=.c c) az;grind
      · intro j c hj
        obtain⟨v,r,p2⟩:=q.get (j:=j) (a:=.c c) az;simp only[r,iY];exact Rd.mono st.mem p2
  · intro b o v hm
    by_cases e:b=f
    · subst e
      have hm':vs[o]?=O v:=az;show s.w.cell? _=_;simp[a9,h2,hm']
    · exact hh.mem b o v az
  · intro l' B L' mT im
    by_cases e:l=l'
    · subst e
      rw[js k]at mT;cases mT;trivial
    · rw[mD e]at mT
      refine(hh.box l' B L' mT im).nk st.ext hh.len λb hb=>⟨Z,λo=>?_⟩
      have m:b≠f:=λF=>e (hh.gY l l' _ L' i im b az hb);grind
theorem I.freeze(t l:Nat){E:av}{cs:List A}{cc:List C}(a:look J t=cE l 0)(hl:eH l U=O (.cells E cs))(b:jB cs=O cc)(kk:I X N Qf (.code c::K) .normal ((t,b7 (.rp cc))::J) (ft.uV l .cg U)):I X N Qf (.code c::K) .normal J U:=by grind[lE,I.c8,c7.freeze]
def I.bX{rest:List aJ}{x:D}(h:OA X N all o J U x U')(a:g7 N o.dst=W)(k:I X N Qf (.ops all rest::K) .normal (lU o.dst x J) U'):I X N Qf (.ops all (o::rest)::K) .normal J U :=
  kA.FU h (iB a) k
end
structure K3(d:TypeDesc)(es:Array MapEntry)(k:ah)(a:Option (Nat×ah)):Prop where
 key:MapKept.IsKey d k
 OQ:Instr.findNow d k es.toList 0=O a
 no:a=af->∀e∈es.toList,e.key≠k
 yes:∀j v,a=O (j,v)->∃e,es[j]?=O e/\e.key=k/\e.val=v
def DX{d:TypeDesc}{es:Array MapEntry}{k:ah}(hk:MapKept.IsKey d k)(h:∀e∈es.toList,MapKept.IsKey d e.key):∃a,K3 d es k a:=by
 rcases MapKept.findNow_spec hk es.toList 0 h with⟨b,g⟩|⟨j,e,b,g,l⟩
 .exact⟨af,hk,b,λ_=>g,by simp⟩
 refine⟨_,hk,b,by simp,λm v i=>?_⟩;grind
section
variable {c f:av}{d:TypeDesc}{r:Nat}{es:Array MapEntry}{clock:Nat}{k:ah}{ok:Bool}
def Nl(hk:P.underlying c=O d):(underlying c).run P w=.ok d w:=by simp[underlying,hk]
def p6(hk:P.underlying c=O d)(a:MapKept.IsKey d k)(b:Bool)(evs:Array bg):(Instr.checkKey b 10000 c k).events P w evs=evs:=by show(Instr.checkKey b (9999+1) c k).events P w evs=evs;unfold Instr.checkKey;simp only[aM,Nl hk,aP,events_underlying];cases d<;>cases k<;>first|exact a.elim|simp
def r7{l:List MapEntry}{a:Option (Nat×ah)}(hk:P.underlying c=O d)(h:Instr.findNow d k l 0=O a)(evs:Array bg):(Instr.findKey c k l).events P w evs=evs:=by simp[Instr.findKey,Nl hk,h]
def mY(a:w.heap[r]?=O (.map es clock))(evs:Array bg):(getObj r).events P w evs=evs.push ⟨.obj r,ae,ae⟩:=by simp only[getObj,Sem.events,Sem.runT,a];rfl
def vb(a:w.heap[r]?=O (.map es clock)){es':Array MapEntry}{b:Nat}(evs:Array bg):(setObj r (.map es' b)).events P w evs=evs.push ⟨.obj r,W,ae⟩:=by simp only[setObj,Sem.events,Sem.runT,a];rfl
def vc(hk:P.underlying c=O d)(a:MapKept.IsKey d k)(b:Bool):(Instr.checkKey b 10000 c k).run P w=.ok () w:=MapKept.run_checkKey hk a b 9999
def y7(l:P.underlying t=O (.map c f))(hk:P.underlying c=O d)(g:w.heap[r]?=O (.map es clock)){a:Option (Nat×ah)}(e:K3 d es k a){z:ah}(j:a=af->(zeroValue f).run P w=.ok z w):
  (Instr.lookup t (.map (O r)) k ok).run P w=.ok (match a with
   |some (_,v)=>if ok=W then .tuple #[v,.bool W]else v
   |none=>if ok=W then .tuple #[z,.bool ae]else z) w/\(Instr.lookup t (.map (O r)) k ok).events P w #[]=#[⟨.obj r,ae,ae⟩]:=by
 have h:(underlying t).run P w=.ok (.map c f) w:=by simp[underlying,l]
 have i:=vc (w:=w) hk e.key es.isEmpty;have b:(Instr.findKey c k es.toList).run P w=.ok a w:=MapKept.run_findKey hk e.OQ;cases a with
 |some jv =>
  constructor
  .simp only[Instr.lookup,cf,h,cA,MapKept.run_getObj_map g,dN,i,b]
  simp only[Instr.lookup,aM,h,aP,MapKept.run_getObj_map g,dN,bG,i,b,events_underlying,mY g,p6 hk e.key,r7 hk e.OQ];rfl
 |none =>
  constructor
  .simp only[Instr.lookup,cf,h,cA,MapKept.run_getObj_map g,dN,i,b,j Z]
  simp only[Instr.lookup,aM,h,aP,MapKept.run_getObj_map g,dN,bG,i,b,events_underlying,mY g,p6 hk e.key,r7 hk e.OQ,j Z,events_zeroValue];rfl
def y8(q:P.underlying t=O (.map c f))(hk:P.underlying c=O d)(b:w.heap[r]?=O (.map es clock)){a:Option (Nat×ah)}{x:ah}(g:K3 d es k a):
  (Instr.mapUpdate t (.map (O r)) k x).run P w=.ok () {w with heap:=w.heap.setIfInBounds r (match a with
   |some (j,_)=>.map (es.modify j λe=>{key:=k,val:=x,born:=e.born}) clock
   |none=>.map (es.push {key:=k,val:=x,born:=clock}) (clock+1))} /\
  (Instr.mapUpdate t (.map (O r)) k x).events P w #[]=#[⟨.obj r,ae,ae⟩,⟨.obj r,W,ae⟩]:=by
 have n:(underlying t).run P w=.ok (.map c f) w:=by simp[underlying,q]
 have o:=vc (w:=w) hk g.key ae;have h:(Instr.findKey c k es.toList).run P w=.ok a w:=MapKept.run_findKey hk g.OQ;cases a with
 |some jv =>
  obtain⟨j,v⟩:=jv;obtain⟨e,m,i,_⟩:=g.yes j v rfl;have l:(Instr.keyThatStays k k).run P w=.ok k w:=MapKept.run_keyThatStays g.key;have p:∀evs,(Instr.keyThatStays k k).events P w evs=evs:=λevs=>by simp[Instr.keyThatStays,MapKept.sameBits_self g.key]
  constructor
  .simp only[Instr.mapUpdate,cf,n,cA,MapKept.run_getObj_map b,o,h,m,oQ,iY,i,l,MapKept.run_setObj_map _ b]
  simp only[Instr.mapUpdate,aM,n,aP,MapKept.run_getObj_map b,o,h,m,oQ,iY,i,l,p,events_underlying,mY b,vb b,p6 hk g.key,r7 hk g.OQ];rfl
 |none =>
  constructor
  .simp only[Instr.mapUpdate,cf,n,cA,MapKept.run_getObj_map b,o,h,MapKept.run_setObj_map _ b]
  simp only[Instr.mapUpdate,aM,n,aP,MapKept.run_getObj_map b,o,h,events_underlying,mY b,vb b,p6 hk g.key,r7 hk g.OQ];rfl
end
def aH.kO(h:aH U s){H H':ah->(Nat->Option Obj)->Prop}{L L':Loc}(hB:U[l]?=O (.cJ H))(t:s.β[l]?=O L)(C:L'.v=L.v)(q:s.w.heap.size<=w'.heap.size)(hk:∀b,b<s.w.heap.size->b∉L.bs->w'.heap[b]?=s.w.heap[b]?)(i:∀b∈L'.bs,b∈L.bs∨(s.w.heap.size<=b/\b<w'.heap.size))(hb:∃ch,H' L'.v ch/\(∀(b:Nat) (o:Obj),ch b=O o->w'.heap[b]?=O o)/\(∀b,b∈L'.bs↔(ch b).isSome=W))(ho:w'.os=s.w.os)(z:w'.tape=s.w.tape)(J:w'.output=s.w.output):
  aH (U.set l (.cJ H')) ⟨s.β.set l L',s.M,w',s.own⟩/\eO U s (U.set l (.cJ H')) ⟨s.β.set l L',s.M,w',s.own⟩:=by
 have u:l<V U:=(cO.1 hB).1;have x:l<V s.β:=az;obtain⟨y,_,_,_,A⟩:=h.box l _ L hB t;have r:∀b∈L'.bs,∀o,s.M b o=af:=by
  intro b k o;rcases i b k with h1|⟨h1,_⟩
  .grind
  cases hm:s.M b o with
  |none=>rfl
  |some v=>have:=h.block hm;omega
 have st:eO U s (U.set l (.cJ H')) ⟨s.β.set l L',s.M,w',s.own⟩:=by
  refine⟨q,az,λ_ _ _ h=>h,λ_ _ _ _=>rfl,az,?_,ho,z,J,Z⟩;intro l' B a d f;by_cases e:l=l'
  .subst e;rw[hB]at d;cases d;rw[t]at f;cases f;exact⟨.cJ H',L',by grind,by grind,C⟩
  exact⟨B,a,by grind,by grind,.refl _ _⟩
 have g:∀(l':Nat) (a:Loc),(s.β.set l L')[l']?=O a->(l'=l/\a=L')∨(l≠l'/\s.β[l']?=O a):=az;refine⟨⟨?_,by simp[h.len],?_,?_,?_,?_⟩,st⟩
 .intro b o v hm;have E:=h.block hm;have D:b∉L.bs:=λm=>by grind
  rw[<-h.mem b o v hm];simp only[a9];grind
 .intro l' B a d f;rcases g l' a f with⟨rfl,rfl⟩|⟨e,h2⟩
  .rw[js u]at d;cases d;obtain⟨ch,k1,G,AK⟩:=hb;exact⟨ch,k1,G,AK,r⟩
  rw[mD e]at d;refine(h.box l' B a d h2).nk st.ext h.len λb k=>⟨hk b (h.lt a (b9 h2) b k) λm=>e (h.gY l l' L a t h2 b m k),λ_=>rfl⟩
 .intro K F L1 a h1 h2 b j c;rcases g K L1 h1 with⟨rfl,rfl⟩|⟨e1,p⟩<;>rcases g F a h2 with⟨rfl,rfl⟩|⟨e2,n⟩
  .rfl
  .rcases i b j with m|m
   .exact h.gY _ _ L a t n b m c
   have:=h.lt a (b9 n) b c;omega
  .rcases i b c with m|m
   .exact h.gY _ _ L1 L p t b j m
   have:=h.lt L1 (b9 p) b j;omega
  exact h.gY _ _ L1 a p n b j c
 .intro a f b c;rcases List.mem_or_eq_of_mem_set f with h1|h1
  .exact eb (h.lt a h1 b c) q
  subst h1;rcases i b c with h2|h2
  .exact eb (h.lt L (b9 t) b h2) q
  grind
 intro b hb;obtain⟨aa,N⟩:=h.own b hb;grind
section
variable {H H':ah->(Nat->Option Obj)->Prop}
end
def cM.sX{fn:Func}{a:Nat}{res:D}(ks:List Nat)(h:Fu fn.results.toList ks J res=O ps)(c:aA ps)(d:l6 ks U=O U')(b:mI U'=W)(e:fa ks=W)(hk:∀j,j<a->ks[j]?=O j):
  cM fn a res U' .normal J U:=by refine⟨.inr Z,ks,?_⟩;unfold Fu at h;grind
def I.aa8{X:Cx P}{f:aO}{σ1:List bq}{res:D}(c:Ev X f cR Us res σ1)(ks:List Nat)(d:o.guard=af)(ho:o.op=.call {callee:=.value fo,args:=xs,argTypes:=lh})(j:fV (ck J fo)=O (f,cap))(a:pU (xs.toList.map (ck J)++iq cap)=iJ ks cR)(e:nV (V ks) cR=W)(g:l6 ks U=O Us)(l:dg Us=W)(h:dg σ1=W)(m:fa ks=W)(b:bP (V ks) (V σ1)=W)(i:g7 N o.dst=W)(k:I X N Qf (.ops all rest::K) .normal (lU o.dst (ky (ks++nw (V U) (V σ1-V ks)) res) J) (ft ks σ1 U)):I X N Qf (.ops all (o::rest)::K) .normal J U :=
 kA.call (λ_ _ _ _=>eE d) ho j ks c a e g l h m (fY b) o.dst Z (iB i) k
def I.wT{X:Cx P}{f:aO}(c:e9 X f cR Us res σ1)(ks:List Nat)(d:o.guard=af)(ho:o.op=.call {callee:=.value fo,args:=xs,argTypes:=lh})(l:fV (ck J fo)=O (f,cap))(a:pU (xs.toList.map (ck J)++iq cap)=iJ ks cR)(e:nV (V ks) cR=W)(g:l6 ks U=O Us)(m:dg Us=W)(h:∀j,dg (σ1 j)=W)(n:fa ks=W)(b:∀j,bP (V ks) (V (σ1 j))=W)(i:g7 N o.dst=W)(k:∀j,I X N Qf (.ops all rest::K) .normal (lU o.dst (ky (ks++nw (V U) (V (σ1 j)-V ks)) (res j)) J) (ft ks (σ1 j) U)):I X N Qf (.ops all (o::rest)::K) .normal J U :=
 kA.ZH (λ_ _ _ _=>eE d) ho l ks c a e g m h n (λj=>fY (b j)) o.dst Z (iB i) k
def I.cQ{P:aR}{X:Cx P}{N:Nat}{Qf:Post}{K:List It}{J:Fr}{U:List bq}{all rest:List aJ}{o:aJ}{fo:aG}{xs:Array aG}{lh:Array av}{f:aO}{cap:List C}{cR:List D}{Us σ1:List bq}{res:D}(n:Ev X f cR Us res σ1)(ks:List Nat)(h:(o.guard,o.op,fV (ck J fo),pU (xs.toList.map (ck J)++iq cap),nV (V ks) cR,l6 ks U,dg Us,dg σ1,fa ks,bP (V ks) (V σ1),g7 N o.dst)=(af,.call {callee:=.value fo,args:=xs,argTypes:=lh},O (f,cap),iJ ks cR,W,O Us,W,W,W,W,W))(k:I X N Qf (.ops all rest::K) .normal (lU o.dst (ky (ks++nw (V U) (V σ1-V ks)) res) J) (ft ks σ1 U)):I X N Qf (.ops all (o::rest)::K) .normal J U:=by simp only[l0]at h;obtain⟨a,b,c,d,e,f,g,i,j,l,m⟩:=h;exact I.aa8 n ks a b c d e f g i j l m k
def I.cP{P:aR}{ι:Type}{X:Cx P}{N:Nat}{Qf:Post}{K:List It}{J:Fr}{U:List bq}{all rest:List aJ}{o:aJ}{fo:aG}{xs:Array aG}{lh:Array av}{f:aO}{cap:List C}{cR:List D}{Us:List bq}{σ1:ι->List bq}{res:ι->D}(i:e9 X f cR Us res σ1)(ks:List Nat)(h:(o.guard,o.op,fV (ck J fo),pU (xs.toList.map (ck J)++iq cap),nV (V ks) cR,l6 ks U,dg Us,fa ks,g7 N o.dst)=(af,.call {callee:=.value fo,args:=xs,argTypes:=lh},O (f,cap),iJ ks cR,W,O Us,W,W,W))(q:∀j,(dg (σ1 j),bP (V ks) (V (σ1 j)))=(W,W))(k:∀j,I X N Qf (.ops all rest::K) .normal (lU o.dst (ky (ks++nw (V U) (V (σ1 j)-V ks)) (res j)) J) (ft ks (σ1 j) U)):I X N Qf (.ops all (o::rest)::K) .normal J U:=by simp only[l0]at h q;obtain⟨a,b,c,d,e,f,g,j,m⟩:=h;exact I.wT i ks a b c d e f g (λj=>(q j).1) j (λj=>(q j).2) m k
def zv:List D->List D->Option (List Prop)
 |[],[]=>O []
 |a::al,b::bs=>match J8 a b with
  |some p=>match zv al bs with
   |some q=>O (mH p q)
   |none=>af
  |none=>af
 |_,_=>af
def wL{U:List bq}{s:St}:∀{vs:List ah}{xs ys:List D}{ps:List Prop},zv xs ys=O ps->aA ps->cU U s vs xs->cU U s vs ys
 |[],[],[],_,_,_,_=>trivial
 |_::_,[],_,_,_,_,h=>h.elim
 |[],_::_,_,_,_,_,h=>h.elim
 |[],[],_::_,_,h,_,_=>by simp[zv]at h
 |_::_,_::_,[],_,h,_,_=>by simp[zv]at h
 |v::vs,a::al,b::bs,ps,h,c,d=>by
  simp only[zv]at h;cases f:J8 a b with
  |none=>grind
  |some p =>
   cases e:zv al bs with
   |none=>grind
   |some q =>
    simp[f,e]at h;subst h;rw[aA.eu]at c;exact⟨rV f c.1 d.1,wL e c.2 d.2⟩
def I.l7{X:Cx P}{f:aO}(c:e9 X f cR Us res σ1)(ks:List Nat)(e:o.guard=af)(ho:o.op=.call {callee:=.value fo,args:=xs,argTypes:=lh})(n:fV (ck J fo)=O (f,cap))(a:zv (xs.toList.map (ck J)++iq cap) (iJ ks cR)=O ps)(d:aA ps)(g:nV (V ks) cR=W)(i:l6 ks U=O Us)(p:dg Us=W)(l:∀j,dg (σ1 j)=W)(q:fa ks=W)(b:∀j,bP (V ks) (V (σ1 j))=W)(m:g7 N o.dst=W)(k:∀j,I X N Qf (.ops all rest::K) .normal (lU o.dst (ky (ks++nw (V U) (V (σ1 j)-V ks)) (res j)) J) (ft ks (σ1 j) U)):I X N Qf (.ops all (o::rest)::K) .normal J U :=
 kA.HF (λ_ _ _ _=>eE e) ho n ks c (λs vs h=>wL a d h) g i p l q (λj=>fY (b j)) o.dst Z (iB m) k
def SJ{a:Act}{d:Nat}(h:d<a.tmps.size):(a.put (O d) v).tmps.getD d ai=v:=by simp[Act.put,gi,AD h]
def oX{f:aO}{fn:Func}{e:Array ah->Sem ah}(g:P.funcs[f]?=O fn)(a:(fn.name== "runtime.NumGoroutine")=ae)(c:fn.body.isNone=W)(j:Extern.findNext fn=af)(d:Extern.find fn=O e)(args:Array ah)(h:er P (e args))(w:aB)(es:Array bg):
  (callFunc f args).events P w es=es.push ⟨.mark (.extern f),ae,W⟩:=by
 have i:fn.name≠ "runtime.NumGoroutine":=az;have b:fn.body=af:=by simpa using c
 simp[callFunc,g,i,b,j,d];rw[h w]
section
variable {X:Cx P}
def gO(P:aR)(N:Nat)(o:aJ)(J:Fr)(U:List bq)(x:ι->D)(U':ι->List bq):Prop :=
 ∀s a,c7 N U s J a->aH U s->∃i b s' v,(ar a.eval o).run P s.w=.ok b s'.w/\(b=.value v∨(b=.skip/\v=ai))/\ey (U' i) s' v (x i)/\aH (U' i) s'/\eO U s (U' i) s'/\gA s ((ar a.eval o).events P s.w #[])
def I.Fi(x:ι->D)(U':ι->List bq)(z:o.guard=af)(p:g7 N o.dst=W)(h:gO P N o J U x U')(k:∀i,I X N Qf (.ops all rest::K) .normal (lU o.dst (x i) J) (U' i)):I X N Qf (.ops all (o::rest)::K) .normal J U:=by
 intro s a f hh b kk cs S idx hb jb hQ;cases idx with
 |nil=>exact jb.elim
 |cons j idx =>
 refine vH hb jb.1 (eE z) λB d=>?_;have c:=hh.rely d;have e:=f.rely d hh;obtain⟨i,A,s',v,h1,h2,r,m,n,u⟩:=h B a e c;have l:=n.pC c;refine⟨A,s',v,h1,h2,⟨⟨U,U' i,c,m,n⟩,u⟩,?_⟩;refine k i s' _ ?_ m b kk cs S idx hb jb.2 λg σ2 s2 a2 q w h2 st=>hQ g σ2 s2 a2 q w h2 ((d.db.trans l).trans st);cases y:o.dst with
 |none=>exact e.mono l c.len
 |some t=>exact(e.mono l c.len).put (iB p t y) r
def I.gH{x:D}(h:bU P o (ck J) U x U')(b:o.guard=af)(a:g7 N o.dst=W)(k:I X N Qf (.ops all rest::K) .normal (lU o.dst x J) U'):I X N Qf (.ops all (o::rest)::K) .normal J U :=
 I.bX (.nB (λ_ _ _ _=>eE b) h) a k
def u7(all:List aJ)(J:Fr)(o:aJ):Bool:=match o.guard with
 |none=>W
 |some (j,b)=>match FH J all j with
  |some (O W)=>b
  |some (O ae)=>!b
  |_=>ae
def iC(h:u7 all J o=W):∀U s a,c7 N U s J a->bn o (yielded all.toArray a.tmps)=W:=by
 intro U s a f;unfold u7 at h;split at h
 .grind [eE]
 rename_i j b d;split at h
 .rename_i c;simp only[bn,d,uA c f,h];rfl
 .rename_i c;simp only[bn,d,uA c f];grind
 grind
def I.Xh{f:aO}{σ1:List bq}{res:D}(c:Ev X f cR Us res σ1)(ks:List Nat)(d:u7 all J o=W)(ho:o.op=.call {callee:=.value fo,args:=xs,argTypes:=lh})(j:fV (ck J fo)=O (f,cap))(a:pU (xs.toList.map (ck J)++iq cap)=iJ ks cR)(e:nV (V ks) cR=W)(g:l6 ks U=O Us)(l:dg Us=W)(h:dg σ1=W)(m:fa ks=W)(b:bP (V ks) (V σ1)=W)(i:g7 N o.dst=W)(k:I X N Qf (.ops all rest::K) .normal (lU o.dst (ky (ks++nw (V U) (V σ1-V ks)) res) J) (ft ks σ1 U)):I X N Qf (.ops all (o::rest)::K) .normal J U :=
 kA.call (iC d) ho j ks c a e g l h m (fY b) o.dst Z (iB i) k
end
inductive tn where
 |nil (a:Option Addr)
 |row (b cap:Nat)
def qw(bf:tn)(n:Nat):ah:=match bf with
 |.nil a=>.slice a 0 0
 |.row b cap=>.slice (O ⟨b,0,af⟩) n cap
def qO(bf:tn)(n:Nat):dK (qw bf n)=W:=by cases bf<;>rfl
def aa1(xs:List ah):Nat->List C:=λi=>[.val (xs.getD i ai)]
section
variable {X:Cx P}
def AW.x0{Q:Post}{J':ι->Fr}{U':ι->List bq}(h:∀s a,c7 N U s J a->aH U s->∃(i:ι)(s':St),s'.w=s.w/\c7 N (U' i) s' (J' i) a/\aH (U' i) s'/\eO U s (U' i) s')(k:∀i,AW X N c Q (J' i) (U' i)):AW X N c Q J U:=by intro s a l hh b kk cs S hb hQ;obtain⟨i,s',n,g,f,st⟩:=h s a l hh;have d:=st.pC hh;refine .c8 (.of hh f n d) ?_;exact k i s' a g f b kk cs S hb λe j σ2 s2 a2 q m h2 pA=>hQ e j σ2 s2 a2 q m h2 (d.trans pA)
def I.aem(l:Nat){B:bq}(B':ι->bq)(hl:U[l]?=O B)(h:∀s L,gb U s B L->∃i,(∀U',gb U' s (B' i) L)/\ji B L (B' i) L)(kk:∀i,I X N Qf (.code c::K) .normal J (U.set l (B' i))):I X N Qf (.code c::K) .normal J U:=by
 refine AW.x0 (J':=λ_=>J) (U':=λi=>U.set l (B' i)) (λs a g hh=>?_) kk;have j:l<V U:=(cO.1 hl).1;have d:l<V s.β:=nh;have f:=bD d;generalize s.β[l]=L at f;obtain⟨i,hi,k⟩:=h s L (hh.box l _ L hl f);have ex:sM U s (U.set l (B' i)) s:=by
  refine⟨λ_ _ _ h=>h,λl' B2 L' mT im=>?_⟩;by_cases e:l=l'
  .subst e;rw[hl]at mT;cases mT;rw[f]at im;cases im;simp_all
  exact⟨B2,L',by grind,im,.refl _ _⟩
 have st:eO U s (U.set l (B' i)) s :=
  ⟨bm _,λ_ _ _=>rfl,λ_ _ _ h=>h,λ_ _ _ _=>rfl,λL h b hb=>.inr ⟨L,h,hb⟩,ex.box,rfl,rfl,rfl,rfl⟩
 refine⟨i,s,Z,⟨g.size,g.defers.imp λ_ h1=>h1.mono st.ext,λu=>(g.ff u).mono st.ext hh.len⟩,⟨hh.mem,by simp[hh.len],?_,hh.gY,hh.lt,hh.own⟩,st⟩;intro l' B2 L' mT im;by_cases e:l=l'
 .subst e;simp_all
 rw[mD e]at mT;exact(hh.box l' B2 L' mT im).nk ex hh.len λ_ _=>⟨Z,λ_=>rfl⟩
def I.ahS(l:Nat){H:ah->(Nat->Option Obj)->Prop}(H':ι->ah->(Nat->Option Obj)->Prop)(hl:U[l]?=O (.cJ H))(h:∀v ch,H v ch->∃i,H' i v ch)(kk:∀i,I X N Qf (.code c::K) .normal J (U.set l (.cJ (H' i)))):I X N Qf (.code c::K) .normal J U :=
 I.aem l (λi=>.cJ (H' i)) hl (λs L ⟨ch,b,a⟩=>let ⟨i,hi⟩:=h _ _ b;⟨i,λ_=>⟨ch,hi,a⟩,rfl⟩) kk
def I.ZF(l:Nat){E k:Nat}(es':Nat->List C)(hl:U[l]?=O (.eX E k n es))(t:∀i,i<n->V (es' i)=k)(h:∀(M:Mem) (i:Nat),i<n->∀(j:Nat) a,(es' i)[j]?=O a->∃c,(es i)[j]?=O c/\∀v,Rd M v c->Rd M v a)(kk:I X N Qf (.code c::K) .normal J (U.set l (.eX E k n es'))):I X N Qf (.code c::K) .normal J U:=by
 refine I.aem (ι:=Unit) l (λ_=>.eX E k n es') hl (λs L hb=>⟨(),λU'=>?_,λ_=>rfl,bm _⟩) λ_=>kk;rcases hb with q|⟨b,o,vs,x,h1,h2,f,u,m,e,w⟩
 .exact .inl q
 refine .inr ⟨b,o,vs,x,h1,h2,f,u,m,⟨e.len,t,λi hi j a hj=>?_⟩,w⟩;obtain⟨c,g,r⟩:=h s.M i hi j a hj;obtain⟨v,p,d⟩:=e.rd i hi j c g;exact⟨v,p,r v d⟩
end
def Hw:C->Bool
 |.int _ _|.bool _|.du _|.ki|.kG|.C5|.val _=>W
 |_=>ae
def AP:A->Bool
 |.c x=>Hw x
 |.any=>W
 |_=>ae
def WA:List A->Bool
 |[]=>W
 |a::r=>match AP a with|true=>WA r|false=>ae
def RN:E1->Bool
 |.bX a=>AP a
 |.agg cs=>WA cs
def MR:List E1->Bool
 |[]=>W
 |a::r=>match RN a with|true=>MR r|false=>ae
def WB:D->Bool
 |.e x=>RN x
 |.gI xs=>MR xs
 |.any=>W
section
theorem Ad{M':Mem}{c:C}(h:Hw c=W)(r:Rd M v c):Rd M' v c:=by
 cases r<;>first|(simp[Hw]at h;done)|skip
 case int h1=>exact .int h1
 case bool=>exact .bool
 case du h1 h2=>exact .du h1 h2
 case ki=>exact .ki
 case kG=>exact .kG
 case C5=>exact .C5
 case val h1=>exact .val h1
def MS{a:A}(h:AP a=W)(r:jh U s v a):jh U' s' v a:=by
 cases a with
 |c x=>exact Ad h r
 |any=>exact r
 |_=>simp[AP]at h
def MT:∀{vs:List ah}{cs:List A},WA cs=W->fD U s vs cs->fD U' s' vs cs
 |[],[],_,_=>trivial
 |[],_::_,_,r=>r.elim
 |_::_,[],_,r=>r.elim
 |v::vs,c::cs,h,r=>by
  simp only[WA]at h;cases a:AP c with
  |false=>grind
  |true=>simp only[a]at h;exact⟨MS a r.1,MT h r.2⟩
def Fh{x:E1}(h:RN x=W)(r:qF U s v x):qF U' s' v x:=by
 cases x with
 |bX a=>exact MS h r
 |agg cs=>obtain⟨vs,c,b⟩:=r;exact⟨vs,c,MT h b⟩
def Hx:∀{vs:List ah}{cs:List E1},MR cs=W->j4 U s vs cs->j4 U' s' vs cs
 |[],[],_,_=>trivial
 |[],_::_,_,r=>r.elim
 |_::_,[],_,r=>r.elim
 |v::vs,c::cs,h,r=>by
  simp only[MR]at h;cases a:RN c with
  |false=>grind
  |true=>simp only[a]at h;exact⟨Fh a r.1,Hx h r.2⟩
def WC{d:D}(h:WB d=W)(r:ey U s v d):ey U' s' v d:=by
 cases d with
 |e x=>exact Fh h r
 |gI xs=>obtain⟨vs,b,a⟩:=r;exact⟨vs,b,Hx h a⟩
 |any=>trivial
end
def Hy:List bq->Bool
 |[]=>W
 |.cJ _::r=>Hy r
 |.cg::r=>Hy r
 |_=>ae
def Hz:∀{l:List bq},Hy l=W->∀B∈l,(∃H,B=.cJ H)∨B=.cg
 |[],_,B,hB=>by grind
 |b::r,h,B,hB=>by
  have a:((∃H,b=.cJ H)∨b=.cg)/\Hy r=W:=by cases b<;>simp_all[Hy]
  rcases eQ.1 hB with rfl|hB
  .exact a.1
  exact Hz a.2 B hB
def ln(U:List bq)(a:Nat)(u:ah)(k n:Nat)(es:Nat->List C):Prop :=
 ∀s,aH U s->∃(L:Loc) (M':Mem),s.β[a]?=O L/\(∀b o v,s.M b o=O v->M' b o=O v)/\(∀b,b∉L.bs->∀o,M' b o=s.M b o)/\(∀b o v,M' b o=O v->s.w.cell? ⟨b,o,af⟩=O v) /\
  (∀b∈L.bs,∀o,s.M b o=af)/\Rd M' u (.sl ae k n es)
section
variable {X:Cx P}
def cU.RO{U:List bq}{s:St}{d:D}:∀{vs:List ah}{ds:List D}{p:Nat}{v:ah},cU U s vs ds->vs[p]?=O v->ey U s v d->cU U s vs (ds.set p d)
 |[],[],_,_,_,h,_=>by grind
 |[],_::_,_,_,h,_,_=>h.elim
 |_::_,[],_,_,h,_,_=>h.elim
 |u::vs,e::ds,0,v,h,b,a=>by simp at b;subst b;exact⟨a,h.2⟩
 |u::vs,e::ds,p+1,v,h,b,a=>⟨h.1,cU.RO (p:=p) h.2 az a⟩
def lD(U:List bq)(ds MU:List D):Prop :=
 ∀s vs,aH U s->cU U s vs ds->∃(B:Nat->Prop) (M':Mem),(∀b,B b->∃L∈s.β,b∈L.bs)/\(∀b o v,s.M b o=O v->M' b o=O v)/\(∀b,¬B b->∀o,M' b o=s.M b o) /\
  (∀b o v,M' b o=O v->s.w.cell? ⟨b,o,af⟩=O v)/\(∀b,B b->∀o,s.M b o=af)/\cU U {s with M:=M'} vs MU
def lD.refl(U:List bq)(ds:List D):lD U ds ds:=λs vs hh hr=>⟨λ_=>False,s.M,λ_ h=>h.elim,λ_ _ _ h=>h,λ_ _ _=>rfl,hh.mem,λ_ h=>h.elim,hr⟩
def lD.step{ds MU:List D}(h:lD U ds MU)(p y:Nat){u:ah}{k:Nat}(x:MU[p]?=O (jA u))(hl:ln U y u k n es):lD U ds (MU.set p (b7 (.sl ae k n es))):=by
 classical
 intro s vs hh hr;obtain⟨B,M1,z,r,AK,G,C,j⟩:=h s vs hh hr;obtain⟨L,a,m,F,A,E,H,q⟩:=hl s hh;have h1:∀b o v,M1 b o=O v->(M1 b o).or (a b o)=O v:=λb o v d=>by grind
 have h2:∀b o v,a b o=O v->(M1 b o).or (a b o)=O v:=λb o v d=>by
  cases e:M1 b o with
  |none=>grind
  |some v' =>
   grind
 refine⟨λb=>B b∨b∈L.bs,λb o=>(M1 b o).or (a b o),az,λb o v d=>h1 b o v (r b o v d),az,?_,?_,?_⟩
 .intro b o v d;cases e:M1 b o with
  |none=>grind
  |some v'=>grind
 .grind
 have e1:sM U {s with M:=M1} U {s with M:=λb o=>(M1 b o).or (a b o)}:=⟨h1,λl B L hB m=>⟨B,L,hB,m,.refl _ _⟩⟩
 have t:=j.mono e1 hh.len;obtain⟨w,f⟩:=cU.get j;have i:p<V vs:=az;have g:vs[p]?=O u:=by have:=f p;rw[x,bD i]at this;have:=Rd.fM (show Rd M1 vs[p] (.val u)from this);grind
 exact t.RO g (show ey U {s with M:=λb o=>(M1 b o).or (a b o)} u (b7 (.sl ae k n es))from Rd.mono h2 q)
end
def jS(E:av)(k:Nat)(bf:tn)(n:Nat)(xs:List ah):ah->(Nat->Option Obj)->Prop:=λv a=>v=.nilFunc/\(∀x∈xs,dK x=W)/\V xs=n*k/\match bf with
 |.nil _=>n=0/\a=λ_=>af
 |.row b cap=>n<=cap/\cap<=9223372036854775807/\∃c,V (xs++c)=cap*k/\a=λd=>if d=b then O (.cells (xs++c).toArray E (0,0))else af
def x3(k:Nat)(xs:List ah):Nat->List C:=λi=>((xs.drop (i*k)).take k).map .val
def HA{k:Nat}{xs:List ah}(a:V xs=n*k)(hi:i<n):V (x3 k xs i)=k:=by have:i*k+k<=n*k:=QX;simp[x3,a];omega
def HB{k:Nat}{xs:List ah}{c:C}(h:(x3 k xs i)[j]?=O c):∃u,xs[i*k+j]?=O u/\c=.val u:=by simp only[x3,qn,hU,pJ]at h;grind
def jS.lookup{k cap:Nat}{xs:List ah}{ch:Nat->Option Obj}(h:jS E k (.row b cap) n xs v ch):∃a,V (xs++a)=cap*k/\ch b=O (.cells (xs++a).toArray E (0,0))/\∀c,(ch c).isSome=W↔c=b:=by obtain⟨_,_,_,_,_,a,h1,h2⟩:=h;grind
def Rd.aen{cap k:Nat}{xs:List ah}(e:∀x∈xs,dK x=W)(hl:V xs=n*k)(f:n<=cap)(d:cap<=9223372036854775807)(h:∀o,M b o=xs[o]?):Rd M (.slice (O ⟨b,0,af⟩) n cap) (.sl ae k n (x3 k xs)):=by refine Rd.qt (M:=M) (k:=k) (n:=n) (es:=x3 k xs) (vs:=xs) (a:=O ⟨b,0,af⟩) (b:=b) (off:=0) (cap:=cap) (t:=ae) ⟨hl,λi hi=>HA hl hi,λi hi j c hj=>?_⟩ fe f d ay (λp u g=>by grind);obtain⟨u,h1,rfl⟩:=HB hj;exact⟨u,h1,.val (e u (b9 h1))⟩
section
variable {X:Cx P}
def jS.DN{k f:Nat}{bf:tn}{xs:List ah}(hl:U[f]?=O (.cJ (jS E k bf n xs)))(es:Nat->List C)(m:∀i,i<n->V (es i)=k/\∀M j c x,(es i)[j]?=O c->xs[i*k+j]?=O x->Rd M x c):ln U f (qw bf n) k n es:=by
 intro s hh;have J:f<V U:=(cO.1 hl).1;have l:f<V s.β:=nh;have z:=bD l;generalize s.β[f]=L at z;obtain⟨ch,B,e,G,d⟩:=hh.box f _ L hl z;cases bf with
 |nil a0 =>
  obtain⟨_,_,_,rfl,_⟩:=B;exact⟨L,s.M,z,λ_ _ _ h=>h,λ_ _ _=>rfl,hh.mem,d,Rd.kF⟩
 |row b cap =>
  obtain⟨S,N,y,AK⟩:=B.lookup;obtain⟨Q,D,r,q,A,_⟩:=B;have H:b∈L.bs:=(G b).2 az
  have w:=e b _ y;obtain⟨c1,c2⟩:=hh.Fb (b:=b) (vs:=xs) (d b H) (λo v ho=>by
   simp only[a9,w]
   grind)
  refine⟨L,λF o=>if F=b then xs[o]? else s.M F o,z,c2,λF aa o=>bc az,c1.mem,d,?_⟩;refine Rd.qt (k:=k) (n:=n) (es:=es) (vs:=xs) (a:=O ⟨b,0,af⟩) (b:=b) (off:=0) (cap:=cap) (t:=ae) ⟨r,λi hi=>(m i hi).1,λi hi j c hj=>?_⟩ fe q A ay (λp u R=>by grind);have K:j<k:=az;have g:i*k+j<V xs:=by rw[r];have:i*k+k<=n*k:=QX;omega
  exact⟨xs[i*k+j],bD g,(m i hi).2 _ j c _ hj (bD g)⟩
def gO.rR{k:Nat}(h:oc P o x y E ie)(hs:ie.size=k){bf:tn}{xs:List ah}(hx:ck J x=jA (qw bf n))(hl:U[l]?=O (.cJ (jS E k bf n xs))){es':Nat->List C}(hy:ck J y=b7 (.sl tx k 1 es')){xv:List ah}(hxv:V xv=k)(hcx:∀(M:Mem) (v:ah) (j:Nat) (c:C),(es' 0)[j]?=O c->Rd M v c->xv[j]?=O v/\dK v=W)(hb:(n+1)*ie.bytes<=140737488355328):
  gO P N o J U (λT:tn=>jA (qw T (n+1))) λT=>U.set l (.cJ (jS E k T (n+1) (xs++xv))):=by
 intro s a hf hh;obtain⟨t,t2,i,i2,ho,hi,F,B,H⟩:=h.op;have hlσ:l<V U:=(cO.1 hl).1;have RF:l<V s.β:=nh;have hL:=bD RF;generalize s.β[l]=L at hL;obtain⟨ch,Y,ak,hbs,hM0⟩:=hh.box l _ L hl hL;have R:=b9 hL;have aa:=dz hf x;rw[hx]at aa;have aa:=Rd.fM aa;have hw:=dz hf y;rw[hy]at hw;have hw:=gG hw;have ab:=Y.2.1;have Q:=Y.2.2.1;have nM:∀b,s.w.heap.size<=b->∀o,s.M b o=af:=λb hb o=>by
  cases hm:s.M b o with
  |none=>rfl
  |some v=>have:=hh.block hm;omega
 have mk:∀(M':Mem) (a0:Option Addr) (cap:Nat),qw bf n=.slice a0 n cap->cap<n+1->aH (U.map λ_=>.cg) {s with M:=M'}->(∀f o v,s.M f o=O v->M' f o=O v) ->
   Rd M' (.slice a0 n cap) (.sl ae k n (x3 k xs))->(∀{es},gA {s with M:=M'} es->gA s es) ->
   ∃i nx s' v,(ar a.eval o).run P s.w=.ok nx s'.w/\(nx=.value v∨(nx=.skip/\v=ai))/\ey (U.set l (.cJ (jS E k i (n+1) (xs++xv)))) s' v (jA (qw i (n+1)))/\aH (U.set l (.cJ (jS E k i (n+1) (xs++xv)))) s'/\eO U s (U.set l (.cJ (jS E k i (n+1) (xs++xv)))) s'/\gA s ((ar a.eval o).events P s.w #[]):=by
  intro M' a0 cap hsl Ou Wa hMM hR hE0;have G:Rd ({s with M:=M'}:St).M (a.eval y) (.sl tx ie.size 1 es'):=by rw[hs];exact hw.mono hMM
  have hR':Rd ({s with M:=M'}:St).M (.slice a0 n cap) (.sl ae ie.size n (x3 k xs)):=az;obtain⟨vs,g,r,A,f2,f3,f4,f5⟩:=kE (P:=P) (s:={s with M:=M'}) (ty:=o.type) hi F B H h.elem Wa hR' G Ou hb h.bytes;have f6:=ll (P:=P) (s:={s with M:=M'}) (ty:=o.type) hi F B H h.elem Wa hR' G Ou hb h.bytes;rw[hs]at A f4;have hvl:V vs=(n+1)*k:=A.len;have Kt:V xs+k=(n+1)*k:=az;have hk0:0<k:=by have:=h.size;omega
  have WE:∀j,j<k->∃v,vs[n*k+j]?=O v/\xv[j]?=O v/\dK v=W:=λj hj=>by
   have hw1:=A.jy n aq;have hwn:dv n (x3 k xs) es' n=es' 0:=by simp[dv]
   rw[hwn]at hw1;obtain⟨v,v1,v2⟩:=A.rd n aq j ((es' 0)[j]'aq) az;grind
  have hvs:vs=xs++xv:=by
   apply tb;intro q;by_cases e:q<V xs
   .have hi:q / k<n:=wB az;have hqk:q / k*k+q % k=q:=zV q k;have hwl:=HA (k:=k) Q hi;have hap:dv n (x3 k xs) es' (q / k)=x3 k xs (q / k):=by simp[dv,hi]
    have hjl:q % k<V (x3 k xs (q / k)):=by rw[hwl];exact rN _ hk0
    obtain⟨v,v1,v2⟩:=A.rd (q / k) aq (q % k) ((x3 k xs (q / k))[q % k]) az;obtain⟨u,u1,u2⟩:=HB (bD hjl);grind[Rd.fM]
   grind
  subst hvs;have ahT:∀x∈xv,dK x=W:=λx hx=>by grind[List.getElem_of_mem]
  let w':aB:=s.w.drew.alloc (.cells (xs++xv++g).toArray E);have Wy:w'.heap[s.w.heap.size]?=O (.cells (xs++xv++g).toArray E (0,0)):=gg s.w.drew _;have Wb:w'.heap.size=s.w.heap.size+1:=ZA;obtain⟨t1,S⟩:=hh.kO (l:=l) (H':=jS E k (.row s.w.heap.size r) (n+1) (xs++xv)) (L':=⟨L.v,[s.w.heap.size]⟩) (w':=w') hl hL rfl aq
   (λb hb _=>dF s.w.drew _ hb) (λb hb=>by grind)
   ⟨λf=>if f=s.w.heap.size then O (.cells (xs++xv++g).toArray E (0,0))else af,⟨Y.1,λx hx=>by grind,by grind,f2,f3,g,by omega,rfl⟩,λb o hb=>by grind,λb=>by by_cases e:b=s.w.heap.size<;>simp[e]⟩ aK aK aK
  refine⟨.row s.w.heap.size r,.value (.slice (O ⟨s.w.heap.size,0,af⟩) (n+1) r),_,_,?_,.inl aK,Rd.val aK,t1,S,?_⟩
  .rw[dT ho,aa,hsl];simp only[cf,dN];exact wj
  grind[dT,gD]
 cases bf with
 |nil a0 =>
  obtain⟨_,_,_,rfl,_⟩:=Y;refine mk s.M a0 0 aK ay (by have:=hh.mV;omega) (λ_ _ _ h=>h) Rd.kF (λh=>h)
 |row b cap =>
  obtain⟨g,hzl,Z,aeo⟩:=Y.lookup;obtain⟨Ws,_,_,Ou,ZE,_⟩:=Y;have D:b∈L.bs:=(hbs b).2 az;have p:=ak b _ Z;have hMb:=hM0 b D;have aep:b<s.w.heap.size:=hh.lt L R b D;have ZD:∀o v,xs[o]?=O v->s.w.cell? ⟨b,o,af⟩=O v:=by intro o v ho;simp only[a9,p];grind
  obtain⟨c1,c2⟩:=hh.Fb (b:=b) (vs:=xs) hMb ZD;have hE0:∀{es:Array bg},gA {s with M:=λf o=>if f=b then xs[o]? else s.M f o} es->gA s es:=λhe =>
   he.AJ (b:=b) R D c2 λf o v aa=>by grind
  have hR:=Rd.aen (M:=λf o=>if f=b then xs[o]? else s.M f o) (b:=b) (cap:=cap) (xs:=xs) ab Q Ou ZE (λo=>by simp);by_cases m:n+1<=cap
  .have G:Rd ({s with M:=λf o=>if f=b then xs[o]? else s.M f o}:St).M (a.eval y) (.sl tx ie.size 1 es'):=by rw[hs];exact hw.mono c2
   obtain⟨d,A,f2⟩:=mF (P:=P) (s:={s with M:=λf o=>if f=b then xs[o]? else s.M f o}) (ty:=o.type) (n:=n) (b:=b) (cap:=cap) hi F B H h.elem c1 p az G m;have f6:=oT (P:=P) (s:=s) (ty:=o.type) (n:=n) (b:=b) (cap:=cap) hi F B H h.elem hh p az (x:=a.eval y) (tx:=tx) (es':=es') az m R D (λo _=>hMb o);rw[hs]at A f2;have hnl:V d=k:=by have:=A.len;omega
   have hw0:=A.jy 0 aq;have WE:∀j,j<k->∃v,d[j]?=O v/\xv[j]?=O v/\dK v=W:=λj hj=>by obtain⟨v,v1,v2⟩:=A.rd 0 aq j ((es' 0)[j]'aq) (bD aq);grind
   have AK:d=xv:=tf;subst AK;have ahT:∀x∈d,dK x=W:=λx hx=>by grind[List.getElem_of_mem]
   have hfk:n*k+k<=cap*k:=Rq;have hzk:k<=V g:=az;have K:((xs++g).take (n*k)++d++(xs++g).drop (n*k+V d))=xs++d++g.drop k:=by rw[<-Q,hnl];simp
   rw[K]at f2;have aa3:(s.w.setRow b (xs++d++g.drop k).toArray).heap[b]?=O (.cells (xs++d++g.drop k).toArray E (0,0)):=setRow_heap s.w b _ _ E _ p;have Kx:∀f,f≠b->(s.w.setRow b (xs++d++g.drop k).toArray).heap[f]?=s.w.heap[f]?:=λf z=>setRow_other s.w b f _ z;obtain⟨t1,S⟩:=hh.kO (l:=l) (H':=jS E k (.row b cap) (n+1) (xs++d)) (L':=L) (w':=s.w.setRow b (xs++d++g.drop k).toArray) hl hL rfl ay
    (λf z hn=>Kx f az) (λf z=>.inl z)
    ⟨λf=>if f=b then O (.cells (xs++d++g.drop k).toArray E (0,0))else af,⟨Ws,λx hx=>by
     grind,by grind,m,ZE,g.drop k,by grind,rfl⟩,λf o z=>by grind,λf=>by grind⟩ aK aK aK
   refine⟨.row b cap,.value (.slice (O ⟨b,0,af⟩) (n+1) cap),_,_,?_,.inl aK,Rd.val aK,t1,S,?_⟩
   .rw[dT ho,aa];simp only[cf,dN,qw];exact wj
   rw[dT ho,aa];exact gD f6
  exact mk _ (O ⟨b,0,af⟩) cap aK aq c1 c2 hR hE0
def I.rR{k:Nat}(h:oc P o x y E ie)(q:ie.size=k){d:Nat}(m:o.dst=O d)(r:o.guard=af)(g:g7 N o.dst=W){bf:tn}{xs:List ah}(p:ck J x=jA (qw bf n))(hl:U[l]?=O (.cJ (jS E k bf n xs))){es':Nat->List C}(i:ck J y=b7 (.sl tx k 1 es')){xv:List ah}(f:V xv=k)(b:∀(M:Mem) (v:ah) (j:Nat) (c:C),(es' 0)[j]?=O c->Rd M v c->xv[j]?=O v/\dK v=W)(hb:(n+1)*ie.bytes<=140737488355328)(kk:∀a:tn,I X N Qf (.ops all rest::K) .normal ((d,jA (qw a (n+1)))::J) (U.set l (.cJ (jS E k a (n+1) (xs++xv))))):I X N Qf (.ops all (o::rest)::K) .normal J U :=
 I.Fi (ι:=tn) (λa=>jA (qw a (n+1))) (λa=>U.set l (.cJ (jS E k a (n+1) (xs++xv)))) r g (.rR h q p hl i f b hb) λa=>by rw[m];exact kk a
def I.WG(t:Nat)(E:av)(k:Nat){j:Nat}(g:look J t=b7 (.sl W j 0 es))(kk:∀bf:tn,I X N Qf (.code c::K) .normal ((t,jA (qw bf 0))::J) (U++[.cJ (jS E k bf 0 [])])):I X N Qf (.code c::K) .normal J U:=by
 refine AW.x0 (λs a d hh=>?_) kk;have f:=d.ff t;rw[g]at f;obtain⟨a0,cap,vs,i,_,_,b,_,_⟩:=(gG f).qp;have b:=b Z;subst b;obtain⟨h,g2⟩:=hh.jQ (B:=.cJ (jS E k (.nil a0) 0 [])) (L:=⟨.nilFunc,[]⟩) (.refl _ _) rfl hh ⟨λ_=>af,⟨rfl,by simp,by simp,rfl,rfl⟩,by simp,by simp,by simp⟩ ay;refine⟨.nil a0,{s with β:=s.β++[⟨.nilFunc,[]⟩]},rfl,⟨d.size,d.defers.imp λ_ h1=>h1.mono g2.ext,λu=>?_⟩,h,g2⟩;simp only[look];cases hb:aC t u with
 |false=>exact(d.ff u).mono g2.ext hh.len
 |true =>
  have e:=dH hb;subst e;show Rd _ _ _;rw[i];exact Rd.val Z
def I.AQ(t l:Nat){k:Nat}{bf:tn}{xs:List ah}(es:Nat->List C)(w:look J t=jA (qw bf n))(hl:U[l]?=O (.cJ (jS E k bf n xs)))(g:∀i,i<n->V (es i)=k/\∀M j c x,(es i)[j]?=O c->xs[i*k+j]?=O x->Rd M x c)(kk:I X N Qf (.code c::K) .normal ((t,b7 (.sl ae k n es))::J) (U.set l .cg)):I X N Qf (.code c::K) .normal J U:=by
 refine I.c8 (λs a f hh=>?_) kk;obtain⟨L,M',q,m,p,A,G,D⟩:=jS.DN hl es g s hh;have d:l<V U:=(cO.1 hl).1;have r:=f.ff t;rw[w]at r;have F:=Rd.fM r;have ex:sM U s (U.set l .cg) {s with M:=M'}:=by
  refine⟨m,λl' B L' mT im=>?_⟩;by_cases e:l=l'
  .subst e;rw[hl]at mT;cases mT;exact⟨.cg,L',by grind,im,Z⟩
  exact⟨B,L',by grind,im,.refl _ _⟩
 have st:eO U s (U.set l .cg) {s with M:=M'}:=by refine⟨bm _,λ_ _ _=>rfl,m,λb _ z o=>p b (z L (b9 q)) o,λL h b hb=>.inr ⟨L,h,hb⟩,ex.box,rfl,rfl,rfl,rfl⟩
 refine⟨{s with M:=M'},rfl,⟨f.size,f.defers.imp λ_ h1=>h1.mono st.ext,λu=>?_⟩,⟨A,by simp[hh.len],?_,hh.gY,hh.lt,hh.own⟩,st⟩
 .simp only[look];cases hb:aC t u with
  |false=>exact(f.ff u).mono st.ext hh.len
  |true =>
   have e:=dH hb;subst e;show Rd _ _ _;grind
 intro l' B L' mT im;by_cases e:l=l'
 .subst e;rw[js d]at mT;cases mT;trivial
 rw[mD e]at mT;exact(hh.box l' B L' mT im).nk ex hh.len λb hb=>⟨Z,p b λy=>e (hh.gY l l' L L' q im b y hb)⟩
end
structure kU(k n:Nat)(es:Nat->List C)(xs:List ah):Prop where
 len:V xs=n*k
 wid:∀i,i<n->V (es i)=k
 Ae:∀i,i<n->∀j c,(es i)[j]?=O c->∃x,xs[i*k+j]?=O x/\∀M,Rd M x c
def kU.rd{k:Nat}{xs:List ah}(h:kU k n es xs):∀i,i<n->V (es i)=k/\∀M j c x,(es i)[j]?=O c->xs[i*k+j]?=O x->Rd M x c:=λi hi =>
 ⟨h.wid i hi,λM j c x hj hx=>by obtain⟨y,h1,h2⟩:=h.Ae i hi j c hj;grind⟩
def aaa(v:ah):A->A
 |.dk 0 _ _ _=>.v v
 |a=>a
def Td(v:ah):E1->E1
 |.bX a=>.bX (aaa v a)
 |e=>e
def K9(v:ah):List E1->List E1
 |[]=>[]
 |a::r=>Td v a::K9 v r
def aab(v:ah):D->D
 |.e x=>.e (Td v x)
 |.gI xs=>.gI (K9 v xs)
 |.any=>.any
def r9(n:Nat):A->Bool
 |.dk 0 _ b _=>aC b n
 |a=>AP a
def xi(n:Nat):E1->Bool
 |.bX a=>r9 n a
 |e=>RN e
def tM(n:Nat):List E1->Bool
 |[]=>W
 |a::r=>match xi n a with|true=>tM n r|false=>ae
def F8(n:Nat):D->Bool
 |.e x=>xi n x
 |.gI xs=>tM n xs
 |.any=>W
section
variable {k:Nat}{L:Loc}
def Te(i:s.β[0]?=O L){a:A}(h:r9 n a=W)(r:jh [bq.dk E k n es] s v a):jh U' s' v (aaa L.v a):=by
 cases a with
 |c x=>exact Ad h r
 |any=>exact r
 |dk l k' n' es' =>
  cases l with
  |zero =>
   obtain⟨g,_,b⟩:=r;have b:=b E k n es Z;have e:=dH h;obtain⟨L',f,d⟩:=b.2 e.symm;rw[i]at f;cases f;show Rd _ _ _;rw[d];exact .val (d▸g.cell)
  |succ l=>simp[r9,AP]at h
 |ptr=>simp[r9,AP]at h
 |oY=>simp[r9,AP]at h
 |bp=>simp[r9,AP]at h
def Ie(b:s.β[0]?=O L){x:E1}(h:xi n x=W)(r:qF [bq.dk E k n es] s v x):qF U' s' v (Td L.v x):=by
 cases x with
 |bX a=>exact Te b h r
 |agg cs=>exact Fh (x:=.agg cs) h r
def D8(a:s.β[0]?=O L):∀{vs:List ah}{cs:List E1},tM n cs=W->j4 [bq.dk E k n es] s vs cs->j4 U' s' vs (K9 L.v cs)
 |[],[],_,_=>trivial
 |[],_::_,_,r=>r.elim
 |_::_,[],_,r=>r.elim
 |v::vs,c::cs,h,r=>by
  simp only[tM]at h;cases b:xi n c with
  |false=>grind
  |true=>simp only[b]at h;exact⟨Ie a b r.1,D8 a h r.2⟩
def Ig(a:s.β[0]?=O L){d:D}(h:F8 n d=W)(r:ey [bq.dk E k n es] s v d):ey U' s' v (aab L.v d):=by
 cases d with
 |e x=>exact Ie a h r
 |gI xs=>obtain⟨vs,c,b⟩:=r;exact⟨vs,c,D8 a h b⟩
 |any=>trivial
end
def An:List ResultVar->Bool
 |[]=>W
 |.tmp _::r=>An r
 |.cell _ _::_=>ae
def zb{P:aR}{a:Act}:∀{rs:List ResultVar},An rs=W->∃vs,(∀w,(rs.mapM (je a)).run P w=Result.ok vs w)/\er P (rs.mapM (je a))
 |[],_=>⟨[],by simp,by rw[List.mapM_nil];exact .pure⟩
 |.tmp t::r,h=>by
  obtain⟨vs,c,b⟩:=zb (P:=P) (a:=a) (rs:=r) h;refine⟨a.tmps.getD t ai::vs,λw=>?_,?_⟩
  .simp only[ov,cf,je,dN,cA,c]
  rw[ov];exact .bind .pure λ_=>.bind b λ_=>.pure
def zw.tmp{f:aO}{fn:Func}{fr:bd}(h:zw P f fr v s)(q:P.funcs[f]?=O fn)(l:An fn.results.toList=W)(hm:∀b o u,s.M b o=O u->s.w.cell? ⟨b,o,af⟩=O u):zw P f fr v s':=by
 obtain⟨h1,h2,g,p,c,n,i⟩:=h;have e:c=fn:=az;subst e;let a:Act:={tmps:=fr.tmps,defers:=[]}
 obtain⟨vs,k1,j⟩:=zb (P:=P) (a:=a) l;have e1:∀w,(c.results.mapM (je a)).run P w=Result.ok vs.toArray w:=λw=>by grind[Array.mapM_eq_mapM_toList,Sem.run_map,Go.Result.andThen_ok]
 have e2:∀w,(results c fr.tmps).run P w=.ok (if h:vs.toArray.size=1 then vs.toArray[0]else .tuple vs.toArray) w:=λw=>by unfold results;rw[cf];refine(et (λr=>Result.andThen r _) (e1 w)).trans ?_;simp
 have e3:er P (results c fr.tmps):=by
  unfold results;have e:er P (c.results.mapM (je a)):=by rw[EU];exact .map j
  exact .bind e λ_=>.pure
 have d:=(i s.w hm).1;rw[e2]at d;cases d;exact⟨h1,h2,g,p,c,n,λw _=>⟨e2 w,λe m=>by rw[e3 w #[]]at m;grind⟩⟩
def Ev.thaw{X:Cx P}[X.ln]{f:aO}{args:List D}{res:D}{k:Nat}(h:Ev X f args [] res [.dk E k n es]){fn:Func}(hf:P.funcs[f]?=O fn)(ht:An fn.results.toList=W)(N:F8 n res=W)(aa:∀i,i<n->V (es i)=k/\∀c∈es i,Hw c=W):
  e9 (ι:={q:tn×List ah // kU k n es q.2}) X f args [] (λq=>aab (qw q.1.1 n) res) (λq=>[.cJ (jS E k q.1.1 n q.1.2)]):=by
 refine⟨h.1,λs vs hr hh S cs hS=>h.2 s vs hr hh S cs λfr v s' hl nj lj st=>?_⟩;have hβ0:s.β=[]:=kB hh.len;have hlen:V s'.β=1:=lj.len;obtain⟨L,AK⟩:∃L,s'.β=[L]:=by
  match hq:s'.β with
  |[L]=>grind
  |[]=>grind
  |_::_::_=>grind
 have hL:s'.β[0]?=O L:=az;obtain⟨hb1,hb2⟩:=lj.box 0 _ L rfl hL;rcases hb2 with⟨⟨hbs,hn0⟩,y⟩|⟨b,cap,cells,Y,F,Kt,M6⟩
 .subst hn0;obtain⟨a,cap,vs0,hv,Ou,ZE,Z,_⟩:=y.qp;have H:cap=0:=Z aK;subst H;let z:St:={s' with β:=[⟨.nilFunc,[]⟩]}
  have hg:gn s' z:=⟨rfl,λ_ _ _ h=>h,λ_ _ _=>rfl,lj.mem,λb hb=>by grind⟩
  have t:kU k 0 es []:=⟨by simp,λi hi=>by omega,λi hi=>by omega⟩
  refine .c8 hg (hS ⟨(.nil a,[]),t⟩ fr v z (hl.tmp hf ht lj.mem) ?_ ?_ ?_)
  .have:=Ig (U':=[bq.cJ (jS E k (.nil a) 0 [])]) (s':=z) hL N nj;rw[hv]at this;exact this
  .refine⟨lj.mem,aK,λl B L' hB im=>?_,?_,by grind,λb hb=>⟨(lj.own b hb).1,by grind⟩⟩
   .cases l with
    |zero=>cases hB;cases im;exact⟨λ_=>af,⟨aK,by simp,by simp,aK,aK⟩,by simp,by simp,by simp⟩
    |succ l=>grind
   grind
  refine⟨st.size,st.keep,st.mem,st.lJ,λL' im b hb=>?_,λl B L' hB=>by grind,st.os,st.tape,st.output,st.own⟩;grind
 .subst Y;have J:b∈(⟨.slice (O ⟨b,0,af⟩) n cap,[b]⟩:Loc).bs:=ay;have ame:s.w.heap.size<=b:=by
   rcases st.Ab _ az b J with h1|⟨L0,h1,_⟩
   .exact h1
   grind
  have aep:b<s'.w.heap.size:=lj.lt _ az b J;obtain⟨a1,aoU,m,U,r,K,_,hF,hm⟩:=hb1.qp;cases U;have R:V m=n*k:=hF.len;have aoV:∀p u,m[p]?=O u->cells[p]?=O u:=λp u hp=>by obtain⟨b1,aoW,e,hm1⟩:=hm p u hp;cases e;have:=lj.mem _ _ _ hm1;simp only[a9,F]at this;simpa using this
  have hnk:n*k<=V cells:=by rw[Kt];exact gX _ r
  have T:cells.take (n*k)=m:=tf;have RE:m++cells.drop (n*k)=cells:=QY;have t:kU k n es m:=by refine⟨R,λi hi=>(aa i hi).1,λi hi j c hj=>?_⟩;obtain⟨u,u1,u2⟩:=hF.rd i hi j c hj;grind[Ad]
  have A:∀x∈m,dK x=W:=λx hx=>by
   obtain⟨p,hp,rfl⟩:=gM hx;have hk:0<k:=az;have hi:p / k<n:=wB az;have hqk:p / k*k+p % k=p:=zV p k;have hj:p % k<V (es (p / k)):=by rw[(aa _ hi).1];exact rN _ hk
   obtain⟨u,u1,u2⟩:=t.Ae _ hi _ _ (bD hj);rw[hqk,bD hp]at u1;cases u1;exact(u2 s.M).cell
  have C:∀d o v',s.M d o=O v'->d≠b:=λd o v' hm' e=>by have:=hh.block hm';omega
  let Q:Mem:=λd o=>if d=b then af else s'.M d o;let s1:St:={s' with β:=[],own:=λx=>s'.own x∨x=b}
  let s2:St:={s1 with M:=Q}
  let z:St:={s' with β:=[⟨.nilFunc,[b]⟩],M:=Q}
  have G:∀d o v',Q d o=O v'->s'.M d o=O v':=λd o v' h'=>by grind
  have ak:gn s' s1:=⟨rfl,λ_ _ _ h=>h,λ_ _ _=>rfl,lj.mem,λd g=>by
   rcases g with(g|g)|⟨L',im,_⟩
   .grind
   .exact .inr ⟨_,by rw[AK];simp;rfl,by grind⟩
   grind⟩
  have ab:qu s1 s2:=⟨rfl,rfl,rfl,G,λd o v' h'=>by grind⟩
  have hg3:gn s2 z:=⟨rfl,λ_ _ _ h=>h,λ_ _ _=>rfl,λd o v' h'=>lj.mem _ _ _ (G _ _ _ h'),λd g=>by grind⟩
  refine .c8 ak (.jz Cx.ln.ok ab (.c8 hg3 (hS ⟨(.row b cap,m),t⟩ fr v z (hl.tmp hf ht lj.mem) ?_ ?_ ?_)))
  .exact Ig (L:=⟨.slice (O ⟨b,0,af⟩) n cap,[b]⟩) hL N nj
  .refine⟨λd o v' h'=>lj.mem _ _ _ (G _ _ _ h'),aK,λl B L' hB im=>?_,?_,λL' im d g=>?_,λd g=>⟨(lj.own d g).1,λL' im=>?_⟩⟩
   .cases l with
    |zero =>
     cases hB;cases im;refine⟨λd=>if d=b then O (.cells (m++cells.drop (n*k)).toArray E (0,0))else af,⟨aK,A,R,r,K,cells.drop (n*k),az,aK⟩,λd o g=>az,λd=>?_,λd g o=>?_⟩
     .by_cases e:d=b<;>simp[e]
     grind
    |succ l=>grind
   .grind
   .grind
   simp[z]at im;subst im;have:=(lj.own d g).2 _ (by rw[AK];simp;rfl);grind
  refine⟨st.size,st.keep,λd o v' h'=>?_,λd g hn o=>?_,λL' im d g=>?_,λl B L' hB=>by grind,st.os,st.tape,st.output,st.own⟩
  .simp only[z,Q,bc (C d o v' h')];exact st.mem _ _ _ h'
  .have:d≠b:=aq;simp only[z,Q,bc this];exact st.lJ d g hn o
  grind
section
variable {X:Cx P}
def I.ahV{p:Prop}(h:∀s,aH U s->p)(k:p->I X N Qf (.code c::K) .normal J U):I X N Qf (.code c::K) .normal J U :=
 λs a b hh=>k (h s hh) s a b hh
def I.ZG{p:Prop}(h:∀s,aH U s->p)(k:p->I X N Qf (.ops all rest::K) .normal J U):I X N Qf (.ops all rest::K) .normal J U :=
 λs a b hh=>k (h s hh) s a b hh
def jS.len{E:av}{k n l:Nat}{bf:tn}{xs:List ah}(hl:U[l]?=O (.cJ (jS E k bf n xs)))(s:St)(hh:aH U s):V xs=n*k/\n<=9223372036854775807/\(0<n->∃b cap,bf=.row b cap)/\∀a,bf=.nil a->n=0:=by
 have c:l<V s.β:=nh;obtain⟨ch,e,_⟩:=hh.box l _ _ hl (bD c);cases bf with
 |nil a=>obtain⟨_,_,f,rfl,_⟩:=e;grind
 |row b cap=>obtain⟨_,_,f,h,g,_⟩:=e;grind
def I.WH(hT:dA P T)(l:Nat){i:TI}{E0:av}{k:Nat}{bf:tn}{xs:List ah}(ho:o.op=.call {callee:=.builtin .len,args:=#[x],argTypes:=lh})(q:lh[0]?=O t)(hi:bY T t=O i)(r:i.desc=.slice E0)(y:ck J x=jA (qw bf n))(hl:U[l]?=O (.cJ (jS E k bf n xs)))(A:o.guard=af)(p:g7 N o.dst=W)(kk:I X N Qf (.ops all rest::K) .normal (lU o.dst (b7 (.int .i64 n)) J) U):I X N Qf (.ops all (o::rest)::K) .normal J U:=by
 refine I.Fi (ι:=Unit) (λ_=>b7 (.int .i64 n)) (λ_=>U) A p (λs a z hh=>?_) λ_=>kk;obtain⟨_,h2,_,B⟩:=jS.len hl s hh;have f:=dz z x;rw[y]at f;have f:=Rd.fM f;have j:=(hT t i hi).run_underlying (w:=s.w);rw[r]at j;have g:lh[0]?=O t:=q;have h:∃a0 cap,qw bf n=.slice a0 n cap:=by
  cases bf with
  |nil a0=>rw[B a0 rfl];exact⟨a0,0,Z⟩
  |row b cap=>exact⟨_,cap,rfl⟩
 obtain⟨a0,cap,m⟩:=h;rw[m]at f;refine⟨(),.value (.int .i64 n),s,.int .i64 n,Zk,.inl Z,Rd.int j3,hh,.refl _ _,?_⟩;have:(ar a.eval o).events P s.w #[]=#[]:=Zk;rw[this];exact .nil
def HC:List A->Bool
 |[]=>W
 |.c x::r=>match Hw x with|true=>HC r|false=>ae
 |_=>ae
def qx(vs:List ah)(cs:List A):Prop:=V vs=V cs/\∀(j:Nat)(c:C),cs[j]?=O (A.c c)->∃v,vs[j]?=O v/\∀M,Rd M v c
def qx.of{U:List bq}{s:St}:∀{vs:List ah}{cs:List A},HC cs=W->fD U s vs cs->qx vs cs
 |[],[],_,_=>⟨rfl,λj c h=>by grind⟩
 |[],_::_,_,r=>r.elim
 |_::_,[],_,r=>r.elim
 |v::vs,.c x::cs,h,r=>by
  simp only[HC]at h;cases a:Hw x with
  |false=>grind
  |true =>
   simp only[a]at h;obtain⟨h1,h2⟩:=qx.of h r.2;refine⟨by grind,λj c hj=>?_⟩;cases j with
   |zero=>simp at hj;subst hj;exact⟨v,Z,λM=>Ad a r.1⟩
   |succ j=>grind
 |_::_,.ptr _ _::_,h,_=>by exact j3
 |_::_,.dk _ _ _ _::_,h,_=>by exact j3
 |_::_,.oY _::_,h,_=>by exact j3
 |_::_,.bp _ _::_,h,_=>by exact j3
 |_::_,.any::_,h,_=>by exact j3
theorem fD.dK{U:List bq}{s:St}:∀{vs:List ah}{cs:List A},fD U s vs cs->∀v∈vs,AM.dK v=W
 |[],[],_,v,h=>by grind
 |[],_::_,r,_,_=>r.elim
 |_::_,[],r,_,_=>r.elim
 |u::vs,c::cs,r,v,h=>by
  rcases eQ.1 h with rfl|h
  .exact jh.cell r.1
  exact fD.dK r.2 v h
def gO.Fj(hT:dA P T)(l:Nat){k cap:Nat}{xs:List ah}{new:List A}{i:TI}(h:o.op=.store t x y)(hi:bY T t=O i)(hx:ck J x=jA (.pointer (O ⟨b,off,af⟩)))(hy:nU (ck J y)=O new)(Wy:V new=i.size)(hgn:HC new=W)(hl:U[l]?=O (.cJ (jS E k (.row b cap) n xs)))(aeq:off+V new<=V xs):
  gO P N o J U (ι:={vs:List ah // qx vs new}) (λ_=>.any) (λvs=>U.set l (.cJ (jS E k (.row b cap) n (xs.take off++vs.1++xs.drop (off+V vs.1))))):=by
 intro s a hf hh;have H:=dz hf x;rw[hx]at H;have H:=Rd.fM H;have C:=qP hy (dz hf y);have hlσ:l<V U:=(cO.1 hl).1;have F:l<V s.β:=nh;have ak:=bD F;generalize s.β[l]=L at ak;obtain⟨ch,hH,B,hbs,Y⟩:=hh.box l _ L hl ak;obtain⟨f,hzl,R,aeo⟩:=jS.lookup hH;obtain⟨Ws,Z,hxl,G,ab,_⟩:=hH;have K:b∈L.bs:=(hbs b).2 az;have p:=B b _ R;let vs:=(a.eval y).cells.toList;have M:qx vs new:=qx.of hgn C;have hvl:V vs=V new:=M.1;have q:off+0+V vs<=(xs++f).toArray.size:=az;have D:=run_storeCells_at P b off E vs 0 (xs++f).toArray s.w p q C.cell;simp only[iN]at D;have z:(xs++f).take off++vs++(xs++f).drop (off+V vs)=(xs.take off++vs++xs.drop (off+V vs))++f:=az;rw[z]at D;have ano:V (xs.take off++vs++xs.drop (off+V vs))=V xs:=az;have aa3:=setRow_heap s.w b (xs++f).toArray ((xs.take off++vs++xs.drop (off+V vs))++f).toArray E (0,0) p;have S:∀c,c≠b->(s.w.setRow b ((xs.take off++vs++xs.drop (off+V vs))++f).toArray).heap[c]?=s.w.heap[c]?:=λc m=>setRow_other s.w b c _ m;obtain⟨t1,t2⟩:=hh.kO (l:=l) (H':=jS E k (.row b cap) n (xs.take off++vs++xs.drop (off+V vs))) (L':=L) (w':=s.w.setRow b ((xs.take off++vs++xs.drop (off+V vs))++f).toArray) hl ak rfl ay
  (λc m hn=>S c az) (λc m=>.inl m)
  ⟨λc=>if c=b then O (.cells ((xs.take off++vs++xs.drop (off+V vs))++f).toArray E (0,0))else af,⟨Ws,λx hx=>by
   grind[fD.dK],by grind,G,ab,f,by grind,rfl⟩,λc o m=>by simp_all,λc=>by simp_all⟩ aK aK aK
 have AK:(a.eval y).cells.size=i.size:=az;refine⟨⟨vs,M⟩,.skip,_,ai,?_,.inr ⟨aK,aK⟩,an,t1,t2,?_⟩
 .have Q:(storeCells ⟨b,off,af⟩ (a.eval y).cells.toList).run P s.w=_:=D;simp[ar,h,H,Instr.storeAt,Instr.sureAddr,storeVar,(hT t i hi).b6,AK,Q]
 intro ev g;have e:ar a.eval o=(do storeVar t ⟨b,off,af⟩ (a.eval y);pure .skip):=by simp[ar,h,H,Instr.storeAt,Instr.sureAddr]
 rw[e]at g;have aa:ev∈(storeCells ⟨b,off,af⟩ (a.eval y).cells.toList).events P s.w #[]:=by
  simp only[storeVar,aM,(hT t i hi).b6,AK,aP,events_sizeOf,dO,gx,cC,cf,cA,bG]at g;generalize(storeCells ⟨b,off,af⟩ (a.eval y).cells.toList).run P s.w=r at g;cases r with
  |ok v w'=>simpa using g
  |halt x w'=>simpa using g
 rcases fj (a.eval y).cells.toList 0 (xs++f).toArray s.w #[] p q C.cell ev aa with Wa|⟨j,_,_,rfl⟩
 .grind
 exact l4 (b9 ak) K (Y b K _)
def I.Fj{T:List (Nat×TI)}(hT:dA P T)(l:Nat){t:av}{x y:aG}{E:av}{k n b cap off:Nat}{xs:List ah}{new:List A}{i:TI}(h:o.op=.store t x y)(hi:bY T t=O i)(m:ck J x=jA (.pointer (O ⟨b,off,af⟩)))(j:nU (ck J y)=O new)(a:V new=i.size)(f:HC new=W)(hl:U[l]?=O (.cJ (jS E k (.row b cap) n xs)))(c:off+V new<=V xs)(p:o.guard=af)(g:g7 N o.dst=W)(kk:∀vs,qx vs new->I X N Qf (.ops all rest::K) .normal (lU o.dst .any J) (U.set l (.cJ (jS E k (.row b cap) n (xs.take off++vs++xs.drop (off+V vs)))))):I X N Qf (.ops all (o::rest)::K) .normal J U :=
 I.Fi _ _ p g (gO.Fj hT l h hi m j a f hl c) λvs=>kk vs.1 vs.2
def I.swap(i j:Nat){H1 H2:ah->(Nat->Option Obj)->Prop}(G:i≠j)(hi:U[i]?=O (.cJ H1))(hj:U[j]?=O (.cJ H2))(h1:∀v ch,H1 v ch->v=.nilFunc)(h2:∀v ch,H2 v ch->v=.nilFunc)(kk:I X N Qf (.code c::K) .normal J ((U.set i (.cJ H2)).set j (.cJ H1))):I X N Qf (.code c::K) .normal J U:=by
 refine I.c8 (λs a y hh=>?_) kk;have A:i<V U:=(cO.1 hi).1;have D:j<V U:=(cO.1 hj).1;have t:i<V s.β:=nh;have p:j<V s.β:=nh;obtain⟨g,o⟩:∃L,s.β[i]?=O L:=⟨_,bD t⟩;obtain⟨n,w⟩:∃L,s.β[j]?=O L:=⟨_,bD p⟩;have E:=hh.box i _ g hi o;have C:=hh.box j _ n hj w;have M:g.v=.nilFunc:=by obtain⟨ch,F,_⟩:=E;grind
 have H:n.v=.nilFunc:=by obtain⟨ch,F,_⟩:=C;grind
 let s':St:={s with β:=(s.β.set i n).set j g}
 have x:∀l,((U.set i (.cJ H2)).set j (.cJ H1))[l]?=if l=j then O (.cJ H1)else if l=i then O (.cJ H2)else U[l]?:=λl=>by grind
 have m:∀l,s'.β[l]?=if l=j then O g else if l=i then O n else s.β[l]?:=λl=>by grind
 have z:∀L∈s'.β,L∈s.β:=λL f=>by grind
 have ex:sM U s ((U.set i (.cJ H2)).set j (.cJ H1)) s':=by
  refine⟨λ_ _ _ h=>h,λl B L hB f=>?_⟩;rw[x,m];by_cases e:l=j
  .subst e;rw[hj]at hB;cases hB;rw[w]at f;cases f;exact⟨.cJ H1,g,by simp,by simp,by show g.v=_;grind⟩
  by_cases r:l=i
  .subst r;rw[hi]at hB;cases hB;rw[o]at f;cases f;exact⟨.cJ H2,n,by simp[e],by simp[e],by show n.v=_;grind⟩
  exact⟨B,L,by grind,by grind,.refl _ _⟩
 have st:eO U s ((U.set i (.cJ H2)).set j (.cJ H1)) s':=by exact⟨bm _,λ_ _ _=>rfl,λ_ _ _ h=>h,λ_ _ _ _=>rfl,λL h b hb=>.inr ⟨L,z L h,hb⟩,ex.box,rfl,rfl,rfl,rfl⟩
 refine⟨s',Z,⟨y.size,y.defers.imp λ_ h1=>h1.mono ex,λu=>(y.ff u).mono ex hh.len⟩,⟨hh.mem,by simp[s',hh.len],?_,?_,λL f b hb=>hh.lt L (z L f) b hb,λb hb=>⟨(hh.own b hb).1,λL f=>(hh.own b hb).2 L (z L f)⟩⟩,st⟩
 .intro l B L hB f;rw[x]at hB;rw[m]at f;split at hB
  .rename_i e;rw[bh e]at f;cases hB;cases f;exact E
  rename_i e;rw[bc e]at f;split at hB
  .rename_i r;rw[bh r]at f;cases hB;cases f;exact C
  rename_i r;rw[bc r]at f;exact(hh.box l B L hB f).nk ex hh.len λb hb=>⟨Z,λ_=>rfl⟩
 intro l l' L1 L2 q1 q2 b hb qq;rw[m]at q1 q2;have key:∀l L,(if l=j then O g else if l=i then O n else s.β[l]?)=O L->s.β[if l=j then i else if l=i then j else l]?=O L:=λl L q=>by grind
 have:=hh.gY _ _ L1 L2 (key l L1 q1) (key l' L2 q2) b hb qq;by_cases e1:l=j<;>by_cases e2:l'=j<;>by_cases e3:l=i<;>by_cases AK:l'=i<;>simp_all
def I.RP(hT:dA P T){i:TI}{aa L:IntKind}(h:o.op=.makeSlice t x y)(hi:bY T t=O i)(hd:i.desc=.slice E)(hE:bY T E=O ie)(hx:ck J x=b7 (.int aa n))(hy:ck J y=b7 (.int L n))(hb:n*ie.bytes<=140737488355328)(ak:n<=140737488355328)(hg:o.guard=af)(hN:g7 N o.dst=W)(kk:∀b xs,I X N Qf (.ops all rest::K) .normal (lU o.dst (jA (qw (.row b n) n)) J) (U++[.cJ (jS E ie.size (.row b n) n xs)])):I X N Qf (.ops all (o::rest)::K) .normal J U:=by
 refine I.Fi (ι:=Nat×List ah) (λq=>jA (qw (.row q.1 n) n)) (λq=>U++[.cJ (jS E ie.size (.row q.1 n) n q.2)]) hg hN (λs a S hh=>?_) λq=>kk q.1 q.2;have j:=dz S x;rw[hx]at j;have j:=gG j;generalize B:a.eval x=vx at j;cases j;have m:=dz S y;rw[hy]at m;have m:=gG m;generalize C:a.eval y=vy at m;cases m;have l:=(hT t i hi).und;rw[hd]at l;obtain⟨f,z,F,z2,z3,ab,Y,z6,z7⟩:=(hT E ie hE).C3;have g:(f.bytes:Int)*(n:Int)<=281474976710656:=az;have p:=run_make (P:=P) (w:=s.w) t E f z l F ab aa L n n aq (wI _) g aq;simp only[bZ]at p;let xs:=(madeCells z.cells (n*f.size)).toList;have Q:V xs=n*ie.size:=by grind[size_madeCells]
 have Z:∀v∈z.cells.toList,dK v=W:=fD.dK (nt (U:=U) (s:=s) Y);have hzl:V z.cells.toList=ie.size:=by have:=et List.length Y;grind
 have R:∀v∈xs,dK v=W:=by intro v hv;simp only[xs,madeCells,Array.toList_map,ja]at hv;grind[Nat.mod_lt]
 have hB:gb (U++[.cJ (jS E ie.size (.row s.w.heap.size n) n xs)]) {s with w:=s.w.alloc (.cells xs.toArray E),β:=s.β++[⟨.nilFunc,[s.w.heap.size]⟩]} (.cJ (jS E ie.size (.row s.w.heap.size n) n xs)) ⟨.nilFunc,[s.w.heap.size]⟩:=by
  refine⟨λA=>if A=s.w.heap.size then O (.cells (xs++[]).toArray E (0,0))else af,⟨aK,R,Q,bm _,by omega,[],by grind,aK⟩,λA o g=>?_,λA=>?_,λA g o=>?_⟩
  .by_cases e:A=s.w.heap.size
   .subst e;simp only[cv]at g;grind[gg]
   grind
  .by_cases e:A=s.w.heap.size<;>simp[e]
  simp at g;subst g;cases hm:s.M s.w.heap.size o with
  |none=>rfl
  |some v=>have:=hh.block hm;omega
 have D:aH U {s with w:=s.w.alloc (.cells xs.toArray E)}/\eO U s U {s with w:=s.w.alloc (.cells xs.toArray E)} :=
  hh.C4 ay (λb hb=>dF s.w _ hb) (λb hb o=>rfl) (λb hb o v hm=>by have:=hh.block hm;omega) aK aK aK
 obtain⟨g1,g2⟩:=D.1.jQ D.2 rfl hh hB (λb hb=>by simp_all);refine⟨(s.w.heap.size,xs),.value (.slice (O ⟨s.w.heap.size,0,af⟩) n n),_,_,?_,.inl aK,Rd.val aK,g1,g2,?_⟩
 .simp[ar,h,B,C,p,xs]
 have e:ar a.eval o=(do pure (.value (<-Instr.makeSlice t (.int aa n) (.int L n)))):=by simp[ar,h,B,C]
 rw[e];refine gD ?_;intro e r;have hu:∀u,(underlying t).run P u=.ok (.slice E) u:=λu=>by simp[underlying,l]
 have G:∀u,(typeInfo E).run P u=.ok f u:=λu=>by simp[typeInfo,F]
 have AK:∀u,(zeroValue E).run P u=.ok z u:=λu=>by simp[zeroValue,typeInfo,F,ab]
 have H:∀u,(sizeOf E).run P u=.ok f.size u:=λu=>by simp[sizeOf,typeInfo,F]
 have wl:IntKind.i64.wrap (n:Int)=n:=by grind[IntKind.wrap_i64]
 have n1:¬(n:Int)<0:=aq;have n2:¬(281474976710656<(f.bytes:Int)*n):=aq;simp[Instr.makeSlice,hu,G,H,asInt,asIntOf,wl,n1,n2]at r;rw[AK]at r;simp only[aP,(er.newRow (P:=P)) _ _,ite_self]at r;unfold askRoom at r;split at r
 .have:e=⟨.mark .noRoom,ae,W⟩:=by simpa using r
  rw[this];exact .inl aK
 simp at r
end
section
variable {k d:Nat}{u:ah}
end
def zy{xs vs:List α}{a:Nat}(h:a+V vs<=V xs)(p:Nat):(xs.take a++vs++xs.drop (a+V vs))[p]?=if a<=p/\p<a+V vs then vs[p-a]? else xs[p]?:=by have b:V (xs.take a)=a:=az;grind
def kU.ic{k:Nat}{es':Nat->List C}{xs:List ah}{new:List A}(h:kU k n es xs)(i j:Nat)(hi:i<n)(o:qx vs new)(p:j+V new<=k)(w:∀a,a<n->a≠i->es' a=es a)(hl:V (es' i)=k)(z:∀(q:Nat) (c:C),(es' i)[q]?=O c->(j<=q/\q<j+V new/\new[q-j]?=O (A.c c))∨(¬(j<=q/\q<j+V new)/\(es i)[q]?=O c)):kU k n es' (xs.take (i*k+j)++vs++xs.drop (i*k+j+V vs)):=by
 have r:i*k+k<=n*k:=QX;have x:=o.1;have s:=h.len;have f:i*k+j+V vs<=V xs:=aq;refine⟨by grind,λa b=>?_,λa b q c v=>?_⟩
 .by_cases e:a=i
  .grind
  rw[w a b e];exact h.wid a b
 rw[zy f];by_cases e:a=i
 .subst e;rcases z q c v with⟨h1,h2,t⟩|⟨h1,h2⟩
  .rw[bh aq,show a*k+q-(a*k+j)=q-j by omega];exact o.2 _ c t
  rw[bc aq];exact h.Ae a b q c h2
 have g:(es a)[q]?=O c:=az;have y:q<k:=by rw[<-h.wid a b];grind
 rw[bc ?_]
 .exact h.Ae a b q c g
 rcases Nat.lt_or_gt_of_ne e with l|m
 .have:a*k+k<=i*k:=by rw[<-pK];exact gX _ l
  omega
 have:i*k+k<=a*k:=Rq;omega
def kU.aa4{k:Nat}{es':Nat->List C}{xs:List ah}(h:kU k n es xs)(g:∀i,i<n->es' i=es i)(hl:V (es' n)=k)(j:V vs=k)(o:∀(q:Nat)(c:C),(es' n)[q]?=O c->∃v,vs[q]?=O v/\∀M,Rd M v c):kU k (n+1) es' (xs++vs):=by
 have f:=h.len;refine⟨by grind,λi hi=>?_,λi hi q c m=>?_⟩
 .by_cases e:i=n
  .grind
  rw[g i aq];exact h.wid i aq
 by_cases e:i=n
 .grind
 have a:i<n:=aq;have b:(es i)[q]?=O c:=az;have l:q<k:=by rw[<-h.wid i a];grind
 have:i*k+k<=n*k:=by rw[<-pK];exact gX _ a
 rw[j8 aq];exact h.Ae i a q c b
def Fs(T:List (Nat×TI))(J:Fr):List ResultVar->Option (List D)
 |[]=>O []
 |.tmp t::r=>match Fs T J r with
  |some q=>O (look J t::q)
  |none=>af
 |.cell ad t::r=>match Fs T J r with
  |some q=>match look J ad with
   |.e (.bX (.c (.rp cs)))=>match bY T t with
    |some i=>match nW i (cs.map A.c)with
     |some e=>O (.e e::q)
     |none=>af
    |none=>af
   |_=>af
  |none=>af
def Ft{P:aR}{T:List (Nat×TI)}(hT:dA P T){N:Nat}{U:List bq}{s:St}{J:Fr}{a:Act}(f:c7 N U s J a):∀{rs:List ResultVar}{ds:List D},Fs T J rs=O ds ->
  ∃vs,cU U s vs ds/\∀w,(∀b o u,s.M b o=O u->w.cell? ⟨b,o,af⟩=O u)->(rs.mapM (je a)).run P w=Result.ok vs w/\∀es,∀e∈(rs.mapM (je a)).events P w es,e∈es∨∃b o u,e=⟨.cell ⟨b,o,af⟩,ae,ae⟩/\s.M b o=O u
 |[],ds,h=>by cases h;exact⟨[],an,λw _=>⟨by simp,λes e l=>.inl (by simpa using l)⟩⟩
 |.tmp t::r,ds,h=>by
  simp only[Fs]at h;cases K:Fs T J r with
  |none=>grind
  |some q =>
   simp[K]at h;subst h;obtain⟨vs,Z,Y⟩:=Ft hT f K;refine⟨a.tmps.getD t ai::vs,⟨f.ff t,Z⟩,λw p=>?_⟩;obtain⟨k1,k2⟩:=Y w p;refine⟨by simp only[ov,cf,je,dN,cA,k1],λes e l=>k2 es e ?_⟩;simpa[ov,je,k1]using l
 |.cell ad t::r,ds,h=>by
  simp only[Fs]at h;cases K:Fs T J r with
  |none=>grind
  |some q =>
   simp only[K]at h;have hs:=f.ff ad;generalize look J ad=x at h hs;split at h
   case h_2=>cases h
   rename_i cs;cases hi:bY T t with
   |none=>grind
   |some i =>
    simp only[hi]at h;cases k:nW i (cs.map A.c)with
    |none=>grind
    |some e0 =>
     simp[k]at h;subst h;obtain⟨vs,Z,Y⟩:=Ft hT f K;have F:=gG hs;generalize Q:a.tmps.getD ad ai=vx at F;cases F;rename_i b off g ab Qs;let y:=(bl (V cs)).map g;have E:fD U s y (cs.map A.c):=by
      have key:∀(n:Nat) (ds:List C),(∀j c,ds[j]?=O c->Rd s.M (g (n+j)) c)->fD U s ((bl (V ds)).map λj=>g (n+j)) (ds.map A.c):=by
       intro n ds;induction ds generalizing n with
       |nil=>intro _;trivial
       |cons d ds ih =>
        intro hd;rw[eU,zU];refine⟨hd 0 d aK,?_⟩;have:=ih (n+1) (λj c m=>by have:=hd (j+1) c az;grind);grind[Function.comp_def]
      have:=key 0 cs az;grind
     have AK:∀(j:Nat) (v:ah),y[j]?=O v->s.M b (off+j)=O v:=λj v m=>by
      simp only[y,qn]at m;by_cases z:j<V cs
      .simp[z]at m;subst m;exact ab j cs[j] (bD z)
      grind
     let w0:aB:={s.w with heap:=s.w.heap}
     have aa:∃v,qF U s v e0/\∀w,(∀b o u,s.M b o=O u->w.cell? ⟨b,o,af⟩=O u)->(loadVar t ⟨b,off,af⟩).run P w=.ok v w:=by
      have hg:=hT t i hi;cases S:i.agg<;>simp only[nW,S]at k
      .cases B:eH 0 (cs.map A.c)with
       |none=>grind
       |some a0 =>
        simp[B]at k;subst k;obtain⟨v,hv,hra⟩:=E.get (cD B);refine⟨v,hra,λw p=>?_⟩;have:=p _ _ _ (AK 0 v hv);simp only[loadVar,cf,hg.mG,cA,S];grind[run_load]
      cases B:sC i.size (cs.map A.c)with
      |none=>grind
      |some r0 =>
       simp[B]at k;subst k;obtain⟨q1,q2⟩:=qR B;have H:=E.take i.size;rw[<-q1]at H;have hl:V (y.take i.size)=i.size:=az;refine⟨.agg (y.take i.size).toArray,⟨y.take i.size,aK,H⟩,λw p=>?_⟩;have G:=run_loadCells_list (P:=P) w ⟨b,off,af⟩ (y.take i.size) (λj v m=>by grind[eg]);rw[hl]at G;simp only[loadVar,cf,hg.mG,cA,S];simp[hg.b6,G]
     obtain⟨v,R,ak⟩:=aa;refine⟨v::vs,⟨R,Z⟩,λw p=>?_⟩;obtain⟨k1,k2⟩:=Y w p;have L:(je a (.cell ad t))=loadVar t ⟨b,off,af⟩:=by simp[je,Q,asAddr]
     refine⟨by grind[Go.Sem.run_bind,Go.Sem.run_pure,Go.Result.andThen_ok],λes e l=>?_⟩;rw[ov,L]at l;simp only[aM,ak w p,aP,k1,bG]at l;rcases k2 _ e l with l|l
     .rcases Ks l with l|l
      .grind
      obtain⟨j,m,rfl⟩:=jR (hT t i hi) (w:=w) (n:=V cs) (λj m=>⟨g j,p _ _ _ (ab j cs[j] (bD m))⟩) (by have:=oZ k;grind) e l;exact .inr ⟨b,off+j,g j,aK,ab j cs[j] (bD m)⟩
     grind
theorem Fq.ofT(hT:dA P T){fn:Func}{ds:List D}{d:D}(h:Fs T J fn.results.toList=O ds)(hj:wS ds=O d):Fq P fn J d:=by
 intro N U s a f;obtain⟨vs,h1,h2⟩:=Ft hT f h;refine⟨_,HH hj h1,λw i=>?_⟩;obtain⟨k1,j⟩:=h2 w i;have e1:(fn.results.mapM (je a)).run P w=Result.ok vs.toArray w:=Zl;have e2:∀es,∀e∈(fn.results.mapM (je a)).events P w es,e∈es∨∃b o u,e=⟨.cell ⟨b,o,af⟩,ae,ae⟩/\s.M b o=O u:=by rw[EU];intro es e c;exact j es e (by simpa using c)
 constructor
 .unfold results;rw[cf];refine(et (λr=>Result.andThen r _) (Eq.trans ?_ e1)).trans ?_
  .congr 2
  simp
 intro e c;have g:e∈(fn.results.mapM (je a)).events P w #[]:=by unfold results at c;rw[aM]at c;change e∈((fn.results.mapM (je a)).run P w).evThen ((fn.results.mapM (je a)).events P w #[]) _ at c;rw[e1]at c;simpa using c
 grind
section
variable {X:Cx P}
def Ow(T:List (Nat×TI))(rs:List ResultVar)(ks:List Nat)(J:Fr)(res:D):Option (List Prop) :=
 match Fs T J rs with
 |some ds=>match wS ds with
  |some d=>match C7 (V ks) res with
   |true=>J8 d (ky ks res)
   |false=>af
  |none=>af
 |none=>af
def I.tq(hT:dA P T){fn:Func}{a:Nat}{res:D}(ks:List Nat)(h:Ow T fn.results.toList ks J res=O ps)(c:aA ps)(d:l6 ks U=O U')(b:mI U'=W)(e:fa ks=W)(hk:∀j,j<a->ks[j]?=O j):
  I X N (vv P fn a res U') (.code .ret::K) .normal J U:=by refine I.ret ⟨.inl Z,ks,?_⟩;unfold Ow at h;grind[Fq.ofT]
def Ev.tu{f:aO}{fn:Func}{args:List D}{res:D}(d:P.funcs[f]?=O fn)(a:(fn.name== "runtime.NumGoroutine")=ae)(hb:fn.body=O c)(b:bP args.length fn.ntmps=W)(h:vA args U->I X fn.ntmps (vv P fn U.length res U') [.code c] .normal (lu 0 args) U):Ev X f args U res U':=by refine⟨⟨fn,d,a,by grind⟩,λs vs hr hh=>?_⟩;have:=e9.RS (X:=X) (ι:=Unit) (U':=λ_=>U') (res:=λ_=>res) d a hb (fY b) (AW.mono (I.dX (h ⟨s,vs,hr,hh⟩)) λ_ _ _ q=>⟨(),q⟩);exact this.KA.2 s vs hr hh
def cM.mk{fn:Func}{a:Nat}{res:D}(ks:List Nat)(h:Fu fn.results.toList ks J res=O ps)(c:aA ps)(d:l6 ks U=O U')(b:mI U'=W)(e:fa ks=W)(hk:∀j,j<a->ks[j]?=O j):cM fn a res U' .ret J U:=by refine⟨.inl Z,ks,?_⟩;unfold Fu at h;grind
end
def Oj{X:Cx P}{b:bd}{k:List Item}{a:Act}{rest:List Nat}{f:aO}(z:b.kind≠.early)(ho:ops[i]?=O o)(A:bn o (yielded ops a.tmps)=W)(y:aH U s)(p:∀w,(ar a.eval o).run P w=.ok (.enter f vs.toArray) w)(n:∀w,(ar a.eval o).events P w #[]=#[])(r:e9 X f cR U res σ1)(l:cU U s vs cR)(h:∀j v s',ey (σ1 j) s' v (res j)->aH (σ1 j) s'->dE U s (σ1 j) s'->ia X S (G (b.aT (a.put o.dst v) (.inRegion ops rest::k)) cs) s'):
  ia X S (G (b.aT a (.inRegion ops (i::rest)::k)) cs) s:=by
 obtain⟨_,e⟩:=r;refine .next Z λx u=>?_;have t:=X.kq u;have m:=y.rely t;have d:cU U x vs cR:=l.mono t.db.ext y.len;refine⟨_,x,_,qK ho A z (p x.w),?_,e _ vs d m S _ λj C v s2 hl nj J7 pA=>?_⟩
 .refine⟨⟨U,U,m,m,.refl _ _⟩,gA.seen ?_⟩;rw[n];exact .nil
 refine qL (cs:=cs) (c:=b.aT a (.inRegion ops (i::rest)::k)) J7 hl λB g=>?_;have q:=kN (b:=b) (a:=a) (k:=k) ops i rest v;rw[ho]at q;simp only[oP]at q;rw[q];exact h j v B (nj.mono g.db.ext J7.len) (J7.rely g) (t.db.trans (pA.trans g.db))
def I.MM{X:Cx P}{f:aO}(n:e9 X f cR U res σ1)(D:o.guard=af)(ho:o.op=.call {callee:=.value fo,args:=xs,argTypes:=lh})(x:fV (ck J fo)=O (f,cap))(l:zv (xs.toList.map (ck J)++iq cap) cR=O ps)(y:aA ps)(H:g7 N o.dst=W)(k:∀j,I X N Qf (.ops all rest::K) .normal (lU o.dst (res j) J) (σ1 j)):I X N Qf (.ops all (o::rest)::K) .normal J U:=by
 intro s a e hh b kk cs S idx hb jb hQ;cases idx with
 |nil=>exact jb.elim
 |cons i idx =>
 obtain⟨hi,jb⟩:=jb;have r:=dz e fo;unfold fV at x;split at x
 case h_2=>cases x
 case h_1 f' RB he =>
  cases x;rw[he]at r;have h:=gG r;generalize F:a.eval fo=fv at h;cases h with
  |fn fs pE hl He f1 f2 h1 h2 r1 r2 =>
   have C:fs=[]:=kB hl;subst C;have m:cU U s pE (iq cap):=oS (λj c hj=>⟨f2 j,h2 j az,r2 j c hj⟩) He;have u:cU U s (xs.toList.map a.eval++pE) cR:=wL l y ((mU (dz e) xs.toList).append m);obtain⟨fn,p,g,d⟩:=n.1;refine Oj hb hi (eE D) hh (λw=>(j7 ho p g d F w).1) (λw=>(j7 ho p g d F w).2) n u λj v s' hr lj st=>?_;refine k j s' _ ?_ lj b kk cs S idx hb jb λL E M a3 q AK G z=>hQ L E M a3 q AK G (st.trans z);have A:=iB H;cases B:o.dst with
   |none=>exact e.mono st hh.len
   |some t=>exact(e.mono st hh.len).put (A t B) hr
def Nt{α:Type}{l:Nat}{x:α}:∀{ks:List Nat}{a r:List α},l6 ks a=O r->l∉ks->l6 ks (a.set l x)=O r
 |[],a,r,h,_=>h
 |k::ks,a,r,h,b=>by
  simp only[eQ,not_or]at b;simp only[l6,g8]at h⊢;rw[mD b.1];cases hk:a[k]? with
  |none=>simp[hk]at h
  |some y =>
   simp only[hk]at h⊢;cases c:l6 ks a with
   |none=>simp[c]at h
   |some q=>rw[Nt c b.2];simp only[c]at h;exact h
def Ic{k:Nat}{l:List Nat}(h:kz k l=ae):k∉l:=λhk=>by rw[Af hk]at h;cases h
def oR:Option (Tmp×E1)->List ResultVar
 |none=>[]
 |some q=>[.tmp q.1]
def oD(cs:List A):Option (Tmp×E1)->D
 |none=>.e (.agg cs)
 |some q=>.gI [.agg cs,q.2]
def Ta(T:List (Nat×TI))(fn:Func)(a:Nat)(res:D)(U':List bq):Post:=λe J σ1 =>
 (e=.ret∨e=.normal)/\∃ks l E cs t ty it ps,∃o:Option (Tmp×E1),(∀q,o=O q->look J q.1=.e q.2)/\fn.results.toList=.cell t ty::oR o/\bY T ty=O it/\it.agg=W/\V cs=it.size/\look J t=cE l 0/\σ1[l]?=O (.cells E cs)/\l∉ks /\
  J8 (oD cs o) (ky ks res)=O ps/\aA ps/\C7 (V ks) res=W/\l6 ks σ1=O U'/\mI U'=W/\fa ks=W/\(∀j,j<a->ks[j]?=O j)
def e9.ab0{X:Cx P}(hT:dA P T){f:aO}{fn:Func}{args:List D}{U':ι->List bq}(hf:P.funcs[f]?=O fn)(ab:(fn.name== "runtime.NumGoroutine")=ae)(hb:fn.body=O c)(hlen:args.length<=fn.ntmps)(h:∀s a,c7 fn.ntmps U s (lu 0 args) a->aH U s->∀(b:bd) (k:List Item) (cs:List bd) (S:au->St->Prop),b.kind≠.early->b.roundOf=af ->
  (∀e J' σ1 s' a',(∃j,Ta T fn (V U) (res j) (U' j) e J' σ1)->c7 fn.ntmps σ1 s' J' a'->aH σ1 s'->dE U s σ1 s'->vJ X S b k cs e a' s')->ia X S (G (b.aT a (.code c::k)) cs) s):e9 X f args U res U':=by
 refine⟨⟨fn,hf,ab,by rw[hb];rfl⟩,λs vs hr hh S cs hS=>?_⟩;obtain⟨hl,hg⟩:=cU.get hr;let b:bd:={fn:=f,tmps:=#[],todo:=[],defers:=[],mode:=.run,kind:=.normal,roundOf:=af}
 have H:Frame.enter P f vs.toArray .normal=b.aT {tmps:=vs.toArray++Array.replicate (fn.ntmps-vs.toArray.size) ai,defers:=[]} [.code c]:=by simp[Frame.enter,Frame.aT,hf,hb,b]
 rw[H];refine h s {tmps:=vs.toArray++Array.replicate (fn.ntmps-vs.toArray.size) ai,defers:=[]} ⟨by simp;omega,⟨[],an⟩,λt=>?_⟩ hh b [] cs S AH rfl ?_
 .rw[rU];simp only[kn,cv,pQ];have:=hg t;rcases dy t (V vs) with xZ|hge
  .have e:(vs.toArray++Array.replicate (fn.ntmps-vs.toArray.size) ai).getD t ai=(vs[t]?).getD ai:=ME;rw[e];exact this
  rw[rM aq];trivial
 .rintro e J' U0 s0 a1 ⟨jj,he,ks,l,E,rcs,t,ty,it,ps,o,q0,q1,q2,q3,q4,q5,q6,q7,h3,h4,h5,h6',h7',h8,h9⟩ f0 h0 st0;obtain⟨h7,h7n⟩:=DW h7';have A:=f0.ff t;rw[q5]at A;obtain⟨_,L,bb,p,hLv,ai1⟩:=A;obtain⟨b2,d,hLe,aa,hrv,hM⟩:=h0.box l _ L q6 p;subst hLe;cases hLv;let M':Mem:=λm o=>if m=bb then d[o]? else s0.M m o;have al9:∀o v,d[o]?=O v->s0.w.cell? ⟨bb,o,af⟩=O v:=λo v ho=>by simpa[a9,aa]using ho
  have hmm:∀m o v,s0.M m o=O v->M' m o=O v:=λm o v hv=>by grind
  have hcM:∀m o v,M' m o=O v->s0.w.cell? ⟨m,o,af⟩=O v:=λm o v hv=>by
   by_cases e:m=bb
   .grind
   simp only[M',e,cC]at hv;exact h0.mem m o v hv
  obtain⟨h',F⟩:=h0.iA (M':=M') (w':=s0.w) (B':=.cg) (L':=⟨.pointer (O ⟨bb,0,af⟩),[]⟩) q6 p rfl (bm _) (λ_ _ _=>rfl) (λm _ R o=>by grind) hmm hcM ay rfl rfl rfl an
  have hG0:gn s0 ⟨s0.β.set l ⟨.pointer (O ⟨bb,0,af⟩),[]⟩,M',s0.w,s0.own⟩:=⟨rfl,hmm,λm R o=>by
   have:m≠bb:=by rintro rfl;exact R _ (b9 p) ay
   simp only[M',this,cC],hcM,λm R=>by grind⟩
  have f':c7 fn.ntmps (U0.set l .cg) ⟨s0.β.set l ⟨.pointer (O ⟨bb,0,af⟩),[]⟩,M',s0.w,s0.own⟩ J' a1:=⟨f0.size,f0.defers.imp λ_ h1=>h1.mono F.ext,λu=>(f0.ff u).mono F.ext h0.len⟩
  have h6:=Nt (x:=bq.cg) h6' q7;have Z:fD (U0.set l .cg) ⟨s0.β.set l ⟨.pointer (O ⟨bb,0,af⟩),[]⟩,M',s0.w,s0.own⟩ d rcs:=hrv.mono F.ext h0.len;have st:=st0.trans (F.pC h0);let ak:ah:=match o with|none=>.agg d.toArray|some q=>.tuple #[.agg d.toArray,a1.tmps.getD q.1 ai]
  have K:∀w,(∀b o u,M' b o=O u->w.cell? ⟨b,o,af⟩=O u)->(results fn a1.tmps).run P w=.ok ak w/\∀e∈(results fn a1.tmps).events P w #[],∃b o u,e=⟨.cell ⟨b,o,af⟩,ae,ae⟩/\M' b o=O u:=by
   intro w hw;have N:=hT ty it q2;have hrl:V d=it.size:=by rw[hrv.QA,q4]
   have WE:∀j v,d[j]?=O v->w.cell? ⟨bb,0+j,af⟩=O v:=λj v hj=>hw _ _ _ az;have hld:=run_loadCells_list (P:=P) w ⟨bb,0,af⟩ d (λj v hj=>by rw[eg];exact WE j v hj);rw[hrl]at hld;have Om:(loadVar ty ⟨bb,0,af⟩).run P w=.ok (.agg d.toArray) w:=by simp only[loadVar,cf,N.mG,cA,q3];simp[N.b6,hld]
   have Y:fn.results=(ResultVar.cell t ty::oR o).toArray:=by apply Array.ext';simpa using q1
   have J:asAddr (a1.tmps[t]?.getD ai)=(pure ⟨bb,0,af⟩:Sem Addr):=by rw[<-gi,ai1];rfl
   refine⟨by cases o<;>simp[results,Y,J,Om,ak,oR],λe he=>?_⟩;have he':e∈(loadVar ty ⟨bb,0,af⟩).events P w #[]:=by cases o<;>simpa[results,Y,J,Om,oR]using he
   obtain⟨j,hj,rfl⟩:=jR N (w:=w) (n:=V d) (λj hj=>⟨_,WE j d[j] (bD hj)⟩) (by rw[q3,hrl];simp) e he';exact⟨bb,0+j,d[j],rfl,by grind⟩
  have fin:∀(fr:bd) s2,cK (⟨s0.β.set l ⟨.pointer (O ⟨bb,0,af⟩),[]⟩,M',s0.w,s0.own⟩:St) s2->fr.fn=f->fr.tmps=a1.tmps->fr.defers=a1.defers->fr.mode=.returning->fr.kind=.normal->ia X S (G fr cs) s2:=by
   intro fr s2 wm e1 e2 e3 e4 e5;have f2:=f'.rely wm h';have z:=h'.rely wm;have g:=st.trans wm.db;have r2:ey (U0.set l .cg) s2 ak (oD rcs o):=by
    have hr3:=Z.mono wm.db.ext h'.len;cases o with
    |none=>exact⟨d,rfl,hr3⟩
    |some q =>
     have hx:=f2.ff q.1;rw[q0 q rfl]at hx;exact⟨[.agg d.toArray,a1.tmps.getD q.1 ai],rfl,⟨d,rfl,hr3⟩,hx,an⟩
   obtain⟨i,AK⟩:=AR (l':=s2.β) h6 z.len;have r4:=(rV h3 h4 r2).sub h6 AK h5;obtain⟨c1,c2⟩:=kP h6;obtain⟨d1,d2⟩:=kP AK;have Q:∀L∈i,L∈s2.β:=Fp AK;have Z4:aH (U' jj) {s2 with β:=i}:=by obtain⟨g1,_⟩:=z.sub h6 AK h7 h8;refine⟨g1.mem,g1.len,λj B L hB p=>?_,g1.gY,g1.lt,λb hb=>⟨(z.own b hb).1,λL p=>(z.own b hb).2 L (Q L p)⟩⟩;exact gb.plain (U:=U' jj) (s:={s2 with β:=i,own:=AV s2 i}) (s':={s2 with β:=i}) rfl rfl (nv h7 B (b9 hB)) (g1.box j B L hB p)
   have st3:dE U s (U' jj) {s2 with β:=i}:=by refine⟨g.size,g.keep,g.mem,g.lJ,λL p b hb=>g.Ab _ (Q L p) b hb,λl B L hB p=>?_,g.os,g.tape,g.output,g.own⟩;have hl:l<V U:=(cO.1 hB).1;obtain⟨B',L',p1,p2,p3⟩:=g.box l B L hB p;grind
   obtain⟨ls,hls⟩:=f2.defers;refine vE ls fr s2 _ z.mV az e4 (by rw[e3];exact hls.R0 z) λs3 r=>?_;have C:cK {s2 with β:=i} {s3 with β:=i}:=by
    refine⟨rfl,r.M,r.own,r.size,λb hb=>r.keep b (hb.imp id ?_),r.mem,r.os,r.tape,r.output⟩;rintro⟨L,p,hb⟩;obtain⟨j,hj,rfl⟩:=gM p;have hj':j<V ks:=by rw[<-d1];exact hj
    obtain⟨y,y1,y2⟩:=d2 j _ (bD hj');obtain⟨x,x1,x2⟩:=c2 j _ (bD hj');rw[bD hj]at y1;cases y1;refine⟨_,_,y2,λhc=>?_,hb⟩;rw[hls.HZ _ hc]at x2;cases x2;exact qU h7n _ (b9 x1) rfl
   have hG:gn s3 {s3 with β:=i}:=⟨rfl,λ_ _ _ h=>h,λ_ _ _=>rfl,λb o v hv=>r.mem b o v (by rw[<-r.M];exact hv),λb hb=>hb.imp id λ⟨L,p,hb⟩=>⟨L,by rw[r.β];exact Q L p,hb⟩⟩
   have hM2:s2.M=M':=wm.M;refine .c8 hG (hS jj _ ak _ ⟨e1,e4,rfl,e5,fn,by grind,λw hw=>?_⟩ (r4.mono C.db.ext Z4.len) (Z4.rely C) (st3.trans C.db));show(results fn fr.tmps).run P w=_/\∀e∈(results fn fr.tmps).events P w #[],_;rw[e2];have hw':∀b o u,M' b o=O u->w.cell? ⟨b,o,af⟩=O u:=λb o u h=>hw b o u (by show s3.M b o=O u;rw[r.M,hM2];exact h);refine⟨(K w hw').1,λe he=>?_⟩;obtain⟨b,o,u,q1,q2⟩:=(K w hw').2 e he;exact⟨b,o,u,q1,by show s3.M b o=O u;rw[r.M,hM2];exact q2⟩
  rcases he with rfl|rfl
  .intro pre;exact .c8 hG0 (.ctl h' rfl (λ_=>Ku rfl) λs2 wm=>fin _ s2 wm rfl rfl (iZ _) rfl rfl)
  exact .c8 hG0 (.ctl h' rfl (λ_=>Kv rfl) λs2 wm=>fin _ s2 wm rfl rfl (iZ _) rfl rfl)
def e9.tu{X:Cx P}(hT:dA P T){f:aO}{fn:Func}{args:List D}{U':ι->List bq}(i:P.funcs[f]?=O fn)(d:(fn.name== "runtime.NumGoroutine")=ae)(hb:fn.body=O c)(g:bP args.length fn.ntmps=W)(h:vA args U->I X fn.ntmps (λe J σ1=>∃j,Ta T fn U.length (res j) (U' j) e J σ1) [.code c] .normal (lu 0 args) U):e9 X f args U res U':=by refine⟨⟨fn,i,d,by rw[hb];rfl⟩,λs0 vs hr Wa=>?_⟩;have:=e9.ab0 (X:=X) (U':=U') (res:=res) hT i d hb (fY g) λs a f hh b k cs S hk _ l=>(show AW X fn.ntmps c _ (lu 0 args) U from I.dX (h ⟨s0,vs,hr,Wa⟩)) s a f hh b k cs S hk l;exact this.2 s0 vs hr Wa
def fD.set{U:List bq}{s:St}{a:A}{v:ah}:∀{vs:List ah}{cs:List A}{j:Nat},fD U s vs cs->vs[j]?=O v->jh U s v a->fD U s vs (cs.set j a)
 |[],[],_,_,h,_=>by grind
 |[],_::_,_,h,_,_=>h.elim
 |_::_,[],_,h,_,_=>h.elim
 |u::vs,c::cs,0,h,d,b=>by simp at d;subst d;exact⟨b,h.2⟩
 |u::vs,c::cs,j+1,h,d,b=>⟨h.1,fD.set h.2 az b⟩
section
variable {X:Cx P}
def I.iQ(l j:Nat)(E k:Nat)(es':Nat->List C){E0:av}{cs:List A}{k':Nat}{y:Nat->List C}(hl:eH l U=O (.cells E0 cs))(hj:eH j cs=O (.c (.sl W k' 0 y)))(kk:I X N Qf (.code c::K) .normal J ((U++[bq.dk E k 0 es']).set l (.cells E0 (cs.set j (.dk (V U) k 0 es'))))):I X N Qf (.code c::K) .normal J U:=by
 refine I.c8 (λs a q hh=>?_) kk;have hB:=cD hl;have H:=cD hj;have G:l<V U:=(cO.1 hB).1;have f:l<V s.β:=nh;have D:=bD f;generalize s.β[l]=L at D;obtain⟨b,vs,p,d,o,Q⟩:=hh.box l _ L hB D;obtain⟨v,aa,S⟩:=o.get H;have h1:Rd s.M v (.sl W k 0 es'):=(Rd.Fa (k:=k') (k':=k) (.inr Z) S).Kp λi hi=>by omega
 have z:gb (U++[bq.dk E k 0 es']) {s with β:=s.β++[⟨v,[]⟩]} (.dk E k 0 es') ⟨v,[]⟩:=⟨h1.AI,.inl ⟨⟨rfl,rfl⟩,h1⟩⟩;obtain⟨F,g2⟩:=hh.jQ (.refl _ _) rfl hh z ay
 have r:(U++[bq.dk E k 0 es'])[l]?=O (.cells E0 cs):=az;have x:(s.β++[(⟨v,[]⟩:Loc)])[l]?=O L:=az;have n:(s.β++[(⟨v,[]⟩:Loc)]).set l L=s.β++[⟨v,[]⟩]:=tf;have t:ji (.cells E0 cs) L (.cells E0 (cs.set j (.dk (V U) k 0 es'))) L:=rfl;have R:V U≠l:=aq;have m:gb ((U++[bq.dk E k 0 es']).set l (.cells E0 (cs.set j (.dk (V U) k 0 es')))) ⟨(s.β++[(⟨v,[]⟩:Loc)]).set l L,s.M,s.w,s.own⟩ (.cells E0 (cs.set j (.dk (V U) k 0 es'))) L:=by
  rw[n];refine⟨b,vs,p,d,?_,Q⟩;have ex:sM (U++[bq.dk E k 0 es']) {s with β:=s.β++[⟨v,[]⟩]} ((U++[bq.dk E k 0 es']).set l (.cells E0 (cs.set j (.dk (V U) k 0 es')))) {s with β:=s.β++[⟨v,[]⟩]}:=by
   refine⟨λ_ _ _ h=>h,λi B L' mT im=>?_⟩;by_cases e:l=i
   .grind
   exact⟨B,L',by grind,im,.refl _ _⟩
  have g:fD (U++[bq.dk E k 0 es']) {s with β:=s.β++[⟨v,[]⟩]} vs cs:=o.mono g2.ext hh.len;refine fD.set (g.mono ex F.len) aa ?_;refine⟨h1.AI,by simp,λE2 k2 n2 Kq h=>?_⟩;rw[mD aq,iy aq,Nat.sub_self]at h;cases h;refine⟨bm _,λ_=>⟨⟨v,[]⟩,?_,Z⟩⟩;simp[<-hh.len]
 obtain⟨AK,q2⟩:=F.iA (M':=s.M) (w':=s.w) (L':=L) r x t (bm _) (λ_ _ _=>rfl) (λ_ _ _ _=>rfl) (λ_ _ _ h=>h) hh.mem (λb hb=>⟨.inl hb,hh.lt L (b9 D) b hb⟩) rfl rfl rfl m;have st:=g2.trans q2;exact⟨⟨(s.β++[(⟨v,[]⟩:Loc)]).set l L,s.M,s.w,s.own⟩,Z,⟨q.size,q.defers.imp λ_ h1=>h1.mono st.ext,λu=>(q.ff u).mono st.ext hh.len⟩,AK,st⟩
end
section
variable {X:Cx P}
def I.Xz(t:Nat)(E k:Nat)(es':Nat->List C){k':Nat}{d:Nat->List C}(g:look J t=b7 (.sl W k' 0 d))(kk:I X N Qf (.code c::K) .normal ((t,mE (V U) (.sl 0 k 0 0))::J) (U++[.eX E k 0 es'])):I X N Qf (.code c::K) .normal J U:=by
 refine I.c8 (λs a b hh=>?_) kk;have f:=b.ff t;rw[g]at f;obtain⟨h,g2⟩:=hh.jQ (B:=.eX E k 0 es') (L:=⟨.slice af 0 0,[]⟩) (.refl _ _) rfl hh (.inl ⟨rfl,rfl⟩) ay;refine⟨{s with β:=s.β++[⟨.slice af 0 0,[]⟩]},rfl,⟨b.size,b.defers.imp λ_ h1=>h1.mono g2.ext,λu=>?_⟩,h,g2⟩;simp only[look];cases hb:aC t u with
 |false=>exact(b.ff u).mono g2.ext hh.len
 |true =>
  have e:=dH hb;subst e;exact Aa (E:=E) (es:=es') (gG f) ay Hm
def I.tO(l j:Nat)(E k:Nat)(es':Nat->List C){E0:av}{cs:List A}{k':Nat}{D:Nat->List C}(hl:eH l U=O (.cells E0 cs))(hj:eH j cs=O (.c (.sl W k' 0 D)))(kk:I X N Qf (.code c::K) .normal J ((U++[bq.eX E k 0 es']).set l (.cells E0 (cs.set j (.bp (V U) (.sl 0 k 0 0)))))):I X N Qf (.code c::K) .normal J U:=by
 refine I.c8 (λs a r hh=>?_) kk;have hB:=cD hl;have AK:=cD hj;have H:l<V U:=(cO.1 hB).1;have g:l<V s.β:=nh;have F:=bD g;generalize s.β[l]=L at F;obtain⟨b,vs,q,f,p,R⟩:=hh.box l _ L hB F;obtain⟨v,Q,T⟩:=p.get AK;let d:Loc:=⟨.slice af 0 0,[]⟩
 obtain⟨G,g2⟩:=hh.jQ (B:=.eX E k 0 es') (L:=d) (.refl _ _) rfl hh (.inl ⟨rfl,rfl⟩) az;have t:(U++[bq.eX E k 0 es'])[l]?=O (.cells E0 cs):=az;have z:(s.β++[d])[l]?=O L:=az;have o:(s.β++[d]).set l L=s.β++[d]:=tf;have y:ji (.cells E0 cs) L (.cells E0 (cs.set j (.bp (V U) (.sl 0 k 0 0)))) L:=rfl;have n:gb ((U++[bq.eX E k 0 es']).set l (.cells E0 (cs.set j (.bp (V U) (.sl 0 k 0 0))))) ⟨(s.β++[d]).set l L,s.M,s.w,s.own⟩ (.cells E0 (cs.set j (.bp (V U) (.sl 0 k 0 0)))) L:=by
  rw[o];refine⟨b,vs,q,f,?_,R⟩;have ex:sM (U++[bq.eX E k 0 es']) {s with β:=s.β++[d]} ((U++[bq.eX E k 0 es']).set l (.cells E0 (cs.set j (.bp (V U) (.sl 0 k 0 0))))) {s with β:=s.β++[d]}:=by
   refine⟨λ_ _ _ h=>h,λi B L S x=>?_⟩;by_cases e:l=i
   .grind
   exact⟨B,L,by grind,x,.refl _ _⟩
  have m:fD (U++[bq.eX E k 0 es']) {s with β:=s.β++[d]} vs cs:=p.mono g2.ext hh.len;exact fD.set (m.mono ex G.len) Q (Aa (E:=E) (es:=es') T az (by simp[<-hh.len,d]))
 obtain⟨aa,q2⟩:=G.iA (M':=s.M) (w':=s.w) (L':=L) t z y (bm _) (λ_ _ _=>rfl) (λ_ _ _ _=>rfl) (λ_ _ _ h=>h) hh.mem (λb hb=>⟨.inl hb,hh.lt L (b9 F) b hb⟩) rfl rfl rfl n;have st:=g2.trans q2;exact⟨⟨(s.β++[d]).set l L,s.M,s.w,s.own⟩,Z,⟨r.size,r.defers.imp λ_ h1=>h1.mono st.ext,λu=>(r.ff u).mono st.ext hh.len⟩,aa,st⟩
end
def qT:Nat->(Nat->List C)->Nat->List C
 |0,es=>es
 |o+1,es=>nY (o+1) es
def Ag(o:Nat)(es:Nat->List C)(i:Nat):qT o es i=es (o+i):=by cases o<;>simp[qT,nY]
def Gb(l k n:Nat)(es:Nat->List C)(a:A):Option (A×List Prop):=match Ov l a with
 |true=>O (a,[])
 |false=>match a with
  |.bp l' (.sl g k' o m)=>match aC l' l,aC k' k with
   |true,W=>O (.c (.sl ae k m (qT o es)),[g=n,o+m<=n])
   |_,_=>af
  |_=>af
def Gc(l k n:Nat)(es:Nat->List C):List A->Option (List A×List Prop)
 |[]=>O ([],[])
 |a::r=>match Gb l k n es a with
  |some (a',p)=>match Gc l k n es r with
   |some (r',q)=>O (a'::r',mH p q)
   |none=>af
  |none=>af
def BD(l k n:Nat)(es:Nat->List C):E1->Option (E1×List Prop)
 |.bX a=>match Gb l k n es a with|some (a,p)=>O (.bX a,p)|none=>af
 |.agg cs=>match Gc l k n es cs with|some (cs,p)=>O (.agg cs,p)|none=>af
def Ap(l k n:Nat)(es:Nat->List C):List E1->Option (List E1×List Prop)
 |[]=>O ([],[])
 |a::r=>match BD l k n es a with
  |some (a',p)=>match Ap l k n es r with
   |some (r',q)=>O (a'::r',mH p q)
   |none=>af
  |none=>af
def BE(l k n:Nat)(es:Nat->List C):D->Option (D×List Prop)
 |.e x=>match BD l k n es x with|some (x,p)=>O (.e x,p)|none=>af
 |.gI xs=>match Ap l k n es xs with|some (xs,p)=>O (.gI xs,p)|none=>af
 |.any=>O (.any,[])
section
variable {σ1:List bq}{s2:St}{E k:Nat}
structure pb(σ1:List bq)(E k n:Nat)(es:Nat->List C)(s s2:St):Prop where
 keep:∀v a,jh (σ1++[.eX E k n es]) s v a->Ov (V σ1) a=W->jh σ1 s2 v a
 RX:∀v k' o m,jh (σ1++[.eX E k n es]) s v (.bp (V σ1) (.sl n k' o m))->k'=k->o+m<=n->Rd s2.M v (.sl ae k m (qT o es))
def pb.a(h:pb σ1 E k n es s s2){v:ah}{a a':A}{ps:List Prop}(b:Gb (V σ1) k n es a=O (a',ps))(d:aA ps)(r:jh (σ1++[.eX E k n es]) s v a):jh σ1 s2 v a':=by
 unfold Gb at b;split at b
 .rename_i c;cases b;exact h.keep v a r c
 split at b
 .rename_i l' g k' o m _;split at b
  .rename_i e1 e2;cases b;have e1:=dH e1;have e2:=dH e2;subst e1 e2;obtain⟨rfl,h2⟩:g=n/\o+m<=n:=d;exact h.RX v _ _ _ r Z h2
  grind
 grind
def pb.cl(h:pb σ1 E k n es s s2):∀{vs:List ah}{cs pE:List A}{ps:List Prop},Gc (V σ1) k n es cs=O (pE,ps)->aA ps->fD (σ1++[.eX E k n es]) s vs cs->fD σ1 s2 vs pE
 |[],[],_,_,b,_,_=>by cases b;trivial
 |[],_::_,_,_,_,_,r=>r.elim
 |_::_,[],_,_,_,_,r=>r.elim
 |v::vs,c::cs,pE,ps,b,d,r=>by
  simp only[Gc]at b;split at b
  .rename_i a' p h1;split at b
   .rename_i r' q h2;cases b;rw[aA.eu]at d;exact⟨h.a h1 d.1 r.1,h.cl h2 d.2 r.2⟩
   grind
  grind
def pb.e(h:pb σ1 E k n es s s2){x c:E1}(b:BD (V σ1) k n es x=O (c,ps))(d:aA ps)(r:qF (σ1++[.eX E k n es]) s v x):qF σ1 s2 v c:=by
 cases x with
 |bX a =>
  simp only[BD]at b;split at b
  .rename_i a' p h1;cases b;exact h.a h1 d r
  grind
 |agg cs =>
  simp only[BD]at b;split at b
  .rename_i a' p h1;cases b;obtain⟨vs,g,f⟩:=r;exact⟨vs,g,h.cl h1 d f⟩
  grind
def pb.es'(h:pb σ1 E k n es s s2):∀{vs:List ah}{cs pE:List E1}{ps:List Prop},Ap (V σ1) k n es cs=O (pE,ps)->aA ps->j4 (σ1++[.eX E k n es]) s vs cs->j4 σ1 s2 vs pE
 |[],[],_,_,a,_,_=>by cases a;trivial
 |[],_::_,_,_,_,_,r=>r.elim
 |_::_,[],_,_,_,_,r=>r.elim
 |v::vs,c::cs,pE,ps,a,b,r=>by
  simp only[Ap]at a;split at a
  .rename_i a' p h1;split at a
   .rename_i r' q h2;cases a;rw[aA.eu]at b;exact⟨h.e h1 b.1 r.1,h.es' h2 b.2 r.2⟩
   grind
  grind
def pb.d(h:pb σ1 E k n es s s2){x b:D}(a:BE (V σ1) k n es x=O (b,ps))(c:aA ps)(r:ey (σ1++[.eX E k n es]) s v x):ey σ1 s2 v b:=by
 cases x with
 |e x =>
  simp only[BE]at a;split at a
  .rename_i a' p h1;cases a;exact h.e h1 c r
  grind
 |gI xs =>
  simp only[BE]at a;split at a
  .rename_i a' p h1;cases a;obtain⟨vs,g,f⟩:=r;exact⟨vs,g,h.es' h1 c f⟩
  grind
 |any=>cases a;trivial
def aH.RX(hh:aH (σ1++[.eX E k n es]) s)(B:wV (V σ1) σ1=W):
  ∃s2:St,aH σ1 s2/\gn s s2/\pb σ1 E k n es s s2/\∀{U0:List bq} {s0:St},dE U0 s0 (σ1++[.eX E k n es]) s->U0.length<=V σ1->dE U0 s0 σ1 s2:=by
 have hB:(σ1++[bq.eX E k n es])[V σ1]?=O (.eX E k n es):=ay;have J:V s.β=V σ1+1:=by rw[hh.len];simp
 have z:s.β[V σ1]?=O s.β[V σ1]:=bD aq;generalize s.β[V σ1]=L at z;have q:=hh.box _ _ L hB z;obtain⟨M',AK,D,G,ak⟩:∃M':Mem,(∀b o v,s.M b o=O v->M' b o=O v)/\(∀b,b∉L.bs->∀o,M' b o=s.M b o)/\(∀b o v,M' b o=O v->s.w.cell? ⟨b,o,af⟩=O v) /\
   (∀v k' o m,jh (σ1++[.eX E k n es]) s v (.bp (V σ1) (.sl n k' o m))->k'=k->o+m<=n->Rd M' v (.sl ae k m (qT o es))):=by
  rcases q with⟨rfl,rfl⟩|⟨b,T,vs,zs,rfl,ab,Y,N,Q,K,hM⟩
  .refine⟨s.M,λ_ _ _ h=>h,λ_ _ _=>rfl,hh.mem,λv k' o m r e g=>?_⟩;obtain⟨lv,⟨a,a0,cap,T,l,h1,h2,aa,t,S⟩,_,C⟩:=r;grind[Rd.kF]
  let M':Mem:=λd o=>if d=b then vs[o]? else s.M d o;have H:∀d o v,s.M d o=O v->M' d o=O v:=λd o v l=>by grind
  refine⟨M',H,λd U o=>az,λd o v l=>?_,λv k' o m r e g=>?_⟩
  .by_cases e:d=b
   .subst e;simp only[M',cv]at l;simp only[a9,ab];grind
   simp only[M',e,cC]at l;exact hh.mem d o v l
  subst e;obtain⟨lv,⟨a,a0,cap,c1,l,h1,h2,aa,t,S⟩,_,C⟩:=r;obtain⟨L',f,y⟩:=(C _ _ _ _ hB).2 rfl;rw[z]at f;cases f;rw[t]at y;cases y;rw[l];have p:∀i,i<m->∀j c,(qT o es i)[j]?=O c->∃u,vs[(o+i)*k'+j]?=O u/\Rd s.M u c:=λi hi j c hj=>by rw[Ag]at hj;exact K.rd (o+i) aq j c hj
  refine .sl b (o*k') (λi j=>(vs[(o+i)*k'+j]?).getD ai) h1 aq ay (λi hi=>by rw[Ag];exact K.jy _ aq) (λhm=>az) (λi hi j c hj=>az) (λi hi j c hj=>?_);obtain⟨u,Z,R⟩:=p i hi j c hj;rw[Z];exact R.mono H
 have x:(σ1++[bq.eX E k n es]).set (V σ1) .cg=σ1++[.cg]:=ay;obtain⟨F,q2⟩:=hh.iA (M':=M') (w':=s.w) (B':=.cg) (L':=⟨L.v,[]⟩) hB z an (bm _) (λ_ _ _=>rfl) (λb _ hb o=>D b hb o) AK G ay rfl rfl rfl an;rw[x]at F q2;have q3:=F.drop (rest:=[.cg]) B;refine⟨_,q3,⟨aK,AK,λb hb o=>D b (hb L (b9 z)) o,G,λb hb=>?_⟩,⟨λv a r A=>?_,λv k' o m r e g=>ak v k' o m r e g⟩,λ{U0 s0} st hle=>(st.trans (q2.pC hh)).drop (rest:=[.cg]) hle⟩
 .rcases hb with hb|⟨L',f,hb⟩
  .exact .inl hb
  have:=hO f;grind
 exact(r.mono q2.ext hh.len).drop (rest:=[.cg]) A
end
def e9.Ny{X:Cx P}{f:aO}{args:List D}{res':ι->D}{σ1:ι->List bq}{E k:Nat}{n:ι->Nat}{es:ι->Nat->List C}(h:e9 X f args U res (λi=>σ1 i++[.eX E k (n i) (es i)])){ps:ι->List Prop}(e:∀i,BE (V (σ1 i)) k (n i) (es i) (res i)=O (res' i,ps i))(c:∀i,aA (ps i))(b:∀i,wV (V (σ1 i)) (σ1 i)=W)(a:∀i,V U<=V (σ1 i)):e9 X f args U res' σ1:=by refine⟨h.1,λs vs hr hh S cs hS=>h.2 s vs hr hh S cs λi fr v s' hl nj lj st=>?_⟩;obtain⟨s2,c1,c2,c3,c4⟩:=lj.RX (b i);exact .c8 c2 (hS i fr v s2 (hl.mono c2.mem) (c3.d (e i) (c i) nj) c1 (c4 st (a i)))
def Ev.Ny{P:aR}{X:Cx P}{f:aO}{args:List D}{U:List bq}{res res':D}{σ1:List bq}{E k n:Nat}{es:Nat->List C}(h:Ev X f args U res (σ1++[.eX E k n es])){ps:List Prop}(d:BE (V σ1) k n es res=O (res',ps))(c:aA ps)(b:wV (V σ1) σ1=W)(a:V U<=V σ1):Ev X f args U res' σ1 :=
 (e9.Ny (ι:=Unit) h.uW (λ_=>d) (λ_=>c) (λ_=>b) (λ_=>a)).KA
section
def Fx(h:o.op=.call {callee:=.builtin .clear,args:=#[x],argTypes:=#[t]})(a:aG->ah):
  ar a o=(do pure (.value (<-Builtin.clear_ #[t] o.type #[a x]))):=Zw
def RV{z:ah}{e:List C}{m k:Nat}(l:z.cells.toList.map vB=e.map O)(hk:V e=k):ku M k m (λ_=>e) (Builtin.zeroCells z.cells m).toList:=by
 have b:z.cells.size=k:=by have:=et List.length l;grind
 have h:fD [] ⟨[],M,default,λ_=>False⟩ z.cells.toList (e.map A.c):=nt l;refine⟨by simp[Builtin.zeroCells,b],λ_ _=>hk,λi hi j c q=>?_⟩;have p:j<k:=az;obtain⟨v,v1,o⟩:=h.get (j:=j) (a:=A.c c) az;refine⟨v,?_,o⟩;have g:i*k+j<m*k:=by
  have:i*k+k<=m*k:=by rw[<-pK];exact gX k hi
  omega
 have d:(i*k+j) % k=j:=by grind[Nat.add_mul_mod_self_right,Nat.mod_eq_of_lt]
 have n:j<z.cells.size:=aq;have r:z.cells[j]=v:=az;have f:z.cells[j]! = v:=az;simp[Builtin.zeroCells,b,g,d,f]
def bU.KB(hT:dA P T)(h:o.op=.call {callee:=.builtin .clear,args:=#[x],argTypes:=#[t]}){i:TI}(hi:bY T t=O i)(hd:i.desc=.slice E)(hE:bY T E=O ie){q m:Nat}{G:av}(hx:η x=mE l (.sl n ie.size q m))(hl:U[l]?=O (.eX G ie.size n es))(A:q+m<=n):
  bU P o η U .any (U.set l (.eX G ie.size n (rX q (q+m) ie.zero es))):=by
 intro s ρ hh hr;have h1:=hr x;rw[hx]at h1;change jh U s (ρ x) (.bp l _)at h1;obtain⟨lv,⟨a,a0,cap,c0,hv,hc1,hc2,hc3,J,S⟩,_,N⟩:=h1;obtain⟨L,Q,k⟩:=(N _ _ _ _ hl).2 rfl;rw[J]at k;have c:=(hT t i hi).und;rw[hd]at c;rw[Fx h,hv];by_cases hm:m=0
 .subst hm;have hz:rX q (q+0) ie.zero es=es:=by funext j;simp only[rX];grind
  have hs:U.set l (.eX G ie.size n es)=U:=tf;rw[hz,hs];refine⟨.value (.tuple #[]),s,?_,an,hh,.refl _ _,?_⟩
  .cases a<;>simp[Builtin.clear_,run_underlying c]
  intro aa g;cases a<;>simp[Builtin.clear_,run_underlying c,aM]at g
 obtain⟨b,rfl,rfl⟩:=S aq;rcases hh.box l _ L hl Q with⟨_,rfl⟩|⟨b',c1,vs,D,rfl,d,K,AK,R,Z,ak⟩
 .cases k
 cases k;obtain⟨inf,z,X,z2,z3,ab,z5,z6,z7⟩:=(hT E ie hE).C3;have r:=RV (M:=s.M) (m:=m) z5 z7;have Y:(Builtin.zeroCells z.cells m).toList.length=m*ie.size:=r.len;have hvl:=Z.len;have hb:q*ie.size+m*ie.size<=n*ie.size:=by rw[<-jP];exact gX _ A
 have q2:=Z.ad8 r A;have he:(λi=>if q<=i/\i<q+m then(λ_=>ie.zero) (i-q)else es i)=rX q (q+m) ie.zero es:=rfl;rw[he]at q2;obtain⟨t1,t2⟩:=hh.ft hl Q K AK R d q2 az ak;have f:∀v∈(Builtin.zeroCells z.cells m).toList,v.oneCell'=W:=r.cell;have p:=run_storeCells_at P b (q*ie.size) G (Builtin.zeroCells z.cells m).toList 0 (vs++D).toArray s.w d az f;have B:((vs++D).toArray.toList.take (q*ie.size+0)++(Builtin.zeroCells z.cells m).toList++(vs++D).toArray.toList.drop (q*ie.size+0+(Builtin.zeroCells z.cells m).toList.length))=vs.take (q*ie.size)++(Builtin.zeroCells z.cells m).toList++vs.drop (q*ie.size+(Builtin.zeroCells z.cells m).toList.length)++D:=az;rw[B]at p;have y:∀u,(zeroValue E).run P u=.ok z u:=λu=>by simp[zeroValue,typeInfo,X,ab]
 have H:∀u es,(zeroValue E).events P u es=es:=λu es=>by simp[zeroValue,typeInfo,X,ab,aM]
 obtain⟨F,rfl⟩:∃F,m=F+1:=⟨m-1,by omega⟩
 refine⟨.value (.tuple #[]),_,?_,an,t1,t2,?_⟩
 .simp[Builtin.clear_,run_underlying c,y,p]
 intro aa g;have C:aa∈(storeCells ⟨b,q*ie.size,af⟩ (Builtin.zeroCells z.cells (F+1)).toList).events P s.w #[]:=by simp only[Builtin.clear_,aM,j9,lH]at g;simpa[run_underlying c,y,H,p]using g
 rcases fj (Builtin.zeroCells z.cells (F+1)).toList 0 (vs++D).toArray s.w #[] d az f aa C with Wa|⟨j,_,_,rfl⟩
 .grind
 exact l4 (b9 Q) ay (ak _)
end
section
variable {X:Cx P}
theorem I.SQ{J':Fr}(h:∀s a,c7 N U s J a->aH U s->∃s':St,s'.w=s.w/\c7 N U' s' J' a/\aH U' s'/\eO U s U' s')(k:I X N Qf (.ops all rest::K) .normal J' U'):I X N Qf (.ops all rest::K) .normal J U:=by intro s a g hh b kk cs S idx hb jb hQ;obtain⟨s',j,e,d,st⟩:=h s a g hh;have c:=st.pC hh;refine .c8 (.of hh d j c) ?_;exact k s' a e d b kk cs S idx hb jb λf σ2 s2 a2 q i h2 pA=>hQ f σ2 s2 a2 q i h2 (c.trans pA)
def I.Z8(t:Nat)(E k:Nat)(es':Nat->List C){k':Nat}{d:Nat->List C}(g:look J t=b7 (.sl W k' 0 d))(kk:I X N Qf (.ops all rest::K) .normal ((t,mE (V U) (.sl 0 k 0 0))::J) (U++[.eX E k 0 es'])):I X N Qf (.ops all rest::K) .normal J U:=by
 refine I.SQ (λs a b hh=>?_) kk;have f:=b.ff t;rw[g]at f;obtain⟨h,g2⟩:=hh.jQ (B:=.eX E k 0 es') (L:=⟨.slice af 0 0,[]⟩) (.refl _ _) rfl hh (.inl ⟨rfl,rfl⟩) ay;refine⟨{s with β:=s.β++[⟨.slice af 0 0,[]⟩]},rfl,⟨b.size,b.defers.imp λ_ h1=>h1.mono g2.ext,λu=>?_⟩,h,g2⟩;simp only[look];cases hb:aC t u with
 |false=>exact(b.ff u).mono g2.ext hh.len
 |true =>
  have e:=dH hb;subst e;exact Aa (E:=E) (es:=es') (gG f) ay Hm
def I.H6(hT:dA P T){d j:Nat}(h:o.op=.binOp .eql t x (.const (.slice af d j)) ty){i:TI}(hi:bY T t=O i)(C:i.desc=.slice E){tt:Bool}{k:Nat}(v:ck J x=b7 (.sl tt k n es))(D:o.guard=af)(A:g7 N o.dst=W)(kk:∀b:Bool,(b=W->n=0)->I X N Qf (.ops all rest::K) .normal (lU o.dst (b7 (.bool b)) J) U):I X N Qf (.ops all (o::rest)::K) .normal J U:=by
 refine I.Fi (ι:={b:Bool // b=W->n=0}) (λb=>b7 (.bool b.1)) (λ_=>U) D A (λs a z hh=>?_) λb=>kk b.1 b.2;have m:=dz z x;rw[v]at m;obtain⟨ad,cap,vs,m,_,_,_,_,hm⟩:=(gG m).qp;have g:=(hT t i hi).und;rw[C]at g;have q:=gG (by have:=dz z x;rw[v]at this;exact this);have r:ad.isNone=W->n=0:=by
  intro F;rw[m]at q;cases q with
  |sl b off f u hb ht hk ha hm hr =>
   grind
 refine⟨⟨ad.isNone,r⟩,.value (.bool ad.isNone),s,.bool ad.isNone,?_,.inl Z,Rd.bool,hh,.refl _ _,?_⟩
 .have hr:(binOp .eql t (.slice ad n cap) (.slice af d j)).run P s.w=.ok (.bool ad.isNone) s.w:=Go.Lib.run_eql_slice_nil s.w t E ad n cap d j g;have l:∀y,eqGuard .eql t x y (.slice ad n cap) (.slice af d j)=pure ():=λy=>by simp[eqGuard]
  have e1:a.eval (.const (.slice af d j))=.slice af d j:=rfl;simp only[ar,h,m,e1,l];simp[hr]
 have B:∀es,(Op.equal t (.slice ad n cap) (.slice af d j)).events P s.w es=es:=λes=>by show(bx (9999+1) t _ _).events P s.w es=es;unfold bx;cases ad<;>simp[underlying,g]
 have hr:(Op.equal t (.slice ad n cap) (.slice af d j)).run P s.w=.ok ad.isNone s.w:=by show(bx (9999+1) t _ _).run P s.w=_;grind[Go.Lib.run_equalIn_slice_nil]
 have l:∀y,eqGuard .eql t x y (.slice ad n cap) (.slice af d j)=pure ():=λy=>by simp[eqGuard]
 have e1:a.eval (.const (.slice af d j))=.slice af d j:=rfl;intro G p;exfalso;simp only[ar,h,m,e1,l,binOp]at p;simp[hr,B,aM]at p
end
section
variable {X:Cx P}
def I.Xl{J':Fr}(k:I X N Qf (.code c::K) .normal J' U'){qs:List Prop}(h1:rf J J'=O ps)(a:aA ps)(h2:sW U U'=O qs)(b:aA qs):I X N Qf (.code c::K) .normal J U :=
 I.kR U' h2 b (AW.le k (dJ h1 a))
def y6:List It->List It
 |.blk _::K=>y6 K
 |K=>K
def I.y6:∀{K:List It},I X N Qf (y6 K) .normal J U->I X N Qf K .normal J U
 |[],h=>h
 |.blk _::K,h=>I.y6 (K:=K) h
 |.code _::_,h=>h
 |.ops _ _::_,h=>h
def I.nH{S S2:Type}{c2:Code}(id:Nat){g i:List It}(h2:me id K=O g)(j:Go.AM.y6 g=.code c2::i)(aa:S2->Prop)(od:S2->Fr)(a:S2->List bq)(n:Nat)(AK:S->Prop)(fr:S->Fr)(st:S->List bq)(h:S->Nat)(x:S){qs:List Prop}(f:rf J (fr x)=O ps)(e:aA ps)(d:sW U (st x)=O qs)(b:aA qs)(l:V U=n)(k:AK x)(round:(∀(y:S2) {J:Fr} {U:List bq} {ps qs:List Prop},aa y->rf J (od y)=O ps->aA ps->sW U (a y)=O qs->aA qs->I X N Qf g .normal J U) ->
   ∀x,AK x->I X N (nZ X N Qf K AK fr st h n x) [.code c] .normal (fr x) (st x))(after:∀y,aa y->I X N Qf (.code c2::i) .normal (od y) (a y)):I X N Qf (.code (.loop c)::K) .normal J U :=
 I.cm n AK fr st h x f e d b l k (round λy _ _ _ _ m h1 e h2 b=>I.y6 (by rw[j];exact(after y m).Xl h1 e h2 b))
end
section
variable {X:Cx P}
def md(X:Cx P)(d:Nat)(ds:List D)(U:List bq)(res:Bool)(U':ι->List bq):Prop :=
 ∀s (vs:List ah) (l:Nat),cU U s vs ds->aH U s->(∃L,s.β[d]?=O L/\L.v=.func (.yield l) #[] #[]) ->
  ∃fn tmps assign body,(Instr.yield l vs.toArray).run P s.w=.ok (.round l fn tmps assign body) s.w/\(Instr.yield l vs.toArray).events P s.w #[]=#[⟨.obj l,ae,ae⟩] /\
  ∀(S:au->St->Prop) (c:bd) (cs:List bd),(∀i s',aH (U' i) s'->dE U s (U' i) s'->ia X S (G (c.finish (.bool res)) cs) s') ->
   ia X S (G (Frame.round l fn tmps assign body .normal) (c::cs)) s
def pZ{r:Loop}(h:w.heap[l]?=O (.loop r)):(Instr.getLoop l).run P w=.ok r w/\∀es,(Instr.getLoop l).events P w es=es.push ⟨.obj l,ae,ae⟩:=by
 have c:(getObj l).run P w=.ok (.loop r) w:=by simp only[getObj,Sem.run,h]
 have d:∀es,(getObj l).events P w es=es.push ⟨.obj l,ae,ae⟩:=λes=>by simp only[getObj,Sem.events,Sem.runT,h];rfl
 constructor
 .simp[Instr.getLoop,c]
 intro es;simp[Instr.getLoop,c,d]
def tF{r r':Loop}(h:w.heap[l]?=O (.loop r)):(setObj l (.loop r')).run P w=.ok () {w with heap:=w.heap.setIfInBounds l (.loop r')}/\∀es,(setObj l (.loop r')).events P w es=es.push ⟨.obj l,W,ae⟩:=by
 constructor
 .simp only[setObj,Sem.run,h]
 intro es;simp only[setObj,Sem.events,Sem.runT,h];rfl
def ON{r:Loop}{args:Array ah}(h:w.heap[l]?=O (.loop r))(d:args.size=r.params.size):
  (Instr.yield l args).run P w=.ok (.round l r.fn ((r.params.zip args).foldl (λtmps (t,a)=>tmps.setIfInBounds t a) r.tmps) r.assign r.body) w/\(Instr.yield l args).events P w #[]=#[⟨.obj l,ae,ae⟩]:=by
 obtain⟨c,e⟩:=pZ (P:=P) h;constructor
 .simp[Instr.yield,c,d]
 simp[Instr.yield,c,e,d]
def OO{r:Loop}(h:w.heap[l]?=O (.loop r))(d:r.state=.ready):
  (Instr.beginRound l).run P w=.ok () {w with heap:=w.heap.setIfInBounds l (.loop {r with state:=.busy})}/\(Instr.beginRound l).events P w #[]=#[⟨.obj l,ae,ae⟩,⟨.obj l,W,ae⟩]:=by
 obtain⟨e,f⟩:=pZ (P:=P) h;obtain⟨c,g⟩:=tF (P:=P) (r':={r with state:=.busy}) h;constructor
 .simp[Instr.beginRound,e,c,d]
 simp[Instr.beginRound,e,f,c,g,d]
def FO{r:Loop}(h:w.heap[l]?=O (.loop r))(j:Option Code):
  (Instr.endRound l j).run P w=.ok (.bool j.isNone) {w with heap:=w.heap.setIfInBounds l (.loop {r with state:=if j.isNone then .ready else .done,pending:=j})}/\(Instr.endRound l j).events P w #[]=#[⟨.obj l,ae,ae⟩,⟨.obj l,W,ae⟩]:=by
 obtain⟨d,e⟩:=pZ (P:=P) h;obtain⟨c,f⟩:=tF (P:=P) (r':={r with state:=if j.isNone then .ready else .done,pending:=j}) h;constructor
 .simp only[Instr.endRound,cf,d,c,cA,dN]
 simp only[Instr.endRound,aM,d,e,c,f,aP,bG];rfl
def HV{r:Loop}(h:w.heap[l]?=O (.loop r))(c:r.state≠.busy):
  (Instr.endLoop l).run P w=.ok r.pending {w with heap:=w.heap.setIfInBounds l (.loop {r with state:=.exhausted})}/\(Instr.endLoop l).events P w #[]=#[⟨.obj l,ae,ae⟩,⟨.obj l,W,ae⟩]:=by
 obtain⟨d,f⟩:=pZ (P:=P) h;obtain⟨e,g⟩:=tF (P:=P) (r':={r with state:=.exhausted}) h;have i:(r.state==.busy)=ae:=by cases j:r.state<;>simp_all
 constructor
 .simp[Instr.endLoop,d,e,c]
 simp[Instr.endLoop,d,f,g,c]
section steps
variable {b:bd}{a:Act}{k:List Item}{main:Bool}
def HW(ho:o.op=.call {callee:=.value fo,args:=xs,argTypes:=lh})(d:a.eval fo=.func (.yield l) #[] #[]):
  (ar a.eval o).run P w=(Instr.yield l (xs.toList.map a.eval).toArray).run P w/\(ar a.eval o).events P w #[]=(Instr.yield l (xs.toList.map a.eval).toArray).events P w #[]:=by
 have c:xs.map a.eval=(xs.toList.map a.eval).toArray:=az;constructor
 .simp[ar,ho,resolve,d,Deferred.ofValue,invoke,c]
 simp[ar,ho,resolve,d,Deferred.ofValue,invoke,c]
def SK{rest:List Nat}{fn:aO}{tmps:Array ah}{assign body:Code}(ho:ops[i]?=O o)(f:bn o (yielded ops a.tmps)=W)(hk:b.kind≠.early)(e:(ar a.eval o).run P w=.ok (.round l fn tmps assign body) w'):
  aU P main (G (b.aT a (.inRegion ops (i::rest)::k)) cs) w=.go (G (Frame.round l fn tmps assign body .normal) (b.aT a (.inRegion ops (i::rest)::k)::cs)) w' (Go.Conc.listed P b.fn a o w):=by have d:(b.kind==CallKind.early)=ae:=az;rw[ur ho f (λc g=>by grind[wR])];simp[stepG.apply,e,G,Frame.aT,d,GStep.after,Go.Conc.listed]
def SL{r:Loop}(e:b.roundOf=O l)(hk:b.kind≠.early)(h:w.heap[l]?=O (.loop r))(f:r.state=.ready):
  aU P main (G (b.aT a (.beginRound::k)) cs) w=.go (G (b.aT a k) cs) {w with heap:=w.heap.setIfInBounds l (.loop {r with state:=.busy})} (seen P b.fn #[⟨.obj l,ae,ae⟩,⟨.obj l,W,ae⟩]):=by obtain⟨g,d⟩:=OO (P:=P) h f;have c:(b.kind==CallKind.early)=ae:=az;simp[G,aU,stepG.exec,stepG.apply,Frame.aT,e,c,g,d,GStep.after,Frame.finish]
def HX{r:Loop}{j:Option Code}{e:List Item}{c:bd}(g:b.roundOf=O l)(hk:b.kind=.normal)(h:w.heap[l]?=O (.loop r))(i:(j=af/\e=[])∨(j=O .ret/\∃k1,e=.code .ret::k1)∨(∃id k1,j=O (.exit id)/\e=.code (.exit id)::k1/\exitTo id k1=af)):
  aU P main (G (b.aT a e) (c::cs)) w=.go (G (c.finish (.bool j.isNone)) cs) {w with heap:=w.heap.setIfInBounds l (.loop {r with state:=if j.isNone then .ready else .done,pending:=j})} (seen P b.fn #[⟨.obj l,ae,ae⟩,⟨.obj l,W,ae⟩]):=by
 obtain⟨d,f⟩:=FO (P:=P) h j;rcases i with⟨rfl,rfl⟩|⟨rfl,k1,rfl⟩|⟨id,k1,rfl,rfl,m⟩
 .simp only[Option.isNone_none,cv]at d;simp[G,aU,stepG.exec,Frame.aT,g,d,f,GStep.after,doReturn,hk]
 .simp only[Option.isNone_some,cC,kY]at d;simp[G,aU,stepG.exec,Frame.aT,g,d,f,GStep.after,doReturn,hk]
 simp only[Option.isNone_some,cC,kY]at d;simp[G,aU,stepG.exec,Frame.aT,g,d,f,GStep.after,doReturn,hk,m]
def KX{r:Loop}(h:w.heap[l]?=O (.loop r))(c:r.state≠.busy):
  aU P main (G (b.aT a (.endRangeFunc l::k)) cs) w=.go (G (b.aT a ((r.pending.map Item.code).toList++k)) cs) {w with heap:=w.heap.setIfInBounds l (.loop {r with state:=.exhausted})} (seen P b.fn #[⟨.obj l,ae,ae⟩,⟨.obj l,W,ae⟩]):=by obtain⟨e,d⟩:=HV (P:=P) h c;simp[G,aU,stepG.exec,Frame.aT,e,d,GStep.after]
def De{fn:aO}{tmps:Array ah}{params:Array Tmp}{assign body:Code}:
  (Instr.enterLoop fn tmps params assign body af).run P w=.ok (w.heap.size+1,[{target:=.collected w.heap.size,args:=#[]}]) {w with heap:=(w.heap.push (.deferred (O []))).push (.loop {state:=.ready,pending:=af,fn,tmps,params,assign,body,defers:=w.heap.size})} /\
  (Instr.enterLoop fn tmps params assign body af).events P w #[]=#[]:=by
 have c:∀(o:Obj) (w:aB),(newObj o).run P w=.ok w.heap.size {w with heap:=w.heap.push o}:=λo w=>by simp only[newObj,Sem.run]
 have d:∀(o:Obj) (w:aB) es,(newObj o).events P w es=es:=λo w es=>by simp only[newObj,Sem.events,Sem.runT]
 constructor
 .simp[Instr.enterLoop,c];rfl
 simp[Instr.enterLoop,c,d]
def FP{f:aG}{ps:Array Tmp}{assign body:Code}{F:aO}{fn:Func}{c:List ah}(p:b.roundOf=af)(hk:b.kind≠.early)(i:P.funcs[F]?=O fn)(n:(fn.name== "runtime.NumGoroutine")=ae)(h:fn.body.isNone=ae)(q:a.eval f=.func (.func F) #[] c.toArray):
  aU P main (G (b.aT a (.code (.rangeFunc f ps assign body)::k)) cs) w =
   .go (G (Frame.enter P F (Value.func (.yield (w.heap.size+1)) #[] #[]::c).toArray .normal) (b.aT {a with defers:={target:=.collected w.heap.size,args:=#[]}::a.defers} (.inRangeFunc (w.heap.size+1)::k)::cs))
    {w with heap:=(w.heap.push (.deferred (O []))).push (.loop {state:=.ready,pending:=af,fn:=b.fn,tmps:=a.tmps,params:=ps,assign,body,defers:=w.heap.size})} #[]:=by
 obtain⟨r,o⟩:=De (P:=P) (w:=w) (fn:=b.fn) (tmps:=a.tmps) (params:=ps) (assign:=assign) (body:=body);have j:(b.kind==CallKind.early)=ae:=az;have g:fn.name≠ "runtime.NumGoroutine":=az;have e:fn.body≠af:=az;have l:∀(d:List Deferred) (t:List Item) (m:FrameMode),({fn:=b.fn,tmps:=a.tmps,todo:=t,defers:=d,mode:=m,kind:=b.kind,roundOf:=b.roundOf}:bd).eval f=.func (.func F) #[] c.toArray:=by intro d t m;rw[<-q];cases f<;>rfl
 simp only[G,aU,stepG.exec,Frame.aT,p]at l⊢;simp[r,o,GStep.after,stepG.apply,resolve,l,Deferred.ofValue,invoke,callFunc,i,g,e,j,seen];rfl
end steps
end
section
variable {X:Cx P}
def aH.FQ(hh:aH U s){a:Nat}{J0:Fr}{r:Loop}(hB:U[a]?=O (.loop N J0 r))(hl:∃L,s.β[a]?=O L/\L.v=.func (.yield l) #[] #[]):
  ∃tmps fn df,s.β[a]?=O ⟨.func (.yield l) #[] #[],[l]⟩/\s.w.heap[l]?=O (.loop {r with tmps:=tmps,fn:=fn,defers:=df})/\tmps.size=N/\(∀t,ey U s (tmps.getD t ai) (look J0 t))/\(∀o,s.M l o=af):=by obtain⟨L,h1,h2⟩:=hl;obtain⟨l',tmps,fn,df,b,e,d,c,f⟩:=hh.box a _ L hB h1;grind
def aH.FR(hh:aH U s){a:Nat}{J0:Fr}{r r':Loop}{B':bq}(hB:U[a]?=O (.loop N J0 r)){tmps:Array ah}{fn df:Nat}(k:s.β[a]?=O ⟨.func (.yield l) #[] #[],[l]⟩)(ho:s.w.heap[l]?=O (.loop {r with tmps:=tmps,fn:=fn,defers:=df}))(m:tmps.size=N)(d:∀t,ey U s (tmps.getD t ai) (look J0 t))(u:∀o,s.M l o=af)(c:B'=.cg∨B'=.loop N J0 r'):
  aH (U.set a B') {s with w:={s.w with heap:=s.w.heap.setIfInBounds l (.loop {r' with tmps:=tmps,fn:=fn,defers:=df})}}/\eO U s (U.set a B') {s with w:={s.w with heap:=s.w.heap.setIfInBounds l (.loop {r' with tmps:=tmps,fn:=fn,defers:=df})}}:=by
 have n:l<s.w.heap.size:=hh.lt _ (b9 k) l ay;have hk:∀b,b≠l->(s.w.heap.setIfInBounds l (.loop {r' with tmps:=tmps,fn:=fn,defers:=df}))[b]?=s.w.heap[b]?:=λb hb=>by grind
 have q:s.β.set a ⟨.func (.yield l) #[] #[],[l]⟩=s.β:=tf;have j:a<V U:=(cO.1 hB).1;have g:ji (.loop N J0 r) ⟨.func (.yield l) #[] #[],[l]⟩ B' ⟨.func (.yield l) #[] #[],[l]⟩:=by rcases c with rfl|rfl<;>rfl
 have ex:sM U s (U.set a B') {s with w:={s.w with heap:=s.w.heap.setIfInBounds l (.loop {r' with tmps:=tmps,fn:=fn,defers:=df})}}:=by
  refine⟨λ_ _ _ h=>h,λi B L x f=>?_⟩;by_cases e:a=i
  .grind
  exact⟨B,L,by grind,f,.refl _ _⟩
 have:=hh.iA (M':=s.M) (w':={s.w with heap:=s.w.heap.setIfInBounds l (.loop {r' with tmps:=tmps,fn:=fn,defers:=df})}) (B':=B') (L':=⟨.func (.yield l) #[] #[],[l]⟩) hB k g ay (λb _ hb=>hk b az) (λ_ _ _ _=>rfl) (λ_ _ _ h=>h)
  (λb o v hm=>by
   have p:b≠l:=az;rw[<-hh.mem b o v hm];simp only[a9]
   grind) (λb hb=>by grind) Z Z Z (by
   rcases c with rfl|rfl
   .trivial
   .refine⟨l,tmps,fn,df,Z,az,m,λt=>?_,u⟩
    .have:=(d t).mono ex hh.len
     grind)
 grind
def I.yield{U':ι->List bq}{i:Nat}{ds:List D}{res:Bool}(ab:md X i ds U res U')(T:o.guard=af)(H:g7 N o.dst=W)(ho:o.op=.call {callee:=.value fo,args:=xs,argTypes:=lh}){N0:Nat}{J0:Fr}{r:Loop}(n:U[i]?=O (.loop N0 J0 r))(AK:ck J fo=.e (.bX (.oY i)))(m:xs.toList.map (ck J)=ds)(k:∀j,I X N Qf (.ops all rest::K) .normal (lU o.dst (b7 (.bool res)) J) (U' j)):I X N Qf (.ops all (o::rest)::K) .normal J U:=by
 intro s a f hh b kk cs S idx hb jb hQ;cases idx with
 |nil=>exact jb.elim
 |cons j idx =>
 refine .next aK λh A=>?_;have y:=X.kq A;have d:=hh.rely y;have z:=f.rely y hh;have C:=dz z fo;rw[AK]at C;obtain⟨_,L,x,v,_⟩:=(show jh _ h _ (.oY i)from C)
 obtain⟨l,tmps,fn,df,F,h4,h5,h6,h7⟩:=d.box i _ L n x;subst F;have B:cU U h (xs.toList.map a.eval) ds:=by grind[mU,dz]
 obtain⟨aa,p,assign,body,ak,Z,Y⟩:=ab h (xs.toList.map a.eval) l B d ⟨_,x,rfl⟩;obtain⟨Q,G⟩:=HW (P:=P) (w:=h.w) (a:=a) ho v;refine⟨_,h,_,SK jb.1 (eE T) hb (Q.trans ak),⟨⟨U,U,d,d,.refl _ _⟩,gA.seen ?_⟩,Y S _ _ λE s' lj st=>?_⟩
 .rw[G,Z];exact .bX (o0 (L:=⟨.func (.yield l) #[] #[],[l]⟩) (b9 x) ay)
 have g:=kN (b:=b) (a:=a) (k:=kk) all.toArray j idx (.bool res);rw[jb.1]at g;simp only[oP]at g;rw[g];refine k E s' _ ?_ lj b kk cs S idx hb jb.2 λu σ2 s2 a2 q M h2 pA=>hQ u σ2 s2 a2 q M h2 ((y.db.trans st).trans pA);cases R:o.dst with
 |none=>exact z.mono st d.len
 |some t=>exact(z.mono st d.len).put (iB H t R) (show ey (U' E) s' (.bool res) (b7 (.bool res))from Rd.bool)
def vI:List Tmp->List D->Fr->Fr
 |t::ts,d::ds,J=>vI ts ds ((t,d)::J)
 |_,_,J=>J
def Xi(N:Nat):List Tmp->Bool
 |[]=>W
 |t::ts=>match bP (t+1) N with|true=>Xi N ts|false=>ae
def Nj{N:Nat}{U:List bq}{s:St}:∀{ps:List Tmp}{ds:List D}{vs:List ah}{J:Fr}{a:Act},c7 N U s J a->cU U s vs ds->Xi N ps=W->c7 N U s (vI ps ds J) {a with tmps:=(ps.zip vs).foldl (λtmps (t,v)=>tmps.setIfInBounds t v) a.tmps}
 |[],ds,vs,J,a,h,_,_=>by simpa[vI]using h
 |_::_,[],[],J,a,h,_,_=>by simpa[vI]using h
 |_::_,[],_::_,J,a,h,b,_=>b.elim
 |_::_,_::_,[],J,a,h,b,_=>b.elim
 |t::ts,d::ds,v::vs,J,a,h,b,c=>by
  simp only[Xi]at c;split at c
  .rename_i e;have:=Nj (h.put (d:=t) (fY e) b.1) b.2 c;simpa[vI,Act.put]using this
  grind
def abM:Exit->Option (Option Code)
 |.normal=>O af
 |.ret=>O (O .ret)
 |.exit id=>O (O (.exit id))
 |_=>af
def md.intro{ι:Type}{k N:Nat}{J0:Fr}{r:Loop}{ds:List D}{U:List bq}{U':ι->List bq}{j:Option Code}(p:U[k]?=O (.loop N J0 r))(Y:r.state=.ready)(hlen:V ds=r.params.size)(M:Xi N r.params.toList=W)(h:AW X N r.assign (λe J1 σ1=>e=.normal/\σ1[k]?=O (.loop N J0 r)/\AW X N r.body (λe φ2 σ2=>abM e=O j/\σ2[k]?=O (.loop N J0 {r with state:=.busy}) /\
   ∃i,KY (σ2.set k (.loop N J0 {r with state:=if j.isNone then .ready else .done,pending:=j})) (U' i)) J1 (σ1.set k (.loop N J0 {r with state:=.busy}))) (vI r.params.toList ds J0) U):md X k ds U j.isNone U':=by
 intro s vs l ak hh hl;obtain⟨tmps,fn,df,h1,h2,h3,h4,h5⟩:=hh.FQ p hl;have hvl:V vs=r.params.size:=by grind[cU.get]
 obtain⟨y1,y2⟩:=ON (P:=P) (args:=vs.toArray) h2 az;refine⟨_,_,_,_,y1,y2,λS c cs hS=>?_⟩;let b:bd:={fn:=fn,tmps:=#[],todo:=[],defers:=[],mode:=.run,kind:=.normal,roundOf:=O l}
 have hb:b.kind≠.early:=AH;have hf:c7 N U s (vI r.params.toList ds J0) {tmps:=(r.params.zip vs.toArray).foldl (λtmps (t,a)=>tmps.setIfInBounds t a) tmps,defers:=[]}:=by
  have:=Nj (a:={tmps:=tmps,defers:=[]}) (J:=J0) ⟨h3,⟨[],an⟩,h4⟩ ak M;have e:(r.params.zip vs.toArray).foldl (λtmps (x:Tmp×ah)=>tmps.setIfInBounds x.1 x.2) tmps=(r.params.toList.zip vs).foldl (λtmps (x:Tmp×ah)=>tmps.setIfInBounds x.1 x.2) tmps:=by rw[<-Array.foldl_toList];simp
  grind
 show ia X S (G (b.aT {tmps:=(r.params.zip vs.toArray).foldl (λtmps (t,a)=>tmps.setIfInBounds t a) tmps,defers:=[]} [.code r.assign,.beginRound,.code r.body]) (c::cs)) s;refine h s _ hf hh b [.beginRound,.code r.body] (c::cs) S hb ?_;rintro e J1 σ1 s1 a1 ⟨rfl,n,q⟩ f1 B u;refine .next aK λs2 wm=>?_;have AK:=X.kq wm;have f:=B.rely AK;have f2:=f1.rely AK B;have Z:∃L,s2.β[k]?=O L/\L.v=.func (.yield l) #[] #[]:=by obtain⟨B',L',k1,ab,k3⟩:=(u.trans AK.db).box k _ _ p h1;rw[n]at k1;cases k1;exact⟨L',ab,k3⟩
 obtain⟨Q,fn2,df2,g1,g2,g3,g4,g5⟩:=f.FQ n Z;have K:=f.FR (r':={r with state:=.busy}) n g1 g2 g3 g4 g5 (.inr rfl);have y:∀{s:St} {U:List bq} {L:Loc},s.β[k]?=O L->L.bs=[l]->gA s #[⟨.obj l,ae,ae⟩,⟨.obj l,W,ae⟩]:=λ{s U L} hL hb =>
  .RY (o0 (b9 hL) az) (o0 (b9 hL) az)
 refine⟨_,_,_,SL (l:=l) aK hb g2 Y,⟨⟨_,_,f,K.1,K.2⟩,gA.seen (y (U:=σ1) g1 aK)⟩,?_⟩;have C:=K.2.pC f;have Z4:=K.1;refine q _ a1 (f2.mono C f.len) Z4 b [] (c::cs) S hb ?_;rintro e J3 σ3 s3 a3 ⟨hj,o,ii,H⟩ f3 A aa;have stA:=((u.trans AK.db).trans C).trans aa;have fin:∀z g,cK s3 g->((j=af/\z=[])∨(j=O .ret/\∃k1,z=.code .ret::k1)∨(∃id k1,j=O (.exit id)/\z=.code (.exit id)::k1/\exitTo id k1=af)) ->
   ∃g' s' es,aU P X.main (G (b.aT a3 z) (c::cs)) g.w=.go g' s'.w es/\vp g s' es/\ia X S g' s':=by
  intro z g d R;have m:=A.rely d;have E:∃L,g.β[k]?=O L/\L.v=.func (.yield l) #[] #[]:=by obtain⟨B',L',k1,ab,k3⟩:=(stA.trans d.db).box k _ _ p h1;rw[o]at k1;cases k1;exact⟨L',ab,k3⟩
  obtain⟨T,fn5,df5,p1,p2,p3,p4,p5⟩:=m.FQ o E;have F:=m.FR (r':={r with state:=if j.isNone then .ready else .done,pending:=j}) o p1 p2 p3 p4 p5 (.inr rfl);obtain⟨p7,p8,_⟩:=H _ F.1;exact⟨_,_,_,HX (l:=l) aK aK p2 R,⟨⟨_,_,m,F.1,F.2⟩,gA.seen (y (U:=σ3) p1 aK)⟩,hS ii _ p7 (((stA.trans d.db).trans (F.2.pC m)).trans (p8.pC F.1))⟩
 cases e with
 |normal =>
  cases hj;exact .next aK λg d=>fin [] g (X.kq d) (.inl ⟨aK,aK⟩)
 |ret =>
  cases hj;intro pre;exact .next aK λg d=>fin _ g (X.kq d) (.inr (.inl ⟨aK,pre,aK⟩))
 |exit id =>
  cases hj;intro pre hp;refine .next aK λg d=>fin _ g (X.kq d) (.inr (.inr ⟨id,_,aK,aK,?_⟩));have:=hp [];simpa[exitTo]using this
 |_=>cases hj
end
def nG(X:Cx P)(N:Nat)(c:Code)(Q:Post)(J:Fr)(U:List bq):Prop :=
 ∀s a,c7 N U s J a->aH U s->∀(b:bd) (k:List Item) (cs:List bd) (S:au->St->Prop),b.kind≠.early->b.roundOf=af ->
  (∀e J' U' s' a',Q e J' U'->c7 N U' s' J' a'->aH U' s'->dE U s U' s'->vJ X S b k cs e a' s')->ia X S (G (b.aT a (.code c::k)) cs) s
section
variable {X:Cx P}{Q:Post}
def AW.zC(h:AW X N c Q J U):nG X N c Q J U:=λs a f hh b k cs S hb _ d=>h s a f hh b k cs S hb d
theorem nG.seq{x y:Code}(h:nG X N x (HY (nG X N y Q) Q) J U):nG X N (.seq x y) Q J U:=by
 intro s a i hh b k cs S hb Hi hQ;refine .ctl hh Z (λ_=>rQ) λj h1=>?_;refine h j a (i.rely h1 hh) (hh.rely h1) b (.code y::k) cs S hb Hi ?_;intro e J' U' s' a' q f g st;have c:=h1.db.trans st;cases e with
 |normal=>exact q s' a' f g b k cs S hb Hi λe d σ2 s2 a2 q2 f2 h2 pA=>hQ e d σ2 s2 a2 q2 f2 h2 (c.trans pA)
 |_=>exact vJ.cons (λ_ _=>rfl) ay (hQ _ _ _ _ _ q f g c)
theorem nG.block{id:Nat}(h:nG X N c (Bn id Q) J U):nG X N (.block id c) Q J U:=by
 intro s a i hh b k cs S hb Hi hQ;refine .ctl hh Z (λ_=>wQ) λm h1=>?_;refine h m a (i.rely h1 hh) (hh.rely h1) b (.inBlock id::k) cs S hb Hi ?_;intro e J' U' s' a' q g f st;have d:=h1.db.trans st;cases e with
 |normal =>
  exact .ctl f Z (λ_=>vt) λs2 h2=>hQ .normal J' U' s2 a' q (g.rely h2 f) (f.rely h2) (d.trans h2.db)
 |exit QB =>
  simp only[Bn]at q;split at q
  .rename_i e;subst e;intro pre hp;refine .ctl f Z (λ_=>Fe (k':=k) (by rw[hp];simp[exitTo])) λs2 h2=>?_;exact hQ .normal J' U' s2 a' q (g.rely h2 f) (f.rely h2) (d.trans h2.db)
  .rename_i j
   intro pre hp;have:=hQ (.exit QB) J' U' s' a' q g f d (pre++[.inBlock id]) (λk'=>by
    rw[lZ,hp];have:(id==QB)=ae:=az
    simp[exitTo,this])
   grind
 |ret=>exact hQ _ _ _ _ _ q g f d
 |panic ch=>exact hQ _ _ _ _ _ q g f d
 |goto l=>exact hQ _ _ _ _ _ q g f d
 |outgrown=>exact hQ _ _ _ _ _ q g f d
def aH.abN(h:aH U s){o:Nat->Prop}(ho:∀b,o b->b<s.w.heap.size/\∀L∈s.β,b∉L.bs):aH U {s with own:=o} :=
 ⟨h.mem,h.len,λl B L hB hL=>gb.nk (U:=U) (s:=s) (U':=U) (s':={s with own:=o}) ⟨λ_ _ _ h=>h,λ_ B L h a=>⟨B,L,h,a,.refl _ _⟩⟩ h.len (λ_ _=>⟨rfl,λ_=>rfl⟩) (h.box l B L hB hL),h.gY,h.lt,ho⟩
def aH.jK(h:aH U s){r:Nat}{o:Nat->Prop}(e:s.own r)(ho:∀b,o b->s.own b)(g:¬o r)(f:∀i,s.M r i=af)(d:s.w.heap[r]?=O (.deferred (O []))):
  aH (U++[.vr]) {s with β:=s.β++[⟨.int .i64 r,[r]⟩],own:=o}/\gn s {s with β:=s.β++[⟨.int .i64 r,[r]⟩],own:=o}:=by
 obtain⟨k,j⟩:=h.own r e;have ex:sM U s (U++[.vr]) {s with β:=s.β++[⟨.int .i64 r,[r]⟩],own:=o}:=by refine⟨λ_ _ _ h=>h,λl B L hB hL=>⟨B,L,az,?_,.refl _ _⟩⟩;grind
 refine⟨⟨h.mem,by simp[h.len],?_,?_,?_,?_⟩,⟨Z,λ_ _ _ h=>h,λ_ _ _=>rfl,h.mem,?_⟩⟩
 .intro l B L hB hL;rcases jd hL with a|⟨hl,rfl⟩
  .have hl:l<V U:=by rw[<-h.len];grind
   rw[j8 hl]at hB;exact(h.box l B L hB a).nk ex h.len λ_ _=>⟨Z,λ_=>rfl⟩
  rw[hl,h.len,iy (bm _)]at hB;simp at hB;subst hB;exact⟨r,Z,d,f⟩
 .intro l l' L L' hL im b hb qq;rcases jd hL with k1|⟨e1,rfl⟩<;>rcases jd im with c|⟨e2,rfl⟩
  .exact h.gY l l' L L' k1 c b hb qq
  .grind
  .grind
  grind
 .intro L hL b hb;simp only[eZ,gj]at hL;rcases hL with hL|rfl
  .exact h.lt L hL b hb
  grind
 .intro b hb;obtain⟨m,p2⟩:=h.own b (ho b hb);grind
 grind
def Ni:Option Code->Option Exit
 |none=>O .normal
 |some .ret=>O .ret
 |some (.exit id)=>O (.exit id)
 |_=>af
def nG.rangeFunc{f:aG}{ps:Array Tmp}{assign body:Code}{F:aO}{capD:List D}{U':ι->List bq}{r':ι->Loop}(Kt:∀s a,c7 N U s J a->aH U s->∃m:List ah,a.eval f=.func (.func F) #[] m.toArray/\cU U s m capD)(hev:e9 X F (.e (.bX (.oY (V U)))::capD) (U++[.loop N J {state:=.ready,pending:=af,fn:=0,tmps:=#[],params:=ps,assign:=assign,body:=body,defers:=0}]) res U')(hl:∀i,(U' i)[V U]?=O (.loop N J (r' i))/\(r' i).state≠.busy)(k:∀i,∃e,Ni (r' i).pending=O e/\Q e J ((U' i).set (V U) .cg++[.vr])):nG X N (.rangeFunc f ps assign body) Q J U:=by
 intro s a fr hh b kk cs S hb Hi hQ;obtain⟨⟨fn,Xj,K,z⟩,A⟩:=hev;refine .next aK λd Z3=>?_;have hr:=X.kq Z3;have g:=hh.rely hr;have f1:=fr.rely hr hh;obtain⟨m,hv,E⟩:=Kt d a f1 g;generalize hrd:d.w.heap.size=r;have p:=λmain=>FP (P:=P) (main:=main) (k:=kk) (cs:=cs) (ps:=ps) (assign:=assign) (body:=body) (b:=b) (w:=d.w) Hi hb Xj K z hv;rw[hrd]at p;let w1:aB:={d.w with heap:=d.w.heap.push (.deferred (O []))}
 let lo:Loop:={state:=.ready,pending:=af,fn:=b.fn,tmps:=a.tmps,params:=ps,assign:=assign,body:=body,defers:=r}
 let w2:aB:={d.w with heap:=(d.w.heap.push (.deferred (O []))).push (.loop lo)}
 have Wb:w2.heap.size=r+2:=az;have an9:w1.heap.size=r+1:=az;have hk1:∀b,b<d.w.heap.size->w1.heap[b]?=d.w.heap[b]?:=λb hb=>by grind
 have aiJ:∀b,b<w1.heap.size->w2.heap[b]?=w1.heap[b]?:=λb hb=>by grind
 have hk2:∀b,b<d.w.heap.size->w2.heap[b]?=d.w.heap[b]?:=λb hb=>by grind
 have aob:w2.heap[r]?=O (.deferred (O [])):=az;have T:w2.heap[r+1]?=O (.loop lo):=az;have nM:∀b,d.w.heap.size<=b->∀o,d.M b o=af:=λb hb o=>by
  cases hm:d.M b o with
  |none=>rfl
  |some v=>have:=g.block hm;omega
 let L1:Loc:=⟨.func (.yield (r+1)) #[] #[],[r+1]⟩
 let L2:Loc:=⟨.int .i64 r,[r]⟩
 let rr:Loop:={state:=.ready,pending:=af,fn:=0,tmps:=#[],params:=ps,assign:=assign,body:=body,defers:=0}
 obtain⟨g1,g2⟩:=g.C4 (M':=d.M) (w':=w2) aq hk2 (λ_ _ _=>rfl) (λb hb o v hm=>by grind) rfl rfl rfl;have x:sM U d (U++[.loop N J rr]) ⟨d.β++[L1],d.M,w2,d.own⟩:=by refine⟨λ_ _ _ h=>h,λl B L hB hL=>⟨B,L,az,?_,.refl _ _⟩⟩;grind
 obtain⟨a1,a2⟩:=g1.jQ (B:=.loop N J rr) (L:=L1) g2 rfl g ⟨r+1,a.tmps,b.fn,r,rfl,T,f1.size,λt=>(f1.ff t).mono x g.len,λo=>nM _ aq o⟩ (λb hb=>by grind)
 have hD:=a1.abN (o:=λb=>d.own b∨b=r) (by
  rintro b (hb|rfl)
  .exact a1.own b hb
  .refine⟨by grind,λL hL=>?_⟩;simp only[eZ,gj]at hL;rcases hL with hL|rfl
   .intro ab;have:=g.lt L hL b ab;omega
   grind)
 have d1:=g.mV;obtain⟨e1,e2⟩:=d1.C4 (M':=d.M) (w':=w1) aq hk1 (λ_ _ _=>rfl) (λb hb o v hm=>by grind) rfl rfl rfl;obtain⟨e3,e4⟩:=e1.jQ (B:=.cg) (L:=L2) e2 rfl d1 an (λb hb=>by grind);obtain⟨e5,e6⟩:=e3.C4 (M':=d.M) (w':=w2) az aiJ (λ_ _ _=>rfl) (λb hb o v hm=>by grind) rfl rfl rfl;obtain⟨e7,e8⟩:=e5.jQ (B:=.cg) (L:=L1) e6 rfl e3 an (λb hb=>by grind);have hG0:gn ⟨d.β++[L2]++[L1],d.M,w2,d.own⟩ ⟨d.β++[L1],d.M,w2,λb=>d.own b∨b=r⟩:=by
  refine⟨aK,λ_ _ _ h=>h,λ_ _ _=>rfl,a1.mem,?_⟩;rintro b ((hb|rfl)|⟨L,hL,hb⟩)
  .grind
  .exact .inr ⟨L2,by simp,by grind⟩
  grind
 refine⟨_,⟨d.β++[L2]++[L1],d.M,w2,d.own⟩,_,p X.main,⟨⟨_,_,d1,e7,e4.trans e8⟩,.nil⟩,.c8 hG0 (A _ (Value.func (.yield (r+1)) #[] #[]::m) ?_ hD S _ λi frl v s4 AK nj aa st4=>?_)⟩
 .refine⟨⟨λB n=>?_,L1,?_,aK,aK⟩,?_⟩
  .rw[iy (bm _)]at n;simp at n;subst n;rfl
  .show (d.β++[L1])[V U]?=_;rw[<-g.len,iy (bm _)];simp
  exact E.mono (U:=U) (s:=d) (U':=U++[.loop N J rr]) (s':=⟨d.β++[L1],d.M,w2,λb=>d.own b∨b=r⟩) ⟨x.mem,x.box⟩ g.len
 have Z:(b.aT {a with defers:={target:=.collected r,args:=#[]}::a.defers} (.inRangeFunc (r+1)::kk)).finish v=b.aT {a with defers:={target:=.collected r,args:=#[]}::a.defers} (.endRangeFunc (r+1)::kk):=j3;refine qL (cs:=cs) (c:=b.aT {a with defers:={target:=.collected r,args:=#[]}::a.defers} (.inRangeFunc (r+1)::kk)) aa AK λs5 hr5=>?_;rw[Z];refine .next aK λs6 R=>?_;have hr6:=X.kq R;have u:=(aa.rely hr5).rely hr6;have ak:=(st4.trans hr5.db).trans hr6.db;obtain⟨C,hl2⟩:=hl i;have hLl:∃L,s6.β[V U]?=O L/\L.v=.func (.yield (r+1)) #[] #[]:=by obtain⟨B',L',k1,k2,k3⟩:=ak.box (V U) (.loop N J rr) L1 (show(U++[bq.loop N J rr])[V U]?=_ from List.getElem?_concat_length) (by show(d.β++[L1])[V U]?=_;rw[<-g.len,iy (bm _)];simp);rw[C]at k1;cases k1;exact⟨L',k2,k3⟩
 obtain⟨y,fn6,df6,p1,p2,p3,p4,p5⟩:=u.FQ C hLl;obtain⟨q1,q2⟩:=u.FR (r':={r' i with state:=.exhausted}) (B':=.cg) C p1 p2 p3 p4 p5 (.inl rfl);refine⟨_,_,_,KX p2 hl2,⟨⟨_,_,u,q1,q2⟩,gA.seen (.RY (o0 (b9 p1) ay) (o0 (b9 p1) ay))⟩,?_⟩;have j:=ak.trans (q2.pC u);generalize hs7:({s6 with w:={s6.w with heap:=s6.w.heap.setIfInBounds (r+1) (.loop {{r' i with state:=.exhausted}with tmps:=y,fn:=fn6,defers:=df6})}}:St)=s7 at q1 q2 j;have h7r:s7.own r:=by rw[j.own];grind
 have h7d:s7.w.heap[r]?=O (.deferred (O [])):=by rw[j.keep r (.inr aK)];omega
 have h7M:∀o,s7.M r o=af:=λo=>by rw[j.lJ r az (λL hL=>(hD.own r (.inr aK)).2 L hL)];grind
 obtain⟨t1,t2⟩:=q1.jK (r:=r) (o:=d.own) h7r (λb hb=>by rw[j.own];grind) (λab=>by have:=(g.own r ab).1;omega) h7M h7d;refine .c8 t2 ?_;have H:dE U d ((U' i).set (V U) .cg++[.vr]) {s7 with β:=s7.β++[⟨.int .i64 r,[r]⟩],own:=d.own}:=by
  refine⟨az,λb hb=>?_,λb o v hm=>j.mem b o v hm,λb hb hn o=>?_,λL hL b hb=>?_,λl B L hB hL=>?_,j.os,j.tape,j.output,aK⟩
  .show s7.w.heap[b]?=_;rw[j.keep b (.inl hb)];exact hk2 b (g.own b hb).1
  .show s7.M b o=_;rw[j.lJ b az (λL hL=>?_)];grind
  .simp only[eZ,gj]at hL;rcases hL with hL|rfl
   .rcases j.Ab L hL b hb with h1|⟨L0,h1,h2⟩
    .grind
    grind
   grind
  have hlσ:=(cO.1 hB).1;have RF:=(cO.1 hL).1;obtain⟨B',L',k1,k2,k3⟩:=j.box l B L az az;grind
 have fF:c7 N ((U' i).set (V U) .cg++[.vr]) {s7 with β:=s7.β++[⟨.int .i64 r,[r]⟩],own:=d.own} J {a with defers:={target:=.collected r,args:=#[]}::a.defers}:=by
  have hm:=f1.mono H g.len;obtain⟨ls,Y⟩:=f1.defers;refine⟨hm.size,⟨V ((U' i).set (V U) .cg)::ls,⟨⟨az,⟨.int .i64 r,[r]⟩,r,?_,aK,aK⟩,λab=>?_,Y.mono H.ext⟩⟩,hm.ff⟩
  .show (s7.β++_)[_]?=_;rw[<-q1.len,iy (bm _)];simp
  have h1:=Y.HZ _ ab;grind
 obtain⟨e,n,hq⟩:=k i;have q:=hQ e J _ _ _ hq fF t1 (hr.db.trans H);revert n;show Ni (r' i).pending=O e->ia X S (G (b.aT _ (((r' i).pending.map Item.code).toList++kk)) cs) _;intro n;cases hp:(r' i).pending with
 |none=>rw[hp]at n;cases n;exact q
 |some c =>
  rw[hp]at n;cases c<;>simp only[Ni,reduceCtorEq,eF]at n
  .subst n;exact q [] fe
  subst n;exact q kk
def c7.callee{t:Nat}{F:aO}(hl:look J t=b7 (.fn (.func F) [] cap)):∀s a,c7 N U s J a->aH U s->∃b:List ah,a.eval (.tmp t)=.func (.func F) #[] b.toArray/\cU U s b (iq cap):=by
 intro s a d _;have h:=d.ff t;rw[hl]at h;have h:=gG h;show ∃b:List ah,a.tmps.getD t ai=.func (.func F) #[] b.toArray/\_;generalize a.tmps.getD t ai=v at h;cases h with
 |fn fs cs hl He f1 f2 h1 h2 r1 r2 =>
  grind[oS]
def e9.KZ{f:aO}{fn:Func}{args:List D}{U':ι->List bq}(l:P.funcs[f]?=O fn)(d:(fn.name== "runtime.NumGoroutine")=ae)(hb:fn.body=O c)(g:bP args.length fn.ntmps=W)(h:vA args U->nG X fn.ntmps c (λe J σ1=>∃j,cM fn U.length (res j) (U' j) e J σ1) (lu 0 args) U):e9 X f args U res U':=by refine⟨⟨fn,l,d,by grind⟩,λs0 vs hr hh=>?_⟩;exact(e9.Z5 l d hb (fY g) λs a f i b k cs S hk Hi hQ=>h ⟨s0,vs,hr,hh⟩ s a f i b k cs S hk Hi hQ).2 s0 vs hr hh
def aiL(fn:Func)(res:D)(U':List bq):Post:=λe J σ1 =>
 (e=.ret∨e=.normal)/\σ1=U'/\oe U'=W/\∃ds d ps,C8 J fn.results.toList=O ds/\wS ds=O d/\J8 d res=O ps/\aA ps
def e9.FT{f:aO}{fn:Func}{args:List D}{U':ι->List bq}(p:P.funcs[f]?=O fn)(k:(fn.name== "runtime.NumGoroutine")=ae)(hb:fn.body=O c)(g:bP args.length fn.ntmps=W)(h:AW X fn.ntmps c (λe J σ1=>∃j,aiL fn (res j) (U' j) e J σ1) (lu 0 args) U):e9 X f args U res U':=by
 refine⟨⟨fn,p,k,by grind⟩,λs vs hr hh S cs hS=>?_⟩;obtain⟨hl,F⟩:=cU.get hr;let b:bd:={fn:=f,tmps:=#[],todo:=[],defers:=[],mode:=.run,kind:=.normal,roundOf:=af}
 have a:Frame.enter P f vs.toArray .normal=b.aT {tmps:=vs.toArray++Array.replicate (fn.ntmps-vs.toArray.size) ai,defers:=[]} [.code c]:=by simp[Frame.enter,Frame.aT,p,hb,b]
 rw[a];have g:=fY g;refine h s {tmps:=vs.toArray++Array.replicate (fn.ntmps-vs.toArray.size) ai,defers:=[]} ⟨by grind,⟨[],an⟩,λt=>?_⟩ hh b [] cs S ay ?_
 .rw[rU];simp only[kn,cv,pQ];have:=F t;rcases dy t (V vs) with x|B
  .have e:(vs.toArray++Array.replicate (fn.ntmps-vs.toArray.size) ai).getD t ai=(vs[t]?).getD ai:=ME;grind
  rw[rM aq];trivial
 rintro e J' σ1 s1 a1 ⟨H,o,rfl,n,ds,d,ps,h1,h2,r,y⟩ AK m st;have fin:∀(fr:bd) s2,cK s1 s2->fr.fn=f->fr.tmps=a1.tmps->fr.defers=a1.defers->fr.mode=.returning->fr.kind=.normal->ia X S (G fr cs) s2:=by
  intro fr s2 wm e1 e2 e3 e4 e5;have q:=AK.rely wm m;obtain⟨v,C,u,A⟩:=yZ (P:=P) q h1 h2;obtain⟨ls,i⟩:=q.defers;have z:a1.defers=[]:=by
   cases ls with
   |nil=>cases E:a1.defers with
    |nil=>rfl
    |cons d ds=>rw[E]at i;exact i.elim
   |cons l ls=>exact absurd rfl (qU n _ (b9 (i.HZ l ay)))
  refine hS H fr v _ ⟨e1,e4,by grind,e5,fn,by grind,λw _=>?_⟩ (rV r y u) (m.rely wm) (st.trans wm.db);rw[e2];exact⟨C w,λe o=>by rw[A w #[]]at o;grind⟩
 rcases o with rfl|rfl
 .intro pre;exact .ctl m rfl (λ_=>Ku rfl) λs2 wm=>fin _ s2 wm rfl rfl (iZ _) rfl rfl
 exact .ctl m rfl (λ_=>Kv rfl) λs2 wm=>fin _ s2 wm rfl rfl (iZ _) rfl rfl
end
structure Ti{P:aR}(X:Cx P)(N:Nat)(ops:Array aJ)(J:Fr)(U:List bq)(x:Nat->D)(c:Nat->Fr)(idx:Nat->Option Nat)(last:Nat):Prop where
 back:∀i o,ops[i]?=O o->∀e∈o.after,eG e=W->e.on<i
 R3:∀i o d,ops[i]?=O o->o.dst=O d->idx d=O i/\d<N
 Da:∀d i,idx d=O i->∃o,ops[i]?=O o/\o.dst=O d
 bX:∀i o,ops[i]?=O o->i≠last->OA X N ops.toList o (c i) U (x i) U
 frl:∀i o,ops[i]?=O o->i≠last->∀t U s v,ey U s v (match idx t with|some j=>(if ∃e∈o.after,eG e=W/\e.on=j then x j else .any)|none=>look J t)->ey U s v (look (c i) t)
 lst:∀o,ops[last]?=O o->∀j,j<ops.size->j≠last->∃e∈o.after,eG e=W/\e.on=j
 has:last<ops.size
section
variable {X:Cx P}{x:Nat->D}{c:Nat->Fr}{idx:Nat->Option Nat}{last:Nat}
theorem Ib{a t:Nat}(h:∀i,i<ops.size->L.getD i W=W):Region.linearise.go .any ops a t L []=[]:=by
 cases a with
 |zero=>exact A4 t L
 |succ n =>
  have b:bo .any ops L=[]:=by
   cases b:bo .any ops L with
   |nil=>rfl
   |cons y d =>
    have e:y∈bo .any ops L:=az;grind[kQ]
  grind[tv]
def Ti.arr(h:Ti X N ops J U x c idx last){ak:au->St->Prop}{b:bd}{kk:List Item}(hb:b.kind≠.early){s0:St}(hQ:∀s a,a.tmps.size=N->(∀t,ey U s (a.tmps.getD t ai) (match idx t with|some j=>if j=last then .any else x j|none=>look J t))->a.defers=[]->aH U s->dE U s0 U s->ia X ak (G (b.aT a (.inRegion ops [last]::kk)) cs) s):
  ∀(f:Nat) (L:Array Bool),L.size=ops.size->V (L.toList.filter (λb=>!b))<=f->¬L.getD last ae=W ->
   (∀i o,ops[i]?=O o->L.getD i ae=W->∀e∈o.after,eG e=W->L.getD e.on ae=W) ->
   ∀(s:St) (a:Act),Qt N U s (jm J x idx L) a->a.defers=[]->aH U s->dE U s0 U s ->
   ∀t,ia X ak (G (b.aT a (.inRegion ops (Region.linearise.go .any ops f t L [])::kk)) cs) s:=by
 intro f;induction f with
 |zero =>
  intro L hs hf m Y s a g F hh st t;exfalso;have hm:L[last]'(by have:=h.has;omega)∈L.toList:=by simp
  have M:=h.has;cases hb:L[last]'aq with
  |true=>exact m (by simp[gi,jM (by omega:last<L.size),hb])
  |false =>
   have:L[last]'aq∈L.toList.filter (λb=>!b):=iz.2 ⟨hm,by grind⟩;grind
 |succ f ih =>
  intro L hs hf m Y s a g F hh st t;rw[tv];cases H:(bo .any ops L)[t % V (bo .any ops L)]? with
  |none =>
   exfalso;have hr:bo .any ops L=[]:=by
    cases hr:bo .any ops L with
    |nil=>rfl
    |cons y ys =>
     grind[Nat.mod_lt]
   have AK:∀i,i<ops.size->L.getD i ae=W:=by
    intro i;induction i using Nat.strongRecOn with
    |_ i ihi =>
     intro hi;cases hb:L.getD i ae with
     |true=>rfl
     |false =>
      have hm:i∈bo .any ops L:=kQ.2 ⟨ops[i],jM hi,by
       grind,λe S A=>by
       have:=h.back i _ (jM hi) e S A
       grind⟩
      grind
   exact m (AK last h.has)
  |some i =>
   have hi:=b9 H;obtain⟨o,ho,hli,WL⟩:=kQ.1 hi;have M:i<ops.size:=(gN.1 ho).1;have E:¬L.getD i ae=W:=az;by_cases z:i=last
   .subst z;have B:Region.linearise.go .any ops f (t / V (bo .any ops L)) (L.setIfInBounds i W) []=[]:=by
     refine Ib λj hj=>?_;have hj2:(L.setIfInBounds i W).getD j ae=W:=by
      rw[iT aq];by_cases e:j=i
      .grind
      obtain⟨ed,S,A,rfl⟩:=h.lst o ho j hj e;grind
     grind
    simp only[B];refine hQ s a g.size (λt=>?_) F hh st;have:=g.ff t;unfold jm at this;cases k:idx t with
    |none=>grind
    |some j =>
     simp only[k]at this⊢;obtain⟨oj,w,_⟩:=h.Da _ _ k;by_cases e:j=i
     .rw[bh e];trivial
     rw[bc e];obtain⟨ed,S,A,rfl⟩:=h.lst o ho j (gN.1 w).1 e;grind
   have q:(L.setIfInBounds i W).size=ops.size:=az;have p:V ((L.setIfInBounds i W).toList.filter (λb=>!b))<=f:=by have h1:L.toList[i]?=O ae:=Zg;grind[uv]
   have K:∀j o',ops[j]?=O o'->(L.setIfInBounds i W).getD j ae=W->∀e∈o'.after,eG e=W->(L.setIfInBounds i W).getD e.on ae=W:=Ho;have r:¬(L.setIfInBounds i W).getD last ae=W:=Ho
   have T:c7 N U s (c i) a:=g.R2 λt U s v C=>h.frl i o ho z t U s v (by
    unfold jm at C;cases k:idx t with
    |none=>grind
    |some j =>
     simp only[k]at C⊢;split
     .grind
     .trivial)
   have u:∀(s':St) (v:ah),dE U s U s'->ey U s' v (x i)->Qt N U s' (jm J x idx (L.setIfInBounds i W)) (a.put o.dst v):=by
    intro s' v l C;cases F:o.dst with
    |none =>
     refine⟨g.size,g.defers.imp λ_ h1=>h1.mono l.ext,λt=>?_⟩;have n:=(g.ff t).mono l.ext hh.len;simp only[Act.put];unfold jm at n⊢;cases k:idx t with
     |none=>grind
     |some j =>
      simp only[k]at n⊢;obtain⟨oj,w,ab⟩:=h.Da _ _ k;grind[iT]
    |some d =>
     obtain⟨R,Q⟩:=h.R3 i o d ho F;refine⟨by simp[Act.put,g.size],g.defers.imp λ_ h1=>h1.mono l.ext,λt=>?_⟩;simp only[Act.put];by_cases e:d=t
     .subst e;have aa:d<a.tmps.size:=by rw[g.size];exact Q
      simp only[gi,AD aa,iY];unfold jm;simp only[R];rw[bh ((iT aq).2 (.inl aK))];exact C
     have n:=(g.ff t).mono l.ext hh.len;simp only[gi]at n⊢;rw[rL e];unfold jm at n⊢;cases k:idx t with
     |none=>grind
     |some j =>
      simp only[k]at n⊢;obtain⟨oj,w,ab⟩:=h.Da _ _ k;grind[iT]
   have:=h.bX i o ho z s a T hh b kk cs ak i (Region.linearise.go .any ops f (t / V (bo .any ops L)) (L.setIfInBounds i W) []) hb az;simp only[te]at this;exact this λv s' C Z l=>ih _ q p r K s' _ (u _ _ l C) (by cases o.dst<;>exact F) Z (st.trans l) _
theorem Ti.region(h:Ti X N ops J U x c idx last)(v:P.follows Departure.mixedOrders=W){r:au->St->Prop}{b:bd}{kk:List Item}(hb:b.kind≠.early){s0:St}{a0:Act}{id:Nat}(f0:c7 N U s0 J a0)(p:a0.defers=[])(l:aH U s0)(u:∀s a,a.tmps.size=N->(∀t,ey U s (a.tmps.getD t ai) (match idx t with|some j=>if j=last then .any else x j|none=>look J t))->a.defers=[]->aH U s->dE U s0 U s->ia X r (G (b.aT a (.inRegion ops [last]::kk)) cs) s):
  ia X r (G (b.aT a0 (.code (.region id ops W)::kk)) cs) s0:=by
 refine .next Z λg e=>?_;have e:=X.kq e;have f:=l.rely e;have n:=f0.rely e l;have k:eO U g U {g with w:={g.w with drawn:=g.w.drawn+1}}:=eO.same rfl rfl rfl rfl;have m:aH U {g with w:={g.w with drawn:=g.w.drawn+1}}:=f.same rfl;have q:=e.db.trans (k.pC f);refine⟨_,{g with w:={g.w with drawn:=g.w.drawn+1}},#[],oU,⟨⟨U,U,f,m,k⟩,.nil⟩,?_⟩;simp only[Region.schedule,v,Bool.true_or,cv];refine h.arr hb (s0:=s0) u ops.size _ ay ay ?_ ?_ _ a0 ?_ p m q _
 .simp[gi,qm];split<;>simp
 .intro i o ho hi;simp[gi,qm]at hi;split at hi<;>simp at hi
 have d:=n.mono (k.pC f) f.len;refine⟨d.size,d.defers,λt=>?_⟩;unfold jm;cases y:idx t with
 |none=>exact d.ff t
 |some j =>
  simp only;rw[bc]
  .exact d.ff t
  simp[gi,qm];split<;>simp
end
def oz(X:Cx P)(N:Nat)(all:List aJ)(o:aJ)(J:Fr)(U:List bq)(x:ι->D)(U':ι->List bq):Prop :=
 ∀s a,c7 N U s J a->aH U s->∀(b:bd) (k:List Item) (cs:List bd) (S:au->St->Prop) (i:Nat) (rest:List Nat),b.kind≠.early->all.toArray[i]?=O o ->
  (∀j v s',ey (U' j) s' v (x j)->aH (U' j) s'->dE U s (U' j) s'->ia X S (G (b.aT (a.put o.dst v) (.inRegion all.toArray rest::k)) cs) s')->ia X S (G (b.aT a (.inRegion all.toArray (i::rest)::k)) cs) s
def FY:List aJ->Nat->(Nat->D)->List (Option Nat×D)
 |[],_,_=>[]
 |o::r,i,x=>(o.dst,x i)::FY r (i+1) x
def Br{x:Nat->D}:∀{l:List aJ}{k j:Nat},(FY l k x)[j]?=(l[j]?).map λo=>(o.dst,x (k+j))
 |[],k,j=>by simp[FY]
 |o::r,k,0=>by simp[FY]
 |o::r,k,j+1=>by simp only[FY,nS];rw[Br,show k+1+j=k+(j+1) by omega]
def od(all:List aJ)(J:Fr)(x:Nat->D)(i:Nat):Fr:=lL (λj=>kz j (cG (all.getD i lV).after.toList)) 0 (FY all 0 x) (zz all J)
def Wc(all:List aJ)(J:Fr)(x:Nat->D):Fr:=lL (λ_=>W) 0 (FY all 0 x) (zz all J)
def rW(N:Nat):List aJ->Bool
 |[]=>W
 |o::r=>match g7 N o.dst with|true=>rW N r|false=>ae
def DZ{N:Nat}:∀{l:List aJ},rW N l=W->∀(i:Nat)(o:aJ),l[i]?=O o->g7 N o.dst=W
 |[],_,i,o,h=>by grind
 |p::r,h,i,o,hi=>by
  simp only[rW]at h;split at h
  .rename_i a;cases i with
   |zero=>grind
   |succ i=>exact DZ h i o az
  grind
def wU:List aJ->Nat->Bool
 |[],_=>W
 |o::r,i=>match ltX i (cG o.after.toList)with|true=>wU r (i+1)|false=>ae
def H7:∀{l:List aJ}{k:Nat},wU l k=W->∀(i:Nat)(o:aJ),l[i]?=O o->∀e∈cG o.after.toList,e<k+i
 |[],_,_,i,o,h=>by grind
 |p::r,k,h,i,o,hi=>by
  simp only[wU]at h;split at h
  .rename_i a;cases i with
   |zero=>simp at hi;subst hi;exact KF a
   |succ i=>intro e b;have:=H7 h i o az e b;omega
  grind
def FZ(pre:Nat->Bool):List Nat->Bool
 |[]=>ae
 |e::r=>match pre e with|true=>FZ pre r|false=>W
theorem D1{pre:Nat->Bool}:∀{l:List Nat},FZ pre l=W->∃e∈l,pre e=ae
 |[],h=>by cases h
 |e::r,h=>by
  simp only[FZ]at h;split at h
  .obtain⟨c,b,a⟩:=D1 h;grind
  grind
def F0(pre:Nat->Bool)(m:Nat):List aJ->Nat->Bool
 |[],_=>W
 |o::r,i=>match pre i with
  |true=>F0 pre m r (i+1)
  |false=>match aC i m with
   |true=>F0 pre m r (i+1)
   |false=>match FZ pre (cG o.after.toList)with|true=>F0 pre m r (i+1)|false=>ae
theorem Nn{pre:Nat->Bool}{m:Nat}:∀{l:List aJ}{k:Nat},F0 pre m l k=W->∀(i:Nat)(o:aJ),l[i]?=O o->pre (k+i)=ae->k+i≠m->∃e∈cG o.after.toList,pre e=ae
 |[],_,_,i,o,h=>by grind
 |p::r,k,h,i,o,hi=>by
  intro c b;simp only[F0]at h;cases i with
  |zero =>
   simp at hi;subst hi;simp only[iN]at c b;grind[Nat.eq_of_beq_eq_true,D1]
  |succ i =>
   have a:F0 pre m r (k+1)=W:=az;exact Nn a i o az az aq
section
variable {X:Cx P}{idx:Nat->Option Nat}
def Xm{x:Nat->D}{a:Act}(d:∀t U s v,ey U s v (match idx t with|some j=>(if ∃e∈o.after,eG e=W/\e.on=j then x j else .any)|none=>look J t)->ey U s v (look (od ops.toList J x i) t))(c:Qt N U s (jm J x idx L) a)(g:∀e∈o.after,eG e=W->L.getD e.on ae=W):c7 N U s (od ops.toList J x i) a:=c.R2 λt U s v f=>d t U s v (by
 unfold jm at f;cases b:idx t with
 |none=>grind
 |some j =>
  simp only[b]at f⊢;split
  .grind
  .trivial)
def OS{x y:Nat->D}{σ2:List bq}{a:Act}(c:∀d,o.dst=O d->idx d=O i/\d<N)(p:∀d j,idx d=O j->∃o,ops[j]?=O o/\o.dst=O d)(ho:ops[i]?=O o)(u:i<L.size)(w:∀j,L.getD j ae=W->y j=x j)(f:V s.β=V U)(st:dE U s σ2 s')(b:Qt N U s (jm J x idx L) a)(r:ey σ2 s' v (y i)):Qt N σ2 s' (jm J y idx (L.setIfInBounds i W)) (a.put o.dst v):=by
 have old:∀t,idx t≠O i->ey σ2 s' (a.tmps.getD t ai) (jm J y idx (L.setIfInBounds i W) t):=by intro t z;have n:=(b.ff t).mono st.ext f;unfold jm at n⊢;grind[iT]
 cases q:o.dst with
 |none =>
  refine⟨b.size,b.defers.imp λ_ l=>l.mono st.ext,λt=>?_⟩;refine old t λh=>?_;grind
 |some d =>
  obtain⟨k,g⟩:=c d q;refine⟨by simp[Act.put,b.size],b.defers.imp λ_ l=>l.mono st.ext,λt=>?_⟩;simp only[Act.put];by_cases e:d=t
  .subst e;have m:d<a.tmps.size:=by rw[b.size];exact g
   simp only[gi,AD m,iY];unfold jm;simp only[k];rw[bh ((iT u).2 (.inl Z))];exact r
  have:=old t (λh=>by grind);simp only[gi]at this⊢;grind
def SX{back:∀i o,ops[i]?=O o->∀e∈o.after,eG e=W->e.on<i}(f:L.size=ops.size)(g:bo .any ops L=[]):∀i,i<ops.size->L.getD i ae=W:=by
 intro i;induction i using Nat.strongRecOn with
 |_ i a =>
  intro hi;cases c:L.getD i ae with
  |true=>rfl
  |false =>
   have h:i∈bo .any ops L:=kQ.2 ⟨ops[i],jM hi,by grind,λe d b=>by grind⟩
   grind
def K4{t:Nat}(a:(bo .any ops L)[t % V (bo .any ops L)]?=af):bo .any ops L=[]:=by
 cases b:bo .any ops L with
 |nil=>rfl
 |cons y c =>
  grind[Nat.mod_lt]
theorem F1(e:L.size=ops.size)(d:V (L.toList.filter (λb=>!b))<=0):∀i,i<ops.size->L.getD i ae=W:=by
 intro i hi;have a:L[i]'aq∈L.toList:=ay;cases c:L[i]'aq with
 |true=>simp[gi,jM (by omega:i<L.size),c]
 |false =>
  have:L[i]'aq∈L.toList.filter (λb=>!b):=iz.2 ⟨a,by grind⟩;grind
end
def vu(xs:List UInt8):List ah:=xs.map λx=>.int .u8 x.toNat
theorem ML{xs:List UInt8}:V (vu xs)=V xs:=by simp[vu]
def Wu{xs b:List UInt8}:vu (xs++b)=vu xs++vu b:=by simp[vu]
def tk(bf:Option (Nat×Nat))(n:Nat):ah:=match bf with|none=>.slice af 0 0|some (g,cap)=>.slice (O ⟨g,0,af⟩) n cap
def BB(T E:av)(a:Bool)(v1:ah)(bf:Option (Nat×Nat))(xs:List UInt8)(f:Nat):ah->(Nat->Option Obj)->Prop:=λv d =>
 ∃b,v=.pointer (O ⟨b,0,af⟩)/\dK v1=W/\d b=O (.cells #[if a then v else .pointer af,v1] T (0,0)) /\
 match bf with
 |none=>xs=[]/\∀c,(d c).isSome=W↔c=b
 |some (g,cap)=>g≠b/\V xs<=cap/\0<cap/\cap<=9223372036854775807/\f<=V xs/\(∃e,V (vu xs++e)=cap/\d g=O (.cells (vu xs++e).toArray E (0,f)))/\∀c,(d c).isSome=W↔c=b∨c=g
section
variable {X:Cx P}{k:List (Nat×TI)}{T:av}{a:Bool}{v1:ah}{bf:Option (Nat×Nat)}{xs:List UInt8}{f:Nat}
structure AO(P:aR)(U:List bq)(s:St)(l:Nat)(T E:av)(a:Bool)(v1:ah)(bf:Option (Nat×Nat))(xs:List UInt8)(f:Nat)(L:Loc)(b:Nat)(ch:Nat->Option Obj):Prop where
 β:s.β[l]?=O L
 v:L.v=.pointer (O ⟨b,0,af⟩)
 bb:BB T E a v1 bf xs f L.v ch
 heap:∀(b:Nat) (o:Obj),ch b=O o->s.w.heap[b]?=O o
 bs:∀b,b∈L.bs↔(ch b).isSome=W
 M:∀b∈L.bs,∀o,s.M b o=af
 ch:ch b=O (.cells #[if a then L.v else .pointer af,v1] T (0,0))
 cell:dK v1=W
def BB.row(hh:aH U s)(hl:U[l]?=O (.cJ (BB T E a v1 bf xs f))):∃L b ch,AO P U s l T E a v1 bf xs f L b ch:=by have c:l<V s.β:=nh;have e:=bD c;generalize s.β[l]=L at e;obtain⟨ch,g,h1,h2,h⟩:=hh.box l _ L hl e;have d:=g;obtain⟨b,j,i,hb,_⟩:=d;exact⟨L,b,ch,e,j,g,h1,h2,h,hb,i⟩
def AO.mem{L:Loc}{ch:Nat->Option Obj}(r:AO P U s l T E a v1 bf xs f L b ch):b∈L.bs:=(r.bs b).2 (by rw[r.ch];rfl)
def AO.ptr{L:Loc}{ch:Nat->Option Obj}(r:AO P U s l T E a v1 bf xs f L b ch)(h:ey U s v (cE l off)):v=.pointer (O ⟨b,off,af⟩):=by obtain⟨_,c,d,h1,h2,rfl⟩:=(h:jh U s v (.ptr l off));rw[r.β]at h1;cases h1;rw[r.v]at h2;grind
def RI(hT:dA P k){i:TI}(h:o.op=.load t x)(hi:bY k t=O i)(AK:i.agg=ae)(A:U[l]?=O (.cJ (BB T E a v1 bf xs f))){d:D}(F:η x=cE l off)(C:∀s L b ch,aH U s->AO P U s l T E a v1 bf xs f L b ch->∃v,(#[if a then L.v else .pointer af,v1]:Array ah)[off]?=O v/\ey U s v d):bU P o η U d U:=by
 refine .qv λs G y J=>?_;obtain⟨L,b,ch,r⟩:=BB.row (P:=P) y A;have u:=r.ptr (by have:=J x;rwa [F]at this);obtain⟨v,H,q⟩:=C s L b ch y r;have g:s.w.cell? ⟨b,off,af⟩=O v:=by simp only[a9,r.heap _ _ r.ch];grind
 have c:(loadVar t ⟨b,off,af⟩).run P s.w=.ok v s.w:=by simp[loadVar,(hT t i hi).mG,AK,run_load,g]
 refine⟨v,by simp[ar,h,u,Instr.loadAt,Instr.sureAddr,c],q,λz p=>?_⟩;have m:z∈(loadVar t ⟨b,off,af⟩).events P s.w #[]:=by
  have e:ar G o=(do pure (.value (<-loadVar t ⟨b,off,af⟩))):=by simp[ar,h,u,Instr.loadAt,Instr.sureAddr]
  rw[e]at p;simpa[c]using p
 obtain⟨j,B,rfl⟩:=jR (hT t i hi) (n:=1) (λj B=>by grind) az z m;exact nq (b9 r.β) r.mem
def bU.ib(hT:dA P k){i:TI}(h:o.op=.load t x)(hi:bY k t=O i)(d:i.agg=ae)(hl:U[l]?=O (.cJ (BB T E a v1 bf xs f)))(c:η x=cE l 1):bU P o η U (jA v1) U :=
 RI hT h hi d hl c λs L b ch hh r=>⟨v1,by simp,Rd.val r.cell⟩
def Wv{H:ah->(Nat->Option Obj)->Prop}(b:U[l]?=O (.cJ H)):∀B,U[l]?=O B->B.gr=ae:=by intro B h;rw[b]at h;cases h;rfl
def bU.RJ(hT:dA P k){i:TI}(h:o.op=.load t x)(hi:bY k t=O i)(d:i.agg=ae)(hl:U[l]?=O (.cJ (BB T E W v1 bf xs f)))(c:η x=cE l 0):bU P o η U (cE l 0) U :=
 RI hT h hi d hl c λs L b ch hh r=>⟨L.v,by simp,Wv hl,L,b,r.β,r.v,r.v⟩
def bU.aaZ(hT:dA P k){i:TI}(h:o.op=.load t x)(hi:bY k t=O i)(g:i.agg=ae)(hl:U[l]?=O (.cJ (BB T E ae v1 bf xs f)))(d:η x=cE l 0):bU P o η U (b7 .ki) U :=
 RI hT h hi g hl d λs L b ch hh r=>⟨.pointer af,by simp,Rd.ki⟩
def setRow_size(w:aB)(b:Nat)(row:Array ah):(w.setRow b row).heap.size=w.heap.size:=by simp[World.setRow]
def RK(hT:dA P k){i:TI}(h:o.op=.store t x y)(hi:bY k t=O i)(F:i.size=1)(ak:U[l]?=O (.cJ (BB T E a v1 bf xs f))){c:Bool}{d:ah}(hx:η x=cE l off)(ho:off<2)(hc:dK d=W)(hd:∀s L b ch v,aH U s->AO P U s l T E a v1 bf xs f L b ch->ey U s v (η y)->dK v=W/\(#[if a then L.v else .pointer af,v1]:Array ah).setIfInBounds off v=#[if c then L.v else .pointer af,d]):bU P o η U .any (U.set l (.cJ (BB T E c d bf xs f))):=by
 intro s q N Z;obtain⟨L,b,ch,r⟩:=BB.row (P:=P) N ak;have D:=r.ptr (by have:=Z x;rwa [hx]at this);obtain⟨C,G⟩:=hd s L b ch (q y) N r (Z y);have p:(q y).cells=#[q y]:=by cases Q:q y<;>simp[Q,dK,Value.cells]at C⊢
 have z:∀v∈[q y],v.oneCell'=W:=by intro v D;simp at D;subst D;cases Q:q y<;>simp[Q,dK,Value.oneCell']at C⊢
 have n:=r.heap _ _ r.ch;have J:=run_storeCells_at P b off T [q y] 0 _ s.w n az z;have B:((#[if a then L.v else .pointer af,v1]:Array ah).toList.take (off+0)++[q y]++(#[if a then L.v else .pointer af,v1]:Array ah).toList.drop (off+0+[q y].length)).toArray=#[if c then L.v else .pointer af,d]:=by
  rw[<-G]
  match off,ho with
  |0,_=>grind
  |1,_=>grind
 rw[B]at J;have ab:(s.w.setRow b #[if c then L.v else .pointer af,d]).heap[b]?=O (.cells #[if c then L.v else .pointer af,d] T (0,0)):=setRow_heap s.w b _ _ T _ n;have A:∀g,g≠b->(s.w.setRow b #[if c then L.v else .pointer af,d]).heap[g]?=s.w.heap[g]?:=λg m=>setRow_other s.w b g _ m;obtain⟨t1,R⟩:=N.kO (l:=l) (H':=BB T E c d bf xs f) (L':=L) (w':=s.w.setRow b #[if c then L.v else .pointer af,d]) ak r.β rfl (by rw[setRow_size];grind)
  (λg m hn=>A g (by rintro rfl;exact hn r.mem)) (λg m=>.inl m)
  ⟨λg=>if g=b then O (.cells #[if c then L.v else .pointer af,d] T (0,0))else ch g,by
   obtain⟨K,S,q2,q3,q4⟩:=r.bb;have:K=b:=by rw[r.v]at S;grind
   subst this;have aa:∀g,(if g=K then O (Obj.cells #[if c then L.v else .pointer af,d] T (0,0))else ch g).isSome=W↔(ch g).isSome=W:=az;refine⟨K,S,hc,by simp,?_⟩;grind,λg o' m=>by
   by_cases e:g=b
   .grind
   .simp only[e,cC]at m;rw[A g e];exact r.heap _ _ m,λg=>by
   rw[r.bs g];by_cases e:g=b
   .subst e;simp[r.ch]
   grind⟩ aK aK aK
 have H:s.β.set l L=s.β:=by
  apply tb;intro j;by_cases e:l=j
  .subst e;rw[js (cO.1 r.β).1,r.β]
  grind
 rw[H]at t1 R;refine⟨.skip,{s with w:=s.w.setRow b #[if c then L.v else .pointer af,d]},?_,rfl,t1,R,?_⟩
 .simp[ar,h,D,Instr.storeAt,Instr.sureAddr,storeVar,(hT t i hi).b6,F,p,J]
 intro Y u;have e:ar q o=(do storeVar t ⟨b,off,af⟩ (q y);pure .skip):=by simp[ar,h,D,Instr.storeAt,Instr.sureAddr]
 rw[e]at u;have AK:Y∈(storeCells ⟨b,off,af⟩ [q y]).events P s.w #[]:=by
  simp only[storeVar,aM,(hT t i hi).b6,p,F,aP,events_sizeOf,dO,gx,cC,cf,cA,bG,List.size_toArray,eY]at u;generalize(storeCells ⟨b,off,af⟩ [q y]).run P s.w=r at u;cases r with
  |ok v w'=>simpa using u
  |halt x w'=>simpa using u
 rcases fj [q y] 0 _ s.w #[] n az z Y AK with Wa|⟨j,_,_,rfl⟩
 .grind
 exact l4 (b9 r.β) r.mem (r.M _ r.mem _)
def bU.Ff(hT:dA P k){i:TI}(h:o.op=.store t x y)(hi:bY k t=O i)(d:i.size=1)(hl:U[l]?=O (.cJ (BB T E a v1 bf xs f))){c:ah}(n:η x=cE l 1)(j:η y=jA c)(m:dK c=W):bU P o η U .any (U.set l (.cJ (BB T E a c bf xs f))) :=
 RK hT h hi d hl n aq m λs L b ch v hh r g=>by rw[j]at g;have:=Rd.fM g;grind
def bU.Ww(hT:dA P k){i:TI}(h:o.op=.store t x y)(hi:bY k t=O i)(c:i.size=1)(hl:U[l]?=O (.cJ (BB T E a v1 bf xs f)))(m:η x=cE l 0)(g:η y=cE l 0)(j:dK v1=W):bU P o η U .any (U.set l (.cJ (BB T E W v1 bf xs f))) :=
 RK hT h hi c hl m aq j λs L b ch v hh r d=>by rw[g]at d;have:=r.ptr d;subst this;refine⟨Z,?_⟩;rw[<-r.v];rfl
def bU.aa0{T:av}(h:o.op=.alloc T)(j:∀w,(zeroValue T).run P w=.ok (.agg #[.pointer af,.slice af 0 0]) w)(g:∀w es,(zeroValue T).events P w es=es):bU P o η U (cE (V U) 0) (U++[.cJ (BB T E ae (.slice af 0 0) af [] 0)]):=by
 intro s r hh hr;let w':=s.w.alloc (.cells #[.pointer af,.slice af 0 0] T);obtain⟨m,g2⟩:=hh.C4 (M':=s.M) (w':=w') (by simp[w']) (λb hb=>dF s.w _ hb) (λ_ _ _=>rfl) (λb hb o v hm=>by have:=hh.block hm;omega) rfl rfl rfl;have q:w'.heap.size=s.w.heap.size+1:=by simp[w']
 have i:w'.heap[s.w.heap.size]?=O (.cells #[.pointer af,.slice af 0 0] T (0,0)):=gg s.w _;obtain⟨p,n⟩:=m.jQ g2 rfl hh (B:=.cJ (BB T E ae (.slice af 0 0) af [] 0)) (L:=⟨.pointer (O ⟨s.w.heap.size,0,af⟩),[s.w.heap.size]⟩)
  ⟨λd=>if d=s.w.heap.size then O (.cells #[.pointer af,.slice af 0 0] T (0,0))else af,⟨s.w.heap.size,rfl,rfl,by simp,rfl,λd=>by by_cases e:d=s.w.heap.size<;>simp[e]⟩,λd l c=>by
   grind,λd=>by by_cases e:d=s.w.heap.size<;>simp[e],λd c l=>by
   simp at c;subst c;show s.M _ _=af;cases hm:s.M s.w.heap.size l with
   |none=>rfl
   |some v=>have:=hh.block hm;omega⟩ (λd c=>by grind)
 refine⟨.value (.pointer (O ⟨s.w.heap.size,0,af⟩)),_,?_,⟨by simp,⟨.pointer (O ⟨s.w.heap.size,0,af⟩),[s.w.heap.size]⟩,s.w.heap.size,?_,Z,Z⟩,p,n,?_⟩
 .simp[ar,h,Instr.alloc,j,Go.newVar,newRow,Value.cells,w']
 .simp[<-hh.len]
 simp[ar,h,Instr.alloc,j,g,Go.newVar,newRow];exact .nil
end
section
variable {X:Cx P}{q:List (Nat×TI)}{T:av}{d:Bool}{v1:ah}{bf:Option (Nat×Nat)}{xs:List UInt8}{k:Nat}
def tm{P:aR}{b o:Nat}{t:av}{k:Nat×Nat}:∀(vs:List ah)(i:Nat)(a:Array ah)(w:aB)(es:Array bg),w.heap[b]?=O (.cells a t k)->k.2<=o+i->o+i+V vs<=a.size->(∀v∈vs,v.oneCell'=W) ->
  ∀e∈(storeCells ⟨b,o,af⟩ vs i).events P w es,e∈es∨∃j,i<=j/\j<i+V vs/\e=Ot b (o+j)
 |[],_,_,_,_,_,_,_,_=>λe h=>.inl j3
 |v::rest,i,a,w,es,l,p,s,n=>λe h=>by
  have hi:o+i<a.size:=az;have c:w.cell? ⟨b,o+i,af⟩=O a[o+i]:=by simp[a9,l,hi]
  have m:w.frozen? ⟨b,o+i,af⟩=ae:=by obtain⟨lo,r⟩:=k;simp only[World.frozen?,l,EW,dm];grind
  have f:(store (⟨b,o+i,af⟩:Addr) v).run P w=.ok () (w.setRow b (a.setIfInBounds (o+i) v)):=Rg;have g:(store (⟨b,o+i,af⟩:Addr) v).events P w es=es.push (Ot b (o+i)):=by rw[events_store P w es _ v _ (n v ay),c];exact wj
  simp only[storeCells,aM,eg,f,g,aP]at h;rcases tm rest (i+1) (a.setIfInBounds (o+i) v) _ _ (setRow_heap _ _ _ _ _ _ l) aq az (λu x=>n u az) e h with y|⟨j,z,A,rfl⟩
  .grind
  grind
def AO.at{L:Loc}{b g cap:Nat}{ch:Nat->Option Obj}(r:AO P U s l T E d v1 (O (g,cap)) xs k L b ch):
  g≠b/\V xs<=cap/\0<cap/\cap<=9223372036854775807/\k<=V xs/\(∃a,V (vu xs++a)=cap/\ch g=O (.cells (vu xs++a).toArray E (0,k)))/\(∀c,(ch c).isSome=W↔c=b∨c=g)/\g∈L.bs:=by
 obtain⟨e,f,_,_,a1,a2,a3,a4,a5,a6,i⟩:=r.bb;have:e=b:=by rw[r.v]at f;grind
 subst this;obtain⟨a,a6,h⟩:=a6;exact⟨a1,a2,a3,a4,a5,⟨a,a6,h⟩,i,(r.bs g).2 az⟩
def RL{L:Loc}(h:s.β[l]?=O L):s.β.set l L=s.β:=tf
def AO.kO{L:Loc}{b g cap:Nat}{ch:Nat->Option Obj}(hh:aH U s)(hl:U[l]?=O (.cJ (BB T E d v1 (O (g,cap)) xs k)))(r:AO P U s l T E d v1 (O (g,cap)) xs k L b ch){xs':List UInt8}{fz':Nat}{zs':List ah}{w':aB}(f:V (vu xs'++zs')=cap)(m:V xs'<=cap)(j:fz'<=V xs')(t:w'.heap.size=s.w.heap.size)(hk:∀a,a≠g->w'.heap[a]?=s.w.heap[a]?)(u:w'.heap[g]?=O (.cells (vu xs'++zs').toArray E (0,fz')))(ho:w'.os=s.w.os)(i:w'.tape=s.w.tape)(n:w'.output=s.w.output):
  aH (U.set l (.cJ (BB T E d v1 (O (g,cap)) xs' fz'))) {s with w:=w'}/\eO U s (U.set l (.cJ (BB T E d v1 (O (g,cap)) xs' fz'))) {s with w:=w'}:=by
 obtain⟨a1,a2,a3,a4,a5,⟨B,a6,x⟩,A,h⟩:=r.at;obtain⟨o,p⟩:=hh.kO (l:=l) (H':=BB T E d v1 (O (g,cap)) xs' fz') (L':=L) (w':=w') hl r.β rfl aq
  (λa c y=>hk a az) (λa c=>.inl c)
  ⟨λa=>if a=g then O (.cells (vu xs'++zs').toArray E (0,fz'))else ch a,⟨b,r.v,r.cell,(show(if b=g then _ else ch b)=_ from(bc λe=>a1 e.symm).trans r.ch),a1,m,a3,a4,j,⟨zs',f,by simp⟩,λa=>by
   grind⟩,λa z c=>by
   by_cases e:a=g
   .grind
   .simp only[e,cC]at c;rw[hk a e];exact r.heap _ _ c,λa=>by
   rw[r.bs a]
   grind⟩ ho i n
 rw[RL r.β]at o p;grind
def bU.Wx{AK:av}(ho:o.op=.call {callee:=.builtin .append,args:=#[x,y],argTypes:=#[t,AK]}){ie:TypeInfo}(R:P.underlying t=O (.slice E))(u:P.underlying AK=O .string)(F:P.info? E=O ie)(p:ie.size=1){g cap:Nat}(hl:U[l]?=O (.cJ (BB T E d v1 (O (g,cap)) xs k)))(hx:η x=jA (tk (O (g,cap)) n))(hn:V xs=n){du:List UInt8}(hy:η y=b7 (.du du))(ab:n+V du<=cap):
  bU P o η U (jA (tk (O (g,cap)) (n+V du))) (U.set l (.cJ (BB T E d v1 (O (g,cap)) (xs++du) k))):=by
 intro s ρ hh hr;subst hn;obtain⟨L,b,ch,r⟩:=BB.row (P:=P) hh hl;obtain⟨a1,a2,a3,a4,a5,⟨a,a6,a7⟩,a8,B⟩:=r.at;have z:=hr x;rw[hx]at z;have z:=Rd.fM z;have H:=hr y;rw[hy]at H;have H:=gG H;generalize G:ρ y=vy at H;cases H with
 |@du sb _ Z Y =>
 have A:sb.size=V du:=by rw[<-Z,oM];rfl
 have J:=r.heap _ _ a7;have hlen:(vu xs++a).toArray.size=cap:=az;have m:=Lib.run_append_room_stringF (P:=P) s.w t AK o.type E ie R u F p g (V xs) cap _ _ J a5 sb aq az;have D:((vu xs++a).toArray.toList.take (V xs)++Lib.strCells sb++(vu xs++a).toArray.toList.drop (V xs+sb.size))=vu (xs++du)++a.drop (V du):=by
  have e1:(vu xs++a).take (V xs)=vu xs:=Kk;have e2:(vu xs++a).drop (V xs+sb.size)=a.drop (V du):=by rw[List.drop_append,ML,MA az,A];simp
  have e3:Lib.strCells sb=vu du:=by simp[Lib.strCells,vu,Z]
  rw[List.toList_toArray,e1,e2,e3,Wu]
 rw[D,A]at m;have hlz:V a=cap-V xs:=Kk;have f:V (vu (xs++du)++a.drop (V du))=cap:=Kk;have C:(s.w.setRow g (vu (xs++du)++a.drop (V du)).toArray).heap[g]?=O (.cells (vu (xs++du)++a.drop (V du)).toArray E (0,k)):=setRow_heap s.w g _ _ E _ J;obtain⟨t1,K⟩:=r.kO (fz':=k) (w':=s.w.setRow g (vu (xs++du)++a.drop (V du)).toArray) hh hl f az az (setRow_size _ _ _) (λb' aa=>setRow_other s.w g b' _ aa) C rfl rfl rfl;refine⟨.value (.slice (O ⟨g,0,af⟩) (V xs+V du) cap),_,?_,Rd.val aK,t1,K,?_⟩
 .rw[dT ho,z,G];simp only[cf,dN];have S:(Builtin.append_ #[t,AK] o.type #[tk (O (g,cap)) (V xs),.string sb]).run P s.w=_:=m;exact wj
 rw[dT ho,z,G];refine gD λe ak=>?_;have hf:=Lib.run_firstCells_string (P:=P) s.w 1 sb;have Q:=run_storeCells_atF P g (V xs) E (0,k) (Lib.strCells sb) 0 _ s.w J az az (Lib.strCells_oneCell sb);have i:V xs+sb.size<=cap:=aq;have N:(Builtin.firstCells 1 sb.size (.string sb)).events P s.w #[]=#[]:=rfl;simp[tk,Builtin.append_,run_underlying R,run_underlying u,sizeOf,typeInfo,F,p,Builtin.lenOf,i,hf,N,eg,Q]at ak;rcases tm (Lib.strCells sb) 0 _ s.w _ J az az (Lib.strCells_oneCell sb) e ak with h|⟨j,h1,h2,rfl⟩
 .grind
 exact l4 (b9 r.β) B (r.M _ B _)
def bU.RM{p:av}(ho:o.op=.call {callee:=.builtin .append,args:=#[x,y],argTypes:=#[t,p]}){ie:TypeInfo}(m:P.underlying t=O (.slice E))(b:P.underlying p=O .string)(h:P.info? E=O ie)(u:η x=jA (tk af 0))(r:η y=b7 (.du [])):bU P o η U (jA (tk af 0)) U:=by
 refine .dw λs z hh hr=>?_;have f:=hr x;rw[u]at f;have f:=Rd.fM f;have g:=hr y;rw[r]at g;have g:=gG g;generalize i:z y=vy at g;cases g with
 |@du sb _ A n =>
 have a:sb.size=0:=by have:V sb.data.toList=0:=az;rw[oM]at this;exact this
 have l:=Lib.run_firstCells_string (P:=P) s.w ie.size sb;rw[a]at l;have j:(Builtin.firstCells ie.size 0 (.string sb)).events P s.w #[]=#[]:=rfl;refine⟨.slice af 0 0,?_,Rd.val Z,?_⟩
 .rw[dT ho,f,i];simp[tk,Builtin.append_,run_underlying m,run_underlying b,sizeOf,typeInfo,h,Builtin.lenOf,a,l]
 rw[dT ho,f,i];simp[tk,Builtin.append_,run_underlying m,run_underlying b,sizeOf,typeInfo,h,Builtin.lenOf,a,l,j]
def aed{f:aO}{fn:Func}{ps:Array av}(Y:P.underlying t=O (.slice E))(Z:P.funcs[f]?=O fn)(C:(fn.name== "runtime.NumGoroutine")=ae)(hb:fn.body.isNone=W)(ak:Extern.findNext fn=af)(H:Extern.find fn=O (Extern.BytealgMakeNoZero.makeNoZero ps #[t]))(ho:o.op=.call {callee:=.value fo,args:=#[x],argTypes:=lh})(R:η fo=.e (.bX (.c (.fn (.func f) [] []))))(hx:η x=.e (.bX (.c (.int .i64 n))))(h0:0<n)(anb:n<=140737488355328)(hl:U[l]?=O (.cJ (BB T E d v1 af xs k))):
  ∀s A,aH U s->(∀y,ey U s (A y) (η y))->∃(j:{p:Nat×Nat // n<=p.2}) (s':St) (v:ah),(ar A o).run P s.w=.ok (.value v) s'.w/\ey (U.set l (.cJ (BB T E d v1 (O j.1) [] 0))) s' v (jA (tk (O j.1) n)) /\
   aH (U.set l (.cJ (BB T E d v1 (O j.1) [] 0))) s'/\eO U s (U.set l (.cJ (BB T E d v1 (O j.1) [] 0))) s'/\gA s ((ar A o).events P s.w #[]):=by
 intro s A N hr;obtain⟨L,b,ch,r⟩:=BB.row (P:=P) N hl;have D:A fo=.func (.func f) #[] #[]:=by
  have g:=hr fo;rw[R]at g;have g:=gG g;generalize A fo=v at g;cases g with
  |fn fs cs a b f1 f2 c1 c2 d1 d2 =>
   grind
 have F:A x=.int .i64 n:=by have g:=hr x;rw[hx]at g;have g:=gG g;generalize A x=v at g;cases g;rfl
 obtain⟨cs,g,aa,J⟩:=Lib.run_makeNoZero (P:=P) s.w ps t E Y n aq;have J:=J (by simp only[maxLen];omega);have B:(callFunc f #[.int .i64 n]).run P s.w=.ok (.value (.slice (O ⟨s.w.heap.size,0,af⟩) n cs.size)) (s.w.drew.drew.alloc (.cells cs E)):=by rw[run_callFunc_extern Z C hb ak H,g];rfl
 let w':aB:=s.w.drew.drew.alloc (.cells cs E);have Wy:w'.heap[s.w.heap.size]?=O (.cells cs E (0,0)):=gg s.w.drew.drew _;have Wb:w'.heap.size=s.w.heap.size+1:=by show(s.w.drew.drew.heap.push _).size=_;simp
 obtain⟨z,q1,q2,q3,q4⟩:=r.bb;have Q:z=b:=by rw[r.v]at q1;grind
 subst Q;have G:z<s.w.heap.size:=N.lt L (b9 r.β) z r.mem;have S:s.w.heap.size≠z:=aq;obtain⟨t1,t2⟩:=N.kO (l:=l) (H':=BB T E d v1 (O (s.w.heap.size,cs.size)) [] 0) (L':=⟨L.v,[z,s.w.heap.size]⟩) (w':=w') hl r.β rfl aq
  (λu i ak=>dF s.w.drew.drew _ i) (λu i=>by
   simp at i;rcases i with rfl|rfl
   .exact .inl r.mem
   grind)
  ⟨λu=>if u=z then O (.cells #[if d then L.v else .pointer af,v1] T (0,0))else if u=s.w.heap.size then O (.cells cs E (0,0))else af,⟨z,r.v,r.cell,by simp,S,by simp,by omega,by simp only[maxLen]at J;omega,by simp,⟨cs.toList,by simp[vu],by exact wj⟩,λu=>by
   grind⟩,λu o' i=>by
   by_cases e:u=z
   .subst e;simp only[cv]at i;have:w'.heap[u]?=s.w.heap[u]?:=dF s.w.drew.drew _ G;rw[this,<-i];exact r.heap _ _ r.ch
   grind,λu=>by grind⟩ rfl rfl rfl
 refine⟨⟨(s.w.heap.size,cs.size),aa⟩,_,_,?_,Rd.val rfl,t1,t2,?_⟩
 .simp[ar,ho,resolve,Deferred.ofValue,invoke,D,F,B,w',tk]
 intro ev K;simp only[ar,ho,resolve,Deferred.ofValue,invoke,D,F]at K;have AK:ev∈(callFunc f #[.int .i64 n]).events P s.w #[]:=az;have M:fn.name≠ "runtime.NumGoroutine":=az;have ab:fn.body=af:=by simpa using hb
 have key:∀es:Array bg,∀e∈(Extern.BytealgMakeNoZero.makeNoZero ps #[t] #[.int .i64 n]).events P s.w es,e∈es∨∃m,e=⟨.mark m,ae,W⟩/\Go.Conc.Neutral m:=by
  intro es e H;change e∈Sem.events P (underlying _ >>= _) _ _ at H;have g:¬(n:Int)<0:=aq;have aa:¬(281474976710656:Int)<(n:Int):=aq;have he2:e∈(askRoom (grownCap s.w n 0 E)).events P s.w.drew es:=by simpa[run_underlying Y,g,aa,Question.forced,newRow,grownCap]using H
  grind[Go.Conc.events_askRoom]
 have:ev∈(Extern.BytealgMakeNoZero.makeNoZero ps #[t] #[.int .i64 n]).events P s.w ((#[]:Array bg).push ⟨.mark (.extern f),ae,W⟩):=by have e:callFunc f #[.int .i64 n]=callFunc f #[.int .i64 n]:=rfl;simpa[callFunc,Z,M,ab,ak,H,g]using AK
 rcases key _ _ this with h|⟨m,rfl,hm⟩
 .simp at h;subst h;exact .inr ⟨f,rfl⟩
 exact .inl hm
def aee{G K:av}(ho:o.op=.call {callee:=.builtin .unsafeString,args:=#[x,y],argTypes:=#[G,K]})(hp:P.underlying G=O (.pointer E))(C:P.cellsOf E=1){g cap:Nat}(hl:U[l]?=O (.cJ (BB T E d v1 (O (g,cap)) xs k)))(hx:η x=jA (.pointer (O ⟨g,0,af⟩)))(hy:η y=b7 (.int .i64 (V xs))):
  bU P o η U (b7 (.du xs)) (U.set l (.cJ (BB T E d v1 (O (g,cap)) xs (V xs)))):=by
 intro s AK Q hr;obtain⟨L,b,ch,r⟩:=BB.row (P:=P) Q hl;obtain⟨a1,a2,a3,a4,a5,⟨N,a6,a7⟩,a8,hgL⟩:=r.at;have A:=hr x;rw[hx]at A;have A:=Rd.fM A;have p:AK y=.int .i64 (V xs):=by have D:=hr y;rw[hy]at D;have D:=gG D;generalize AK y=v at D;cases D;rfl
 have hg:=r.heap _ _ a7;have u:ar AK o=(do pure (.value (<-Builtin.unsafeString_ #[G,K] o.type #[AK x,AK y]))):=QT;have hlen:(vu xs++N).toArray.size=cap:=az;by_cases h0:xs=[]
 .subst h0;have n:=Lib.run_unsafeString_none (P:=P) s.w G K o.type (O ⟨g,0,af⟩);obtain⟨t1,R⟩:=r.kO (xs':=[]) (fz':=0) (zs':=N) (w':=s.w) Q hl a6 a2 ay rfl (λ_ _=>rfl) az rfl rfl rfl;refine⟨.value (.string .empty),_,wj,Rd.du aK ay,t1,R,?_⟩;rw[u,A,p];refine gD ?_;change gA s (Sem.events P (asInt (.int .i64 0) >>= _) _ _);simp[asInt,asIntOf,IntKind.max];exact .nil
 .have i:∀j x,xs[j]?=O x->s.w.cell? ((⟨g,0,af⟩:Addr).add j)=O (.int .u8 x.toNat):=by
   intro j x M;rw[eg];simp only[a9,hg,b8];have xZ:j<V xs:=(cO.1 M).1;have:(vu xs)[j]?=O (.int .u8 x.toNat):=by simp[vu,M]
   grind
  have t:s.w.shape? g=O (E,cap):=by simp only[World.shape?,hg];grind
  have n:=Lib.run_unsafeString_row (P:=P) s.w G K o.type E hp C g cap t xs h0 a2 aq i;have f:V xs≠0:=az;have hfz:(s.w.freeze ⟨g,0,af⟩ (V xs)).heap[g]?=O (.cells (vu xs++N).toArray E (0,V xs)):=by simp only[World.freeze,f,cC,E3,cv,hg,oQ];grind
  obtain⟨t1,R⟩:=r.kO (xs':=xs) (fz':=V xs) (zs':=N) (w':=s.w.freeze ⟨g,0,af⟩ (V xs)) Q hl a6 a2 (bm _) MG (λb' qq=>by
   simp only[World.freeze,f,cC,E3]
   grind) hfz MG MG MG
  refine⟨.value (.string ⟨xs.toArray⟩),_,?_,Rd.du ay aq,t1,R,?_⟩
  .rw[u,A,p];simp only[cf,dN,n];rfl
  rw[u,A,p];refine gD λe z=>?_;have H:¬(V xs:Int)<0:=aq;have ak:¬(9223372036854775807:Int)<(V xs:Int):=aq;have m:=Lib.liesAt_bytes (P:=P) C (cap / P.cellsOf E) (V xs) az;have J:IntKind.i64.max=9223372036854775807:=rfl;have Z:=Lib.run_loadBytes (P:=P) s.w xs ⟨g,0,af⟩ .empty i;have aa:∀(B:List UInt8) (a:Nat) (ir:ByteArray) (es:Array bg),(∀j x,B[j]?=O x->s.w.cell? ⟨g,a+j,af⟩=O (.int .u8 x.toNat))->∀e∈(loadBytes ⟨g,a,af⟩ ir (V B)).events P s.w es,e∈es∨∃j,e=Fc g j:=by
   intro B;induction B with
   |nil=>intro a ir es _ e z;exact .inl (by simpa[loadBytes]using z)
   |cons y B ih =>
    intro a ir es C e z;have F:=C 0 y aK;simp only[iN]at F;have Y:(load ⟨g,a,af⟩).run P s.w=.ok (.int .u8 y.toNat) s.w:=by grind[run_load]
    simp only[eU,loadBytes,aM,Y,aP,Fg F,eg]at z;rcases ih (a+1) _ _ (λj x M=>by have:=C (j+1) x az;grind) e z with h|h
    .grind
    grind
  have hva:(variablesAt ⟨g,0,af⟩ E (V xs)).run P s.w=.ok W s.w:=by simp[variablesAt,t,m]
  have S:∀es,(variablesAt ⟨g,0,af⟩ E (V xs)).events P s.w es=es:=λes=>by simp[variablesAt,t,m]
  have ab:e∈(loadBytes ⟨g,0,af⟩ .empty (V xs)).events P s.w #[]:=by change e∈Sem.events P (asInt (.int .i64 (V xs:Int)) >>= _) _ _ at z;simpa[asInt,asIntOf,J,H,ak,f,elemOf,run_underlying hp,hva,S,Z]using z
  rcases aa xs 0 .empty #[] (λj x M=>by grind[eg]) e ab with h|⟨j,rfl⟩
  .grind
  exact nq (b9 r.β) hgL
end
section
variable {X:Cx P}{p:List (Nat×TI)}{T:av}{g:Bool}{v1:ah}{bf:Option (Nat×Nat)}{xs:List UInt8}{i:Nat}
def bU.exact{r:ah}{d:D}(c:η x=jA v)(h:∀(a:aG->ah) w,a x=v->(ar a o).run P w=.ok (.value r) w/\(ar a o).events P w #[]=#[])(f:∀U s,ey U s r d):bU P o η U d U:=by refine .dw λs a hh hr=>?_;have b:=hr x;rw[c]at b;have b:=Rd.fM b;obtain⟨h1,h2⟩:=h a s.w b;grind
def bU.zx(h:o.op=.call {callee:=.builtin .len,args:=#[x],argTypes:=lh})(d:lh[0]?=O t)(b:P.underlying t=O (.slice E)){a:Option Addr}{c:Nat}(f:η x=jA (.slice a n c))(l:n<=9223372036854775807):bU P o η U (b7 (.int .i64 n)) U :=
  .exact f (λk w j=>by constructor<;>simp[ar,h,resolve,invoke,builtin,Builtin.len_,j,run_underlying b,goInt,d]) (λ_ _=>Rd.int yW)
def bU.Wz(h:o.op=.call {callee:=.builtin .cap,args:=#[x],argTypes:=lh})(d:lh[0]?=O t)(b:P.underlying t=O (.slice E)){a:Option Addr}{c:Nat}(f:η x=jA (.slice a n c))(l:c<=9223372036854775807):bU P o η U (b7 (.int .i64 c)) U :=
  .exact f (λk w j=>by constructor<;>simp[ar,h,resolve,invoke,builtin,Builtin.cap_,j,run_underlying b,goInt,d]) (λ_ _=>Rd.int yW)
def bU.aef(h:o.op=.call {callee:=.builtin .unsafeSliceData,args:=#[x],argTypes:=lh}){c:Nat}(a:η x=jA (.slice af n c)):bU P o η U (jA (.pointer af)) U :=
  .exact a (λd w b=>by
    have e:Builtin.unsafeSliceData_ lh o.type #[.slice af n c]=pure (.pointer af):=rfl
    constructor<;>simp[ar,h,resolve,invoke,builtin,b,e]) (λ_ _=>Rd.val Z)
def bU.aeg(h:o.op=.call {callee:=.builtin .unsafeSliceData,args:=#[x],argTypes:=lh}){a:Addr}{c:Nat}(b:η x=jA (.slice (O a) n c))(f:c≠0):bU P o η U (jA (.pointer (O a))) U :=
  .exact b (λj w d=>by
    obtain⟨m,rfl⟩:=Nat.exists_eq_succ_of_ne_zero f;have e:Builtin.unsafeSliceData_ lh o.type #[.slice (O a) n (m+1)]=pure (.pointer (O a)):=rfl
    constructor<;>simp[ar,h,resolve,invoke,builtin,d,e]) (λ_ _=>Rd.val Z)
def bU.aeh(h:o.op=.slice t x af (O y) af)(l:P.underlying t=O (.slice E)){ie:TypeInfo}(hi:P.info? E=O ie){a:Addr}{c k:Nat}(z:η x=jA (.slice (O a) n c))(u:η y=b7 (.int .i64 k))(hk:k<=n)(r:n<=c)(m:c≠0)(A:a.add 0=a):bU P o η U (jA (.slice (O a) k c)) U:=by
  refine .dw λs q hh hr=>?_;have d:=hr x;rw[z]at d;have d:=Rd.fM d;have b:q y=.int .i64 k:=by have h1:=hr y;rw[u]at h1;have h1:=gG h1;generalize q y=v at h1;cases h1;rfl
  have hl:((af:Option ah)=af/\(af:Option Int)=af)∨∃k j,(af:Option ah)=O (.int k j)/\(af:Option Int)=O j:=.inl ⟨rfl,rfl⟩;have hh:(O (Value.int .i64 k)=af/\(O (k:Int))=af)∨∃k' j,O (Value.int .i64 k)=O (.int k' j)/\(O (k:Int))=O j:=.inr ⟨_,_,rfl,rfl⟩;have ho:aA (lK n af (O (k:Int))):=by simp[lK,hk]
  obtain⟨hb,_,_⟩:=oV (P:=P) (isS:=W) r hl hh ho s.w;have f:=qN (P:=P) (isS:=W) r hl hh ho s.w;simp only[dD,bZ]at hb;refine⟨.slice (O a) k c,?_,Rd.val Z,?_⟩
  · simp[ar,h,d,b,Instr.sliceAt,run_underlying l,Instr.slice,hb,sizeOf,typeInfo,hi,m,A]
  · simp[ar,h,d,b,Instr.sliceAt,run_underlying l,Instr.slice,hb,f,sizeOf,typeInfo,hi,m]
def bU.aei{l:av}(h:o.op=.call {callee:=.builtin .copy,args:=#[x,y],argTypes:=#[t,l]})(f:P.underlying t=O (.slice E)){ie:TypeInfo}(hi:P.info? E=O ie){a:Addr}{c:Nat}(k:η x=jA (.slice (O a) 0 c))(j:η y=jA (.slice af 0 0)):bU P o η U (b7 (.int .i64 0)) U:=by
  refine .dw λs m hh hr=>?_;have b:=hr x;rw[k]at b;have b:=Rd.fM b;have d:=hr y;rw[j]at d;have d:=Rd.fM d;refine⟨.int .i64 0,?_,Rd.int qJ,?_⟩<;>
  simp[ar,h,resolve,invoke,builtin,Builtin.copy_,b,d,run_underlying f,sizeOf,typeInfo,hi,Builtin.lenOf,Builtin.firstCells,storeCells,goInt]
def bU.aej{k j:av}(ho:o.op=.call {callee:=.builtin .unsafeString,args:=#[x,y],argTypes:=#[k,j]})(m:η x=jA (.pointer af))(l:η y=b7 (.int .i64 ((0:Nat):Int))):bU P o η U (b7 (.du [])) U:=by
  refine .qv λs d hh hr=>?_;have f:=hr x;rw[m]at f;have f:=Rd.fM f;have b:d y=.int .i64 0:=by have h1:=hr y;rw[l]at h1;have h1:=gG h1;generalize d y=v at h1;cases h1;rfl
  have a:ar d o=(do pure (.value (<-Builtin.unsafeString_ #[k,j] o.type #[d x,d y]))):=QT;have h:=Lib.run_unsafeString_none (P:=P) s.w k j o.type af;refine⟨.string .empty,?_,Rd.du Z ay,?_⟩
  · rw[a,f,b]
    simp only[cf,dN,h];rfl
  · rw[a,f,b]
    refine gD ?_;change gA s (Sem.events P (asInt (.int .i64 0) >>= _) _ _);simp[asInt,asIntOf,IntKind.max];exact .nil
def bU.bTo(m:U[l]?=O (.cJ (BB T E g v1 bf xs i))){c dst:av}(h:o.op=.convert c dst x)(t:P.underlying c=O (.pointer T))(n:P.underlying dst=O .unsafePointer){j:TypeInfo}(hj:P.info? T=O j)(f:j.size≠0)(u:η x=cE l 0):bU P o η U (cE l 0) U:=by
  refine .dw λs v hh hr=>?_;obtain⟨L,b,ch,r⟩:=BB.row (P:=P) hh m;have d:=hr x;rw[u]at d;have q:=r.ptr d;have k:s.w.shape? b=O (T,2):=Rf;have a:=Lib.run_to_unsafe (P:=P) s.w ⟨b,0,af⟩ t n hj f k ay;refine⟨v x,by simp[ar,h,q,a],d,?_⟩;have:(convert c dst (.pointer (O ⟨b,0,af⟩))).events P s.w #[]=#[]:=by simp[convert,run_underlying t,run_underlying n,Conv.unsafePointer,Conv.seenAt,viewAt,cellsIn,k,sizeOf,typeInfo,hj,f]
  simp[ar,h,q,a,this]
def bU.aek(m:U[l]?=O (.cJ (BB T E g v1 bf xs i))){d dst:av}(h:o.op=.convert d dst x)(u:P.underlying d=O .unsafePointer)(q:P.underlying dst=O (.pointer T)){j:TypeInfo}(hj:P.info? T=O j)(n:j.size≠0)(a:liesAt P P.depth T (2 / P.cellsOf T) 0 T 1=W)(v:η x=cE l 0):bU P o η U (cE l 0) U:=by
  refine .dw λs y hh hr=>?_;obtain⟨L,b,ch,r⟩:=BB.row (P:=P) hh m;have f:=hr x;rw[v]at f;have t:=r.ptr f;have k:s.w.shape? b=O (T,2):=Rf;have c:=Lib.run_from_unsafe (P:=P) s.w ⟨b,0,af⟩ u q hj k a;refine⟨y x,by simp[ar,h,t,c],f,?_⟩;have:(convert d dst (.pointer (O ⟨b,0,af⟩))).events P s.w #[]=#[]:=by simp[convert,run_underlying u,run_underlying q,Conv.unsafePointer,Conv.seenAt,viewAt,variablesAt,k,sizeOf,typeInfo,hj,n,a]
  simp[ar,h,t,c,this]
def bU.ael{f:aO}{fn:Func}(t:P.funcs[f]?=O fn)(j:(fn.name== "runtime.NumGoroutine")=ae)(hb:fn.body.isNone=W)(u:Extern.findNext fn=af)(r:Extern.find fn=O Extern.AbiNoEscape.same)(ho:o.op=.call {callee:=.value fo,args:=#[x],argTypes:=lh})(n:η fo=.e (.bX (.c (.fn (.func f) [] [])))){d:D}(y:η x=d):bU P o η U d U:=by
  refine .qv λs l hh hr=>?_;have m:l fo=.func (.func f) #[] #[]:=by
    have h1:=hr fo;rw[n]at h1;have h1:=gG h1;generalize l fo=v at h1;cases h1 with
    | fn fs cs a b A z c1 c2 d1 d2 =>
      grind
  have k:(callFunc f #[l x]).run P s.w=.ok (.value (l x)) s.w:=by rw[run_callFunc_extern t j hb u r];rfl
  have q:=oX (P:=P) t j hb u r #[l x] (λ_ _=>rfl) s.w #[];refine⟨l x,?_,by grind,λB h=>?_⟩
  · simp[ar,ho,resolve,Deferred.ofValue,invoke,m,k]
  · simp[ar,ho,resolve,Deferred.ofValue,invoke,m,q]at h
    subst h;exact .inr ⟨_,rfl⟩
end
def fz(i:Nat)(D:Nat->Bool):Nat->Bool:=λj=>match aC j i with|true=>W|false=>D j
section
variable {X:Cx P}{g:Type}{x:g->Nat->D}{idx:Nat->Option Nat}{S:g->(Nat->Bool)->List bq}{nD:g->(Nat->Bool)->Prop}{c:Nat}
def og(L:Array Bool):Nat->Bool:=λi=>L.getD i ae
def OZ(hi:i<L.size):og (L.setIfInBounds i W)=fz i (og L):=by funext j;have h:=iT (L:=L) (i:=i) (j:=j) hi;simp only[og,fz];grind[Nat.eq_of_beq_eq_true,Nat.beq_refl]
def abY{c:Nat}(d:L.size=n)(h:∀k,c<=k->¬L.getD k ae=W):n-c<=V (L.toList.filter (λb=>!b)):=by
 have e:(L.toList.drop c).filter (λb=>!b)=L.toList.drop c:=by rw[z0];intro b a;obtain⟨i,hi,rfl⟩:=gM a;have:=h (c+i) aq;simp only[zW,oM]at hi;simp only[gi,jM (by omega:c+i<L.size),iY]at this;grind
 grind[List.drop_sublist]
theorem u5.afb(all:List aJ)(c:Nat):u5 all (List.range' c (V all-c)) (all.drop c):=by
 have key:∀(l:List aJ) (n:Nat),(∀j o,l[j]?=O o->all[n+j]?=O o)->u5 all (List.range' n (V l)) l:=by
  intro l;induction l with
  |nil=>intro n _;trivial
  |cons o r a =>
   intro n h;rw[eU,List.range'_succ];refine⟨by simpa using h 0 o Z,a (n+1) λj b hj=>?_⟩;have:=h (j+1) b az;grind
 have:=key (all.drop c) c λj o h=>by grind
 grind
structure Reg{P:aR}(X:Cx P)(N:Nat)(ops:Array aJ)(J:Fr){g:Type}(x:g->Nat->D)(S:g->(Nat->Bool)->List bq)(nD:g->(Nat->Bool)->Prop)(idx:Nat->Option Nat)(c:Nat):Prop where
 back:∀i o,ops[i]?=O o->∀e∈o.after,eG e=W->e.on<i
 R3:∀i o d,ops[i]?=O o->o.dst=O d->idx d=O i/\d<N
 Da:∀d i,idx d=O i->∃o,ops[i]?=O o/\o.dst=O d
 bX:∀κ (D:Nat->Bool) i o,nD κ D->ops[i]?=O o->i<c->D i=ae->(∀e∈o.after,eG e=W->D e.on=W)->(∀j o',ops[j]?=O o'->D j=W->∀e∈o'.after,eG e=W->D e.on=W)->oz X N ops.toList o (od ops.toList J (x κ) i) (S κ D) (λq:{κ':g // (∀j,D j=W->x κ' j=x κ j)/\nD κ' (fz i D)}=>x q.1 i) (λq=>S q.1 (fz i D))
 frl:∀(x:Nat->D) i o,ops[i]?=O o->∀t U s v,ey U s v (match idx t with|some j=>(if ∃e∈o.after,eG e=W/\e.on=j then x j else .any)|none=>look J t)->ey U s v (look (od ops.toList J x i) t)
 fin:∀(x:Nat->D) t U s v,ey U s v (match idx t with|some j=>x j|none=>look J t)->ey U s v (look (Wc ops.toList J x) t)
 ZI:∀i o,ops[i]?=O o->c<=i->∀L:Array Bool,(∀i o,ops[i]?=O o->L.getD i ae=W->∀e∈o.after,eG e=W->L.getD e.on ae=W)->(∀e∈o.after,eG e=W->L.getD e.on ae=W)->∀k,k<i->L.getD k ae=W
 cc:c<=ops.size
 abZ:∀κ (D:Nat->Bool),nD κ D->(∀i,i<c->D i=W)->∀i,c<=i->i<ops.size->x κ i=.any
def Ns(a:L.size=n)(hi:i<n):L.getD i W=ae↔¬L.getD i ae=W:=az
theorem Reg.seq(h:Reg X N ops J x S nD idx c):∀(a d:Nat)(L:Array Bool)(t:Nat),L.size=ops.size->c<=d->d<=ops.size->ops.size-d<=a->(∀k,k<ops.size->(L.getD k ae=W↔k<d)) ->
  Region.linearise.go .any ops a t L []=List.range' d (ops.size-d):=by
 intro a;induction a with
 |zero =>
  grind[A4]
 |succ a v =>
  intro d L t u y B z s;by_cases A:d=ops.size
  .grind [Ib]
  .rw[tv];have j:d<ops.size:=aq;have q:∀i o,ops[i]?=O o->L.getD i ae=W->∀e∈o.after,eG e=W->L.getD e.on ae=W:=λi o ho hi e l hb=>by have b:=(gN.1 ho).1;have h1:=(s i b).1 hi;have h2:=h.back i o ho e l hb;grind
   have p:∀i,i∈bo .any ops L->i=d:=λi hi=>by
    obtain⟨o,ho,hl,w⟩:=kQ.1 hi;have b:=(gN.1 ho).1;have C:¬i<d:=λn=>(Ns u b).1 hl ((s i b).2 n);rcases dy d i with h1|h1
    .have:=h.ZI i o ho aq L q w d h1;grind
    omega
   have r:d∈bo .any ops L:=kQ.2 ⟨ops[d],jM j,(Ns u j).2 (λhh=>by grind),λe l hb=>by
    have:=h.back d _ (jM j) e l hb
    grind⟩
   have m:0<V (bo .any ops L):=List.length_pos_of_mem r;have f:=rN t m;rw[bD f];have e1:=p _ (wu f);simp only[e1];rw[v (d+1) _ _ az aq aq aq (λk hk=>by grind[iT])];rw[show ops.size-d=(ops.size-(d+1))+1 by omega,List.range'_succ]
def Reg.arr(h:Reg X N ops J x S nD idx c){R:au->St->Prop}{b:bd}{kk:List Item}(hb:b.kind≠.early){U0:List bq}{s0:St}(hQ:∀l D s a,nD l D->(∀i,i<c->D i=W)->c7 N (S l D) s (Wc ops.toList J (x l)) a->aH (S l D) s->dE U0 s0 (S l D) s->ia X R (G (b.aT a (.inRegion ops (List.range' c (ops.size-c))::kk)) cs) s):
  ∀(f:Nat) (l:g) (L:Array Bool),nD l (og L)->L.size=ops.size->V (L.toList.filter (λb=>!b))<=f->(∀k,c<=k->¬L.getD k ae=W) ->
   (∀i o,ops[i]?=O o->L.getD i ae=W->∀e∈o.after,eG e=W->L.getD e.on ae=W) ->
   ∀(s:St) (a:Act),Qt N (S l (og L)) s (jm J (x l) idx L) a->aH (S l (og L)) s->dE U0 s0 (S l (og L)) s ->
   ∀t,ia X R (G (b.aT a (.inRegion ops (Region.linearise.go .any ops f t L [])::kk)) cs) s:=by
 have fin:∀(l:g) (L:Array Bool) (s:St) (a:Act) (f t:Nat),nD l (og L)->L.size=ops.size->V (L.toList.filter (λb=>!b))<=f->(∀k,c<=k->¬L.getD k ae=W)->(∀i,i<c->L.getD i ae=W)->Qt N (S l (og L)) s (jm J (x l) idx L) a->aH (S l (og L)) s->dE U0 s0 (S l (og L)) s->ia X R (G (b.aT a (.inRegion ops (Region.linearise.go .any ops f t L [])::kk)) cs) s:=by
  intro l L s a f t B C Q r w m hh st;have T:=h.cc;rw[h.seq f c L t C (bm _) T (by have h2:=abY (n:=ops.size) (c:=c) C r;omega) (λk hk=>⟨λaa=>by grind,λaa=>w k aa⟩)]
  exact hQ l _ s a B w (m.R2 λt U s v H=>h.fin (x l) t U s v (by
   unfold jm at H;cases hi:idx t with
   |none=>grind
   |some k =>
    simp only[hi]at H⊢;obtain⟨o,ho,_⟩:=h.Da _ _ hi;rcases dy k c with h1|h1
    .grind
    .rw[h.abZ l _ B w k h1 (gN.1 ho).1];trivial)) hh st
 intro f;induction f with
 |zero =>
  intro l L B C Q r E s a m hh st t;have T:=h.cc;grind[F1]
 |succ f ih =>
  intro l L B C Q r E s a m hh st t;have T:=h.cc;cases u:(bo .any ops L)[t % V (bo .any ops L)]? with
  |none=>exact fin l L s a _ t B C Q r (λi hi=>SX (back:=h.back) C (K4 u) i aq) m hh st
  |some i =>
   have hi:=b9 u;obtain⟨o,ho,hli,p⟩:=kQ.1 hi;have xZ:i<ops.size:=(gN.1 ho).1;rcases dy i c with A|A
   rotate_left
   .exact fin l L s a _ t B C Q r (λk hk=>h.ZI i o ho A L E p k aq) m hh st
   rw[tv,u];have AK:¬L.getD i ae=W:=az;have y:V ((L.setIfInBounds i W).toList.filter (λb=>!b))<=f:=by
    have h1:L.toList[i]?=O ae:=by rw[MB,jM (by omega:i<L.size)];simpa[gi,jM (by omega:i<L.size)]using AK
    grind[uv]
   have M:∀j o',ops[j]?=O o'->(L.setIfInBounds i W).getD j ae=W->∀e∈o'.after,eG e=W->(L.setIfInBounds i W).getD e.on ae=W:=Ho;have ab:c7 N (S l (og L)) s (od ops.toList J (x l) i) a:=Xm (h.frl (x l) i o ho) m p;have:=h.bX l (og L) i o B ho A (by unfold og;grind) p E s a ab hh b kk cs R i (Region.linearise.go .any ops f (t / V (bo .any ops L)) (L.setIfInBounds i W) []) hb az;simp only[te]at this;refine this λq v s' H F z=>?_;obtain⟨Z,ak,K⟩:=q;have Y:=OZ (L:=L) (i:=i) aq;simp only at H F z;rw[<-Y]at H F z K;exact ih Z _ K az y (λk hk=>by grind[iT]) M s' _ (OS (λd hd=>h.R3 i o d ho hd) h.Da ho aq (λj hj=>ak j hj) hh.len z m H) F (st.trans z) _
def AW.reg(hf:P.follows Departure.mixedOrders=W)(c:Nat)(x:g->Nat->D)(S:g->(Nat->Bool)->List bq)(nD:g->(Nat->Bool)->Prop)(F:g)(hI0:nD F λ_=>ae)(h0:S F (λ_=>ae)=U)(aex:pV all=W)(E:wU all 0=W)(H:rW N all=W)(hc:c<=V all)(ZI:∀i,c<=i->i<V all->∀L:Nat->Prop,(∀i,i<V all->L i->∀e∈cG (all.getD i lV).after.toList,L e)->(∀e∈cG (all.getD i lV).after.toList,L e)->∀k,k<i->L k)(abZ:∀f (D:Nat->Bool),nD f D->(∀i,i<c->D i=W)->∀i,c<=i->i<V all->x f i=.any)(bX:∀f (D:Nat->Bool) i o,nD f D->all[i]?=O o->i<c->D i=ae->(∀e∈cG o.after.toList,D e=W)->(∀j o',all[j]?=O o'->D j=W->∀e∈cG o'.after.toList,D e=W)->oz X N all o (od all J (x f) i) (S f D) (λq:{M:g // (∀j,D j=W->x M j=x f j)/\nD M (fz i D)}=>x q.1 i) (λq=>S q.1 (fz i D))){Q:Post}(hQ:∀f D,nD f D->(∀i,i<c->D i=W)->kA X N all (all.drop c) (Q .normal) (Wc all J (x f)) (S f D))(id:Nat):
  AW X N (.region id all.toArray W) Q J U:=by
 have n:∀i:Nat,all.toArray[i]?=all[i]?:=λi=>by simp
 let idx:Nat->Option Nat:=λt=>(bl (V all)).find? (λi=>decide ((all.getD i lV).dst=O t));have G:∀t j,idx t=O j->∃o,all[j]?=O o/\o.dst=O t:=az;have z:∀i o d,all[i]?=O o->o.dst=O d->idx d=O i:=by
  intro i o d ho hd;have hi:i<V all:=(cO.1 ho).1;cases hx:idx d with
  |none =>
   have:=uc.1 hx i az;grind
  |some j =>
   grind[x7]
 have ak:∀t,tw t all=W↔∃j,idx t=O j:=by grind[uw,wW]
 have aa:∀i o,all[i]?=O o->all.getD i lV=o:=λi o h=>by grind
 have hd:Reg X N all.toArray J x S nD idx c:=by
  refine⟨?_,?_,?_,?_,?_,?_,λi o ho hci L hLc hLp k hk=>?_,by grind,λf D K ab i h1 h2=>abZ f D K ab i h1 az⟩
  .intro i o ho e T hb;rw[n]at ho;have:=H7 E i o ho e.on (gJ.2 ⟨e,by grind,hb,rfl⟩);omega
  .intro i o d ho hd;rw[n]at ho;exact⟨z i o d ho hd,iB (DZ H i o ho) d hd⟩
  .grind
  .intro f D i o K ho hic hDi WL Kt;rw[n]at ho;exact bX f D i o K ho hic hDi (λe T=>by grind[gJ]) λj o hj hDj e T=>by grind[gJ]
  .intro x i o ho t U s v R;rw[n]at ho;show ey U s v (look (od all J x i) t);unfold od;rw[aa i o ho];rcases qX (m:=λj=>kz j (cG o.after.toList)) (J:=zz all J) (t:=t) (l:=FY all 0 x) (i:=0)with⟨j,y,h1,h2,B⟩|B
   .rw[B];rw[Br]at h1;cases hj:all[j]? with
    |none=>grind
    |some oj =>
     simp only[hj,oQ,eF,l0,b8]at h1;rw[z j oj t hj h1.1]at R;simp only at R;rw[bh]at R
     .grind
     simp only[b8]at h2;obtain⟨e,a,b,c⟩:=gJ.1 (R8 h2);grind
   rw[B,oF];split
   .trivial
   grind
  .intro x t U s v R;show ey U s v (look (Wc all J x) t);unfold Wc;rcases qX (m:=λ_=>W) (J:=zz all J) (t:=t) (l:=FY all 0 x) (i:=0)with⟨j,y,h1,h2,B⟩|B
   .rw[B];rw[Br]at h1;grind
   rw[B,oF];split
   .trivial
   grind
  rw[n]at ho;refine ZI i hci (cO.1 ho).1 (λk=>L.getD k ae=W) (λi' hi' hl e T=>?_) (λe T=>?_) k hk
  .grind [gJ]
  grind[gJ]
 intro s a J9 hh b kk cs SS hb hQQ;refine .next aK λA u=>?_;have u:=X.kq u;have r:=hh.rely u;have AK:=J9.rely u hh;have C:eO U A U {A with w:={A.w with drawn:=A.w.drawn+1}}:=eO.same rfl rfl rfl rfl;have J7:aH U {A with w:={A.w with drawn:=A.w.drawn+1}}:=r.same rfl;have stW:=u.db.trans (C.pC r);refine⟨_,{A with w:={A.w with drawn:=A.w.drawn+1}},#[],oU,⟨⟨U,U,r,J7,C⟩,.nil⟩,?_⟩;simp only[Region.schedule,hf,Bool.true_or,cv];have Y:og (Array.replicate all.toArray.size ae)=λ_=>ae:=by funext i;simp[og,gi,qm];split<;>simp
 refine hd.arr hb (U0:=U) (s0:=s) (λf D s2 a2 K ab f2 h2 pA=>?_) all.toArray.size F _ az ay ay ?_ ?_ _ a ?_ az az _
 .refine hQ f D K ab s2 a2 f2 h2 b kk cs SS _ hb ?_ λJ3 σ3 s3 a3 q3 f3 B Z=>hQQ .normal _ _ s3 a3 q3 f3 B (pA.trans Z);grind[u5.afb]
 .intro i _ hi;simp[gi,qm]at hi;split at hi<;>simp at hi
 .intro i o ho hi;simp[gi,qm]at hi;split at hi<;>simp at hi
 rw[Y,h0];have p:=AK.mono (C.pC r) r.len;refine⟨p.size,p.defers,λt=>?_⟩;unfold jm;cases hix:idx t with
 |none=>exact p.ff t
 |some j =>
  simp only;rw[bc]
  .exact p.ff t
  simp[gi,qm];split<;>simp
def oz.to{d:Type}{y:ι->D}{U':ι->List bq}{z:d->D}{e:d->List bq}(h:oz X N all o J U y U')(l:∀j,∃k,y j=z k/\U' j=e k):oz X N all o J U z e:=by intro s a f hh b k cs S i rest hb hi hK;refine h s a f hh b k cs S i rest hb hi λj v s' r1 r2 r3=>?_;obtain⟨q,p2,p3⟩:=l j;grind
def OA.uW{d:Type}{y:D}{z:d->D}{e:d->List bq}(h:OA X N all o J U y U')(k:d)(h1:y=z k)(h2:U'=e k):oz X N all o J U z e:=by subst h1 h2;exactλs a f hh b k' cs S i rest hb hi hK=>h s a f hh b k' cs S i rest hb hi λv s' r1 r2 r3=>hK k v s' r1 r2 r3
end
end Go.AM
