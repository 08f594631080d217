/- Part 2. No condition. -/
import Derived.Test.YtpddeenenibhjaaGreatDoorA1
import Derived.Test.YtpddeenenibhjaaGreatDoorProg
import Derived.MapKept
import Derived.Maps.RangeRun
import Derived.Laws.MakeOwn
set_option linter.all false
set_option maxHeartbeats 8000000
open Go.Proofs
open Go.Conc (G)
open Go renaming Value → aj, TypeId → aw, Frame → aV, FuncId → aK, execOp → ak, undef → ah, Operand → aC, World → aA, Program → aO, Oper → aB, Goroutine → aq, stepG → aH
open Option renaming some → aa, none → af
open Bool renaming true → ab, false → ae
open Go.Region renaming wanted → aZ, ready → aY
open Go.World renaming cell? → aW
open List renaming getD_eq_getElem?_getD → ai, range → bk
open Go.Sem renaming events_bind → aP
open Go.Result renaming evThen_ok → aU
open Go.Instr renaming sliceBounds → bh
open Nat renaming beq → av, ble → bz
open Go.Proofs.Tryz renaming prog → ag, underlying22 → aM
namespace Go.AM
variable {n k l b i j:Nat}{E:aw}{H:aj->(Nat->Option Obj)->Prop}{L:Array Bool}{M:Mem}{N:Nat}{P:aO}{S:aq->St->Prop}{c:Code}{g:aq}{o:aB}{s:St}{t:aw}{v:aj}{w:aA}{x y:aC}{α:Type}{η:aC->D}{ι:Type}{σ:List bm}{φ:Fr}{all:List aB}{jP:Array aw}{cap:List C}{cu:List D}{cs:List aV}{ds:List (Nat×Bool)}{es:Nat->List C}{fo:aC}{gs:Array aq}{obs:List Prop}{off:Nat}{op:BinOp}{ops:Array aB}{ps:List Prop}{rest:List aB}{s':St}{ty:aw}{val:Nat->Nat->aj}{vs:List aj}{w':aA}{xs:Array aC}{σ' σs:List bm}{res:ι->D}{σ1:ι->List bm}
section force
variable {p:Type}
def vN:C->(C->Option p)->Option p
 |.int k n,q=>q (.int k n)
 |.bool b,q=>q (.bool b)
 |.str s,q=>q (.str s)
 |.sl ab k n es,q=>q (.sl ab k n es)
 |.sl ae k n es,q=>q (.sl ae k n es)
 |.rp cs,q=>dt cs λcs=>q (.rp cs)
 |.M3 t cs,q=>dt cs λcs=>q (.M3 t cs)
 |.fn f a b,q=>dt a λa=>dt b λb=>q (.fn f a b)
 |c,q=>q c
def GQ(c:C)(q:C->Option p):vN c q=q c:=by
 cases c with
 |sl t=>cases t<;>rfl
 |rp cs=>simp[vN,cW]
 |M3 t cs=>simp[vN,cW]
 |fn f a b=>simp[vN,cW]
 |_=>rfl
def vO:A->(A->Option p)->Option p
 |.c x,q=>vN x λx=>q (.c x)
 |.ptr l o,q=>q (.ptr l o)
 |.vec l k n es,q=>q (.vec l k n es)
 |.ref l,q=>q (.ref l)
 |.bp l (.sl g k o n),q=>q (.bp l (.sl g k o n))
 |.bp l (.el g k i f),q=>q (.bp l (.el g k i f))
 |.any,q=>q .any
def yt(a:A)(q:A->Option p):vO a q=q a:=by
 cases a with
 |bp l w=>cases w<;>simp[vO]
 |_=>simp[vO,GQ]
def u5:List A->(List A->Option p)->Option p
 |[],q=>q []
 |a::r,q=>vO a λa=>u5 r λr=>q (a::r)
def DQ(l:List A)(q:List A->Option p):u5 l q=q l:=by
 induction l generalizing q with
 |nil=>rfl
 |cons a r b=>simp[u5,yt,b]
def z0:E1->(E1->Option p)->Option p
 |.one a,q=>vO a λa=>q (.one a)
 |.agg cs,q=>u5 cs λcs=>q (.agg cs)
def yu(a:E1)(q:E1->Option p):z0 a q=q a:=by cases a<;>simp[z0,yt,DQ]
def u6:List E1->(List E1->Option p)->Option p
 |[],q=>q []
 |a::r,q=>z0 a λa=>u6 r λr=>q (a::r)
def DR(l:List E1)(q:List E1->Option p):u6 l q=q l:=by
 induction l generalizing q with
 |nil=>rfl
 |cons a r b=>simp[u6,yu,b]
def nW:D->(D->Option p)->Option p
 |.e x,q=>z0 x λx=>q (.e x)
 |.fz xs,q=>u6 xs λxs=>q (.fz xs)
 |.any,q=>q .any
theorem m0(a:D)(q:D->Option p):nW a q=q a:=by cases a<;>simp[nW,yu,DR]
end force
def BF:D->Option (Bool×Nat×Nat×(Nat->List C))
 |.e (.one (.c (.sl t k n es)))=>aa (t,k,n,es)
 |.e (.one (.vec _ k n es))=>aa (ae,k,n,es)
 |_=>af
theorem qh{d:D}{t:Bool}(h:BF d=aa (t,k,n,es))(σ:List bm)(s:St)(v:aj)(r:dm σ s v d):Rd s.M v (.sl t k n es):=by
 unfold BF at h;split at h
 .cases h;exact r
 .cases h;exact r.1
 grind
def iL(l:List UInt8)(j:Int):UInt8:=l.getD j.toNat 0
def Qz(T:List (Nat×TI))(t:aw)(d:D):Option D :=
 match bH T t with
 |none=>af
 |some i=>match i.desc with
  |.slice _=>match BF d with
   |some (_,_,n,_)=>aa (.e (.one (.c (.int .i64 n))))
   |none=>af
  |.string=>match d with
   |.e (.one (.c (.str s)))=>aa (.e (.one (.c (.int .i64 s.length))))
   |_=>af
  |_=>af
def I2(T:List (Nat×TI))(a b:aw)(d:D):Option (D×List Prop) :=
 match bH T a with
 |none=>af
 |some i1=>match bH T b with
  |none=>af
  |some i2=>match i2.desc with
   |.int k'=>match d with
    |.e (.one (.c (.int _ j)))=>aa (.e (.one (.c (.int k' j))),[bx k' j])
    |_=>af
   |.string=>match d with
    |.e (.one (.c (.str s)))=>aa (.e (.one (.c (.str s))),[])
    |d=>match i1.desc with
     |.slice E=>match bH T E with
      |some ie=>match ie.desc with
       |.int .u8=>match BF d with
        |some (_,k,n,es)=>match av k 1 with
         |true=>match vP es 0 n with
          |some r=>aa (.e (.one (.c (.str r))),[])
          |none=>af
         |false=>af
        |none=>af
       |_=>af
      |none=>af
     |_=>af
   |_=>af
def DS(T:List (Nat×TI))(η:aC->D)(t:aw)(x:aC)(lo hi:Option aC):Option (D×List Prop) :=
 match bH T t with
 |none=>af
 |some i=>match uC η lo with
  |none=>af
  |some l=>match uC η hi with
   |none=>af
   |some u=>match i.desc with
    |.string=>match η x with
     |.e (.one (.c (.str s)))=>aa (.e (.one (.c (.str (rY s l u)))),gA s.length l u)
     |_=>af
    |.slice E=>match bH T E with
     |none=>af
     |some ie=>match BF (η x)with
      |some (tt,k,n,es)=>match av k ie.size with
       |true=>aa (.e (.one (.c (.sl (QA tt u) ie.size (cD n u-cD 0 l) (mN (cD 0 l) es)))),gA n l u)
       |false=>af
      |none=>af
    |_=>af
def yv(op:BinOp)(k:IntKind)(a:Int)(k':IntKind)(b:Int):Option (D×List Prop) :=
 match Bp op k a k' b with
 |some (c,obs)=>aa (.e (.one (.c (.int k c))),obs)
 |none=>af
theorem rZ{k k':IntKind}{a b:Int}{d:D}(h:yv op k a k' b=aa (d,obs)):∃c,d=.e (.one (.c (.int k c)))/\Bp op k a k' b=aa (c,obs):=by unfold yv at h;grind
def Pm(T:List (Nat×TI))(op:BinOp)(t:aw)(x y:D):Option (D×List Prop) :=
 match x,y with
 |.e (.one (.c (.bool a))),.e (.one (.c (.bool b)))=>match bH T t with
  |some i=>match i.desc with
   |.bool=>match lH op (a==b)with
    |some c=>aa (.e (.one (.c (.bool c))),[])
    |none=>af
   |_=>af
  |none=>af
 |.e (.one (.c a)),.e (.one (.c b))=>match op with
  |.xor=>match a,b with
   |.int .i64 a,.int .i64 b=>aa (.e (.one (.c (.int .i64 ((a.toNat ^^^ b.toNat:Nat):Int)))),[0<=a,0<=b])
   |.int .u64 a,.int k' b=>yv .xor .u64 a k' b
   |_,_=>af
  |.shl=>match a,b with
   |.int k a,.int k' b=>yv .shl k a k' b
   |_,_=>af
  |.shr=>match a,b with
   |.int k a,.int k' b=>yv .shr k a k' b
   |_,_=>af
  |.and=>match a,b with
   |.int k a,.int k' b=>yv .and k a k' b
   |_,_=>af
  |_=>match M9 op a b with
   |some (c,obs)=>aa (.e (.one (.c c)),obs)
   |none=>af
 |.e (.agg cs),.e (.agg es)=>match bH T t with
  |some i=>match i.eq with
   |[]=>af
   |d::ds=>match Pn (d::ds) cs es with
    |some b=>match lH op b with
     |some c=>aa (.e (.one (.c (.bool c))),[])
     |none=>af
    |none=>af
  |none=>af
 |_,_=>af
def VA(T:List (Nat×TI))(CT:List (Nat×dz))(φ:Fr)(o:aB):Option (D×List Prop) :=
 match o.op with
 |.move x|.assign x=>aa (bO φ x,[])
 |.index t x y=>match bH T t with
  |some i=>match i.desc with
   |.string=>match bO φ x,bO φ y with
    |.e (.one (.c (.str l))),.e (.one (.c (.int _ j)))=>aa (.e (.one (.c (.int .u8 (iL l j).toNat))),[0<=j,j<l.length])
    |_,_=>af
   |_=>af
  |none=>af
 |.indexAddr t x y=>match bH T t with
  |some i=>match i.desc with
   |.slice E=>match bH T E with
    |some ie=>match BF (bO φ x),bO φ y with
     |some (_,k,n,es),.e (.one (.c (.int _ j)))=>match av k ie.size with
      |true=>aa (.e (.one (.c (.rp (es j.toNat)))),[0<=j,j<n])
      |false=>af
     |_,_=>af
    |none=>af
   |_=>af
  |none=>af
 |.slice t x lo hi af=>DS T (bO φ) t x lo hi
 |.convert src dst x=>I2 T src dst (bO φ x)
 |.call c=>match c.callee with
  |.builtin .len=>match c.args.toList,c.argTypes[0]? with
   |[x],aa t=>match Qz T t (bO φ x)with
    |some d=>aa (d,[])
    |none=>af
   |_,_=>af
  |.value fo=>BG CT φ fo c.args.toList
  |_=>af
 |.pick c a b=>match bO φ c with
  |.e (.one (.c (.bool ab)))=>aa (bO φ a,[])
  |.e (.one (.c (.bool ae)))=>aa (bO φ b,[])
  |_=>af
 |.binOp op t x y _=>Pm T op t (bO φ x) (bO φ y)
 |.unOp op _ x=>match bO φ x with
  |.e (.one (.c a))=>match VC op a with
   |some c=>aa (.e (.one (.c c)),[])
   |none=>af
  |_=>af
 |.extract x j=>match bO φ x with
  |.fz xs=>match eD j xs with
   |some e=>aa (.e e,[])
   |none=>af
  |_=>af
 |.fieldAddr t x f=>match jG T t f with
  |some (k,_)=>match bO φ x with
   |.e (.one (.ptr l off))=>aa (.e (.one (.ptr l (off+k))),[])
   |.e (.one (.c (.rp cs)))=>aa (.e (.one (.c (.rp (gZ k cs)))),[])
   |_=>af
  |none=>af
 |.field t x f=>match jG T t f with
  |some (k,j)=>match bO φ x with
   |.e (.agg cs)=>match mM j (gZ k cs)with
    |some e=>aa (.e e,[])
    |none=>af
   |_=>af
  |none=>af
 |.nilCheck x=>match bO φ x with
  |.e (.one (.ptr l off))=>aa (.e (.one (.ptr l off)),[])
  |.e (.one (.c (.rp cs)))=>aa (.e (.one (.c (.rp cs))),[])
  |_=>af
 |.build t parts=>match z8 T (bO φ) t parts.toList with
  |some cs=>aa (.e (.agg cs),[])
  |none=>af
 |.buildSlice t n parts=>match Na T (bO φ) t n parts.toList with
  |some (k,es)=>aa (.e (.one (.c (.sl ab k n λi=>es.getD i []))),[])
  |none=>af
 |.makeFunc fn a b=>match vQ (bO φ) a.toList with
  |some ca=>match vQ (bO φ) b.toList with
   |some cb=>aa (.e (.one (.c (.fn fn ca cb))),[])
   |none=>af
  |none=>af
 |.makeInterface t x=>match bH T t with
  |some i=>match BH i.desc with
   |false=>match u7 t (bO φ x)with
    |some c=>aa (.e (.one (.c c)),[])
    |none=>af
   |true=>af
  |none=>af
 |_=>af
def IV(T:List (Nat×TI))(φ:Fr)(σ:List bm)(t:aw)(x:aC):Option D :=
 match bH T t with
 |some i=>match bO φ x with
  |.e (.one (.ptr l off))=>match eD l σ with
   |some (.cells _ cs)=>match mM i (gZ off cs)with
    |some e=>aa (.e e)
    |none=>af
   |_=>af
  |.e (.one (.c (.rp cs)))=>match mM i (cs.map A.c)with
   |some e=>aa (.e e)
   |none=>af
  |_=>af
 |none=>af
def Wv(T:List (Nat×TI))(φ:Fr)(o:aB):Option (D×List Prop) :=
 match o.op with
 |.indexAddr t x y=>match bH T t with
  |some i=>match i.desc with
   |.slice E=>match bH T E with
    |some ie=>match bO φ x,bO φ y with
     |.e (.one (.bp l (.sl g k q m))),.e (.one (.c (.int _ j)))=>match av k ie.size with
      |true=>aa (.e (.one (.bp l (.el g ie.size (q+j.toNat) 0))),[0<=j,j<m])
      |false=>af
     |.e (.one (.c (.val (.slice (aa ⟨b,off,af⟩) n _)))),.e (.one (.c (.int _ j)))=>aa (.e (.one (.c (.val (.pointer (aa ⟨b,off+j.toNat*ie.size,af⟩))))),[0<=j,j<n])
     |_,_=>af
    |none=>af
   |_=>af
  |none=>af
 |.fieldAddr t x f=>match jG T t f with
  |some (k,_)=>match bO φ x with
   |.e (.one (.bp l (.el g a i q)))=>aa (.e (.one (.bp l (.el g a i (q+k)))),[])
   |.e (.one (.c (.val (.pointer (aa ⟨b,off,af⟩)))))=>aa (.e (.one (.c (.val (.pointer (aa ⟨b,off+k,af⟩))))),[])
   |_=>af
  |none=>af
 |.nilCheck x=>match bO φ x with
  |.e (.one (.bp l (.el g a i q)))=>aa (.e (.one (.bp l (.el g a i q))),[])
  |_=>af
 |.slice t x lo hi af=>match bH T t with
  |none=>af
  |some i=>match uC (bO φ) lo with
   |none=>af
   |some lw=>match uC (bO φ) hi with
    |none=>af
    |some u=>match i.desc with
     |.slice E=>match bH T E with
      |none=>af
      |some ie=>match bO φ x with
       |.e (.one (.bp l (.sl g k q m)))=>match av k ie.size with
        |true=>aa (.e (.one (.bp l (.sl g ie.size (q+cD 0 lw) (cD m u-cD 0 lw)))),gA m lw u)
        |false=>af
       |_=>af
     |_=>af
 |.slice t x af (aa y) (aa z)=>match bH T t with
  |none=>af
  |some i=>match i.desc with
   |.slice E=>match bH T E with
    |none=>af
    |some _=>match BF (bO φ x),bO φ y,bO φ z with
     |some (_,k,n,es),.e (.one (.c (.int _ j))),.e (.one (.c (.int _ m)))=>aa (.e (.one (.c (.sl ae k j.toNat es))),[0<=j,j<=m,m<=n])
     |_,_,_=>af
   |_=>af
 |.slice t x (aa w) (aa y) (aa z)=>match bH T t with
  |none=>af
  |some i=>match i.desc with
   |.slice E=>match bH T E with
    |none=>af
    |some _=>match bO φ x,bO φ w,bO φ y,bO φ z with
     |.e (.one (.bp _ (.sl _ _ _ n))),.e (.one (.c (.int _ i))),.e (.one (.c (.int _ j))),.e (.one (.c (.int _ m)))=>aa (.e (.one .any),[0<=i,i<=j,j<=m,m<=n])
     |_,_,_,_=>af
   |_=>af
 |.call c=>match c.callee with
  |.builtin .len=>match c.args.toList,c.argTypes[0]? with
   |[x],aa t=>match bH T t with
    |some i=>match i.desc with
     |.slice _=>match bO φ x with
      |.e (.one (.bp _ (.sl _ _ _ m)))=>aa (.e (.one (.c (.int .i64 m))),[])
      |.e (.one (.c (.val (.slice _ n _))))=>aa (.e (.one (.c (.int .i64 n))),[n<=9223372036854775807])
      |_=>af
     |_=>af
    |none=>af
   |_,_=>af
  |_=>af
 |_=>af
def zX(T:List (Nat×TI))(φ:Fr)(σ:List bm)(t:aw)(x:aC):Option (D×List Prop) :=
 match bH T t with
 |some it=>match bO φ x with
  |.e (.one (.bp l (.el g k i f)))=>match eD l σ with
   |some (.buf _ k' n es)=>match av k' k with
    |true=>match mM it ((gZ f (es i)).map A.c)with
     |some e=>aa (.e e,[g=n,i<n])
     |none=>af
    |false=>af
   |_=>af
  |_=>af
 |none=>af
def I3:Nat->List C->Nat->Bool
 |0,cc,k=>av cc.length k
 |_+1,_,_=>ae
def z9(T:List (Nat×TI))(φ:Fr)(σ:List bm)(t:aw)(x y:aC):Option (D×List bm×List Prop) :=
 match bH T t with
 |some it=>match bO φ x with
  |.e (.one (.bp l (.el g k i f)))=>match eD l σ with
   |some (.buf E k' n es)=>match av k' k with
    |true=>match kN (bO φ y)with
     |some new=>match av new.length it.size with
      |true=>match gU new with
       |some cc=>match I3 f cc k with
        |true=>dt (ef.sV l (.buf E k' n (oA i cc es)) σ) λσ'=>aa (.any,σ',[g=n,i<n])
        |false=>match fg f cc (es i)with
         |some ci=>dt (ef.sV l (.buf E k' n (oA i ci es)) σ) λσ'=>aa (.any,σ',[g=n,i<n])
         |none=>af
       |none=>af
      |false=>af
     |none=>af
    |false=>af
   |_=>af
  |_=>af
 |none=>af
def M6(T:List (Nat×TI))(CT:List (Nat×dz))(φ:Fr)(σ:List bm)(o:aB):Option (D×List Prop) :=
 match o.op with
 |.load t x=>match IV T φ σ t x with
  |some d=>aa (d,[])
  |none=>zX T φ σ t x
 |_=>match VA T CT φ o with
  |some r=>aa r
  |none=>Wv T φ o
def Nb(T:List (Nat×TI))(t a:aw):Option (aw×TI) :=
 match bH T t with
 |none=>af
 |some i=>match bH T a with
  |none=>af
  |some i2=>match i.desc with
   |.slice E=>match i2.desc with
    |.slice E2=>match av E2 E with
     |false=>af
     |true=>match bH T E with
      |none=>af
      |some ie=>match bz 1 ie.bytes,bz 1 ie.size with
       |true,ab=>aa (E,ie)
       |_,_=>af
    |_=>af
   |_=>af
def I4(T:List (Nat×TI))(η:aC->D)(y:aC)(t a:aw):Option (aw×TI×Nat×(Nat->List C)) :=
 match Nb T t a with
 |none=>af
 |some (E,ie)=>match BF (η y)with
  |none=>af
  |some (_,k',m,es')=>match av k' ie.size with
   |false=>af
   |true=>aa (E,ie,m,es')
def QB(T:List (Nat×TI))(η:aC->D)(σ:List bm)(x y:aC)(t a:aw):Option (D×List bm×List Prop) :=
 match I4 T η y t a with
 |none=>af
 |some (E,ie,m,es')=>match η x with
  |.e (.one (.c (.sl ab k n es)))=>match av k ie.size with
   |true=>dt (σ++[.vec E ie.size (n+m) (cT n es es')]) λσ'=>aa (.e (.one (.vec σ.length ie.size (n+m) (cT n es es'))),σ',[(n+m)*ie.bytes<=140737488355328,n=0∨0<m])
   |false=>match av n 0 with
    |true=>dt (σ++[.vec E ie.size (n+m) (cT n es es')]) λσ'=>aa (.e (.one (.vec σ.length ie.size (n+m) (cT n es es'))),σ',[(n+m)*ie.bytes<=140737488355328,n=0∨0<m])
    |false=>af
  |.e (.one (.vec l k n es))=>match eD l σ with
   |some (.vec E' k2 n2 zB)=>match av E' E,av k ie.size,av k2 ie.size with
    |true,ab,ab=>dt (ef.sV l (.vec E ie.size (n+m) (cT n es es')) σ) λσ'=>aa (.e (.one (.vec l ie.size (n+m) (cT n es es'))),σ',[n2=n,zB=es,(n+m)*ie.bytes<=140737488355328])
    |_,_,_=>af
   |_=>af
  |.e (.one (.bp l (.sl g k 0 n)))=>match eD l σ with
   |some (.buf E' k2 n2 zB)=>match av E' E,av k ie.size,av k2 ie.size with
    |true,ab,ab=>dt (ef.sV l (.buf E ie.size (n2+m) (cT n2 zB es')) σ) λσ'=>aa (.e (.one (.bp l (.sl (n2+m) ie.size 0 (n2+m)))),σ',[g=n2,n=n2,(n2+m)*ie.bytes<=140737488355328])
    |_,_,_=>af
   |_=>af
  |_=>af
def Ww(T:List (Nat×TI))(CT:List (Nat×dz))(φ:Fr)(σ:List bm)(o:aB):Option (D×List bm×List Prop) :=
 match o.op with
 |.alloc _|.box _ _=>VD T φ σ o
 |.store t x y=>match VD T φ σ o with
  |some r=>aa r
  |none=>z9 T φ σ t x y
 |.call c=>match c.callee with
  |.builtin .append=>match c.args.toList,c.argTypes.toList with
   |[x,y],[t,a]=>QB T (bO φ) σ x y t a
   |_,_=>af
  |.value fo=>I5 CT φ σ fo c.args.toList
  |_=>af
 |_=>af
def QC(T:List (Nat×TI))(η:aC->D)(x y:aC)(t a:aw):Option (D×List Prop) :=
 match I4 T η y t a with
 |none=>af
 |some (_,ie,m,es')=>match η x with
  |.e (.one (.c (.sl ab k n es)))=>match av n 0 with
   |true=>aa (.e (.one (.c (.sl ae ie.size (n+m) (cT n es es')))),[(n+m)*ie.bytes<=140737488355328,n=0∨0<m])
   |false=>af
  |_=>af
def Wx(T:List (Nat×TI))(φ:Fr)(o:aB):Option (D×List Prop) :=
 match o.op with
 |.call c=>match c.callee with
  |.builtin .append=>match c.args.toList,c.argTypes.toList with
   |[x,y],[t,a]=>QC T (bO φ) x y t a
   |_,_=>af
  |_=>af
 |_=>af
def BI:List (Nat×Bool)->Nat->Option Bool
 |[],_=>af
 |(i,b)::r,t=>match av i t with|true=>aa b|false=>BI r t
def Wm(ds:List (Nat×Bool)):Option Nat->Bool
 |none=>ae
 |some t=>match BI ds (2000000+t)with
  |some ab=>ab
  |_=>ae
def isW(ds:List (Nat×Bool)):Option Nat->Bool
 |none=>ae
 |some t=>match BI ds (3000000+t)with
  |some ab=>ab
  |_=>ae
def QD(E:aw)(ie:TI)(η:aC->D)(σ:List bm)(x y:aC):Option (D×List bm×List Prop) :=
 match η x,η y with
 |.e (.one (.bp l (.sl g k 0 i))),.e (.one (.bp l' (.sl g' k' j m)))=>match av l' l with
  |false=>af
  |true=>match eD l σ with
   |some (.buf E' k2 n es)=>match av E' E,av k ie.size,av k' ie.size,av k2 ie.size with
    |true,ab,ab,ab=>dt (ef.sV l (.buf E ie.size n (Bl i j m es)) σ) λσ'=>aa (.e (.one (.bp l (.sl n ie.size 0 (i+m)))),σ',[g=n,g'=n,i+m<=n,j+m<=n])
    |_,_,_,_=>af
   |_=>af
 |_,_=>af
def appW(w:Bool)(T:List (Nat×TI))(η:aC->D)(σ:List bm)(x y:aC)(t a:aw):Option (D×List bm×List Prop) :=
 match w with
 |true=>match I4 T η y t a with
  |none=>af
  |some (E,ie,m,es')=>match η x with
   |.e (.one (.c (.sl ab _ n es)))=>match av n 0 with
    |true=>dt (σ++[.buf E ie.size (0+m) (cT 0 es es')]) λσ'=>aa (.e (.one (.bp σ.length (.sl (0+m) ie.size 0 (0+m)))),σ',[(0+m)*ie.bytes<=140737488355328])
    |false=>af
   |_=>af
 |false=>match Nb T t a with
  |none=>af
  |some (E,ie)=>QD E ie η σ x y
def VE(w:Bool)(T:List (Nat×TI))(φ:Fr)(σ:List bm)(o:aB):Option (D×List bm×List Prop) :=
 match o.op with
 |.call c=>match c.callee with
  |.builtin .append=>match c.args.toList,c.argTypes.toList with
   |[x,y],[t,a]=>appW w T (bO φ) σ x y t a
   |_,_=>af
  |_=>af
 |_=>af
def Tp(ds:List (Nat×Bool))(T:List (Nat×TI))(CT:List (Nat×dz))(φ:Fr)(σ:List bm)(o:aB):Option (D×List bm×List Prop) :=
 match isW ds o.dst with
 |true=>VE ab T φ σ o
 |false=>match Ww T CT φ σ o with
  |some r=>aa r
  |none=>VE ae T φ σ o
def I0(ds:List (Nat×Bool))(d:Option Nat)(x:D)(obs:List Prop):Option (D×List Prop) :=
 match d with
 |none=>aa (x,obs)
 |some t=>match BI ds t with
  |none=>aa (x,obs)
  |some b=>match x with
   |.e (.one (.c (.bool e)))=>aa (.e (.one (.c (.bool b))),j0 obs [e=b])
   |_=>af
def Nc{d:Option Nat}{x y:D}{a:List Prop}(h:I0 ds d x obs=aa (y,a))(ho:au a):y=x/\au obs:=by
 unfold I0 at h;split at h
 .grind
 .split at h
  .grind
  .split at h
   .cases h;rw[au.cat]at ho;have:_=_:=ho.2;grind
   grind
def vJ(T:List (Nat×TI))(CT:List (Nat×dz))(ds:List (Nat×Bool))(all:List aB)(φ:Fr)(σ:List bm)(o:aB):Option (D×Option (List bm)×List Prop) :=
 let go:Option (D×Option (List bm)×List Prop):=match M6 T CT φ σ o with
  |some (x,obs)=>match I0 ds o.dst x obs with
   |some (y,a)=>nW y λy=>aa (y,af,a)
   |none=>af
  |none=>match Wm ds o.dst with
   |true=>match Wx T φ o with
    |some (x,obs)=>nW x λx=>aa (x,af,obs)
    |none=>af
   |false=>match Tp ds T CT φ σ o with
    |some (x,σ',obs)=>nW x λx=>aa (x,aa σ',obs)
    |none=>af
 match o.guard with
 |none=>go
 |some (j,b)=>match Aa φ all j with
  |some (aa b')=>match b,b' with
   |true,ab=>go
   |false,ae=>go
   |_,_=>aa (.fz [],af,[])
  |some af=>aa (.fz [],af,[])
  |none=>af
section
variable {X:Cx P}{T:List (Nat×TI)}{CT:List (Nat×dz)}
def FJ(d:dg P T){a:aw}{ie:TI}(ho:o.op=.call {callee:=.builtin .append,args:=#[x,y],argTypes:=#[t,a]})(h:Nb T t a=aa (E,ie)):lC P o x y E ie:=by
 unfold Nb at h;split at h
 .cases h
 rename_i i hi;split at h
 .cases h
 rename_i i2 SP;split at h
 case h_2=>cases h
 rename_i E f;split at h
 case h_2=>cases h
 rename_i E2 hE2;split at h
 .cases h
 rename_i e;have g:=b7 e;subst g;split at h
 .cases h
 rename_i ie hie;split at h
 case h_2=>cases h
 rename_i b c;cases h;exact⟨⟨t,a,i,i2,ho,d t i hi,f,d a i2 SP,hE2⟩,d _ _ hie,by have:=dM b;omega,by have:=dM c;omega⟩
def Ab(e:dg P T){b:aw}{ie:TI}{m:Nat}{es':Nat->List C}(ho:o.op=.call {callee:=.builtin .append,args:=#[x,y],argTypes:=#[t,b]})(h:I4 T η y t b=aa (E,ie,m,es')):
  lC P o x y E ie/\∃tx,∀σ s v,dm σ s v (η y)->Rd s.M v (.sl tx ie.size m es'):=by
 unfold I4 at h;split at h
 .cases h
 rename_i c;split at h
 .cases h
 rename_i tx k' m es' hy;split at h
 .cases h
 rename_i a;have d:=b7 a;subst d;cases h;exact⟨FJ e ho c,tx,λσ s v=>qh hy σ s v⟩
theorem Nd(g:dg P T)(i:∀σ s a,cr N σ s φ a->aZ o (yielded all.toArray a.tmps)=ab){f:aw}{d:D}(ho:o.op=.call {callee:=.builtin .append,args:=#[x,y],argTypes:=#[t,f]})(h:QC T (bO φ) x y t f=aa (d,obs))(b:au obs):OA X N all o φ σ d σ:=by
 unfold QC at h;split at h
 .cases h
 rename_i E2 ie m es' hY;obtain⟨e,tx,c⟩:=Ab g ho hY;have c:=λs v=>c σ s v;split at h
 .rename_i k n es hx;split at h
  .rename_i j;cases h;exact(OA.mT i (bE.oU e hx (.inr (b7 j)) c b.1 b.2)).Tw
  grind
 grind
theorem Nf(C:dg P T){B:aw}{d:D}(ho:o.op=.call {callee:=.builtin .append,args:=#[x,y],argTypes:=#[t,B]})(h:QB T η σ x y t B=aa (d,σ',obs))(a:au obs):bE P o η σ d σ':=by
 unfold QB at h;split at h
 .cases h
 rename_i E2 ie m es' hY;obtain⟨b,tx,c⟩:=Ab C ho hY;have c:=λs v=>c σ s v;split at h
 .rename_i k n es hx;split at h
  .rename_i E;rw[cW]at h;cases h;exact bE.oU b hx (.inl (b7 E)) c a.1 a.2
  .split at h
   .rename_i H;rw[cW]at h;cases h;exact bE.oU b hx (.inr (b7 H)) c a.1 a.2
   grind
 .rename_i l k n es hx;split at h
  .rename_i G F e zB hl;split at h
   .rename_i q w f;rw[cW,k8]at h;cases h;obtain⟨z,r,i⟩:e=n/\zB=es/\_:=a;subst z;subst r;have A:=b7 q;subst A;have u:=b7 w;have j:=b7 f;subst j;subst u;exact bE.GK b hx (c7 hl) c i
   grind
  grind
 .rename_i l g k n hx;split at h
  .rename_i G F e zB hl;split at h
   .rename_i q w f;rw[cW,k8]at h;cases h;obtain⟨z,r,i⟩:g=e/\n=e/\_:=a;subst z;subst r;have A:=b7 q;subst A;have u:=b7 w;have j:=b7 f;subst j;subst u;exact bE.Ng b hx (c7 hl) c i
   grind
  grind
 grind
theorem Nh(c:dg P T){d:D}(ho:o.op=.call {callee:=.builtin .len,args:=#[x],argTypes:=jP})(b:jP[0]?=aa t)(h:Qz T t (η x)=aa d):bE P o η σ d σ:=by
 unfold Qz at h;split at h
 .cases h
 rename_i i hi;split at h
 .rename_i E a;split at h
  .rename_i tt k n es hs;cases h;exact bE.Ty c ho b hi a (λs v=>qh hs σ s v)
  grind
 .grind [bE.QE]
 grind
theorem I6(l:dg P T){b c:aw}{d:D}(ho:o.op=.convert b c x)(h:I2 T b c (η x)=aa (d,obs))(a:au obs):bE P o η σ d σ:=by
 unfold I2 at h;split at h
 .cases h
 rename_i i hi;split at h
 .cases h
 rename_i i2 SP;split at h
 .rename_i k' hd;split at h
  .rename_i k j q;cases h;exact bE.Ni l ho hi SP hd q a
  grind
 .rename_i hd;split at h
  .grind [bE.Nj]
  .split at h
   .rename_i E g;split at h
    .rename_i ie hE;split at h
     .rename_i f;split at h
      .rename_i tt k n es hs;split at h
       .rename_i t;have e:=b7 t;subst e;split at h
        .rename_i r m;cases h;exact bE.GR l ho hi SP g hd hE f (λs v=>qh hs σ s v) m
        grind
       grind
      grind
     grind
    grind
   grind
 grind
theorem GS(c:dg P T){lo hi:Option aC}{d:D}(ho:o.op=.slice t x lo hi af)(h:DS T η t x lo hi=aa (d,obs))(a:au obs):bE P o η σ d σ:=by
 unfold DS at h;split at h
 .cases h
 rename_i i b;split at h
 .cases h
 rename_i l e;split at h
 .cases h
 rename_i u f;split at h
 .grind [bE.I7]
 .grind [Nat.eq_of_beq_eq_true,bE.Nk,qh]
 grind
theorem vR{xs:Array α}{x:α}(h:xs.toList=[x]):xs=#[x]:=Array.ext' h
theorem vS{xs:Array α}{x y:α}(h:xs.toList=[x,y]):xs=#[x,y]:=Array.ext' h
theorem QF(w:dg P T)(M:bG X CT){d:D}(h:VA T CT φ o=aa (d,obs))(g:au obs)(u:∀σ s a,cr N σ s φ a->aZ o (yielded all.toArray a.tmps)=ab):OA X N all o φ σ d σ:=by
 unfold VA at h;split at h
 .grind [OA.mT,bE.move]
 .grind [OA.mT,bE.assign]
 .rename_i t x y ho;split at h
  .rename_i i hi;split at h
   .rename_i A;split at h
    .rename_i l k j r C;cases h;obtain⟨J,H⟩:0<=j/\j<(l.length:Int):=g;have:=bE.I8 (σ:=σ) (m:=j.toNat) w ho hi A r C (by omega) (by omega);have e:iL l j=l[j.toNat]'(by omega):=by simp[iL,ai,bg (by omega:j.toNat<l.length)]
     grind[OA.mT]
    grind
   grind
  grind
 .rename_i t x y ho;split at h
  .rename_i i hi;split at h
   .rename_i E A;split at h
    .rename_i ie hE;split at h
     .rename_i tt k n es k2 j r C;split at h
      .rename_i L;cases h;obtain⟨J,H⟩:0<=j/\j<(n:Int):=g;have e:=b7 L;subst e;exact OA.mT u (bE.indexAddr (m:=j.toNat) w ho hi A hE (λs v=>qh r σ s v) C (by omega) (by omega))
      grind
     grind
    grind
   grind
  grind
 .grind [OA.mT,GS]
 .grind [OA.mT,I6]
 .rename_i c ho;obtain⟨I,args,jP⟩:=c;grind[vR,OA.mT,Nh,OA.BG]
 .rename_i c a b q;split at h
  .rename_i B;cases h;exact OA.mT u (bE.pick q B)
  .rename_i B;cases h;exact OA.mT u (bE.pick q B)
  grind
 .rename_i op t y z ty q;unfold Pm at h;split at h
  .grind [OA.mT,bE.QG]
  .rename_i a b _ F G;split at h
   .split at h
    .rename_i _ _ a' b' _ _;cases h;exact OA.mT u (bE.Tz q F G g.1 g.2)
    .grind [rZ,OA.mT,bE.bits]
    grind
   .grind [rZ,OA.mT,bE.bits]
   .grind [rZ,OA.mT,bE.bits]
   .grind [rZ,OA.mT,bE.bits]
   grind[OA.mT,bE.binOp]
  .rename_i cs es F G;split at h
   .grind [OA.mT,bE.structEq]
   grind
  grind
 .grind [OA.mT,bE.unOp]
 .grind [OA.mT,bE.extract,c7]
 .rename_i t y f q;split at h
  .rename_i k j K;split at h
   .rename_i l off r;cases h;exact OA.mT u (bE.r5 w q r K)
   .grind [OA.mT,bE.tT]
   grind
  grind
 .grind [OA.mT,bE.field]
 .grind [OA.mT,bE.tU,bE.vT]
 .grind [OA.mT,bE.build]
 .grind [OA.mT,bE.buildSlice]
 .grind [OA.mT,bE.makeFunc]
 .grind [OA.mT,bE.makeInterface]
 grind
theorem QH(B:dg P T){d:D}(h:Wv T φ o=aa (d,obs))(e:au obs):bE P o (bO φ) σ d σ:=by
 unfold Wv at h;split at h
 .rename_i t x y ho;split at h
  .rename_i i hi;split at h
   .rename_i E A;split at h
    .rename_i ie hE;split at h
     .rename_i l g k q m kk j r G;split at h
      .rename_i O;cases h;obtain⟨C,F⟩:0<=j/\j<(m:Int):=e;grind[Nat.eq_of_beq_eq_true,bE.Wy]
      grind
     .rename_i b off n cap kk j r G;cases h;obtain⟨C,F⟩:0<=j/\j<(n:Int):=e;grind[bE.BJ]
     grind
    grind
   grind
  grind
 .rename_i t x f ho;split at h
  .rename_i k j I;split at h
   .rename_i l g R i q r;cases h;exact bE.QI B ho r I
   .rename_i b off r;cases h;exact bE.QJ B ho r I
   grind
  grind
 .grind [bE.Wz]
 .rename_i t x lo hi ho;split at h
  .cases h
  rename_i i u;split at h
  .cases h
  rename_i S Q;split at h
  .cases h
  grind[Nat.eq_of_beq_eq_true,bE.sliceB]
 .rename_i t x y z ho;split at h
  .cases h
  rename_i i u;split at h
  .rename_i E A;split at h
   .cases h
   rename_i ie hE;split at h
   .rename_i tt k n es kj j K m r G J;cases h;obtain⟨C,F,H⟩:0<=j/\j<=m/\m<=(n:Int):=e;exact bE.slice3 B ho u A hE (λs v=>qh r σ s v) G J C F H
   grind
  grind
 .rename_i t x w y z ho;split at h
  .cases h
  rename_i i u;split at h
  .rename_i E A;split at h
   .cases h
   rename_i ie hE;split at h
   .rename_i l g k q n V i kj j K m r U G J;cases h;obtain⟨C,F,H,N⟩:0<=i/\i<=j/\j<=m/\m<=(n:Int):=e;grind[bE.slice3B]
   grind
  grind
 .rename_i c ho;obtain⟨M,args,jP⟩:=c;simp only at h;split at h
  .split at h
   .rename_i x t r L;split at h
    .rename_i i hi;split at h
     .rename_i E A;split at h
      .grind [vR,bE.WA]
      .rename_i a n cap hxx;cases h;have:=vR r;subst this;exact bE.WB B ho L hi A hxx e
      grind
     grind
    grind
   grind
  grind
 grind
theorem GU(b:dg P T)(ho:o.op=.load t x){d:D}(h:zX T φ σ t x=aa (d,obs))(a:au obs):bE P o (bO φ) σ d σ:=by
 unfold zX at h;split at h
 .rename_i q hi;split at h
  .rename_i l g k i f j;split at h
   .rename_i E k' n es hB;split at h
    .rename_i c;have e:=b7 c;subst e;split at h
     .rename_i e m;cases h;exact bE.TB b ho j a.1 (c7 hB) hi m a.2
     grind
    grind
   grind
  grind
 grind
theorem DT(c:dg P T)(ho:o.op=.store t x y){d:D}(h:z9 T φ σ t x y=aa (d,σ',obs))(a:au obs):bE P o (bO φ) σ d σ':=by
 unfold z9 at h;split at h
 .rename_i u hi;split at h
  .rename_i l g k i f m;split at h
   .rename_i E k' n es hB;split at h
    .rename_i r;have e:=b7 r;subst e;split at h
     .rename_i new hy;split at h
      .rename_i q;split at h
       .rename_i cc Pb;split at h
        .rename_i j;rw[cW,k8]at h;cases h;have b:f=0/\cc.length=k':=by
          cases f with
          |zero=>exact⟨rfl,b7 j⟩
          |succ f=>simp[I3]at j
         obtain⟨rfl,b⟩:=b;exact bE.I9 c ho m a.1 (c7 hB) hi hy (b7 q) Pb (λs=>r6 (by grind)) a.2
        .split at h
         .rename_i ci WC;rw[cW,k8]at h;cases h;exact bE.I9 c ho m a.1 (c7 hB) hi hy (b7 q) Pb (λ_=>WC) a.2
         grind
       grind
      grind
     grind
    grind
   grind
  grind
 grind
theorem QK(g:dg P T)(e:bG X CT){d:D}(h:M6 T CT φ σ o=aa (d,obs))(b:au obs)(j:∀σ s a,cr N σ s φ a->aZ o (yielded all.toArray a.tmps)=ab):OA X N all o φ σ d σ:=by
 unfold M6 at h;split at h
 .rename_i t y i;split at h
  .rename_i f c;cases h;unfold IV at c;split at c
   .grind [OA.mT,bE.FK,c7,bE.Ja]
   grind
  grind[OA.mT,GU]
 grind[QF,OA.mT,QH]
theorem QL(g:dg P T)(f:bG X CT){d:D}(h:Ww T CT φ σ o=aa (d,σ',obs))(b:au obs)(i:∀σ s a,cr N σ s φ a->aZ o (yielded all.toArray a.tmps)=ab):OA X N all o φ σ d σ':=by
 unfold Ww at h;split at h
 .grind [OA.mT,DU]
 .grind [OA.mT,DU]
 .grind [OA.mT,DU,DT]
 .rename_i c ho;obtain⟨e,args,jP⟩:=c;grind[vS,OA.mT,Nf,OA.call]
 grind
def Nl{ie:TI}{d:D}(b:lC P o x y E ie)(h:QD E ie η σ x y=aa (d,σ',obs))(a:au obs):bE P o η σ d σ':=by
 unfold QD at h;split at h
 .rename_i l g k i l' g' k' j m s w;split at h
  .cases h
  rename_i c;have el:=b7 c;subst el;split at h
  .rename_i C B n es hl;split at h
   .rename_i q q2 q3 q4;have v:=b7 q;have A:=b7 q2;have e:=b7 q3;have t:=b7 q4;rw[cW]at h;cases h;obtain⟨z,u,r,f⟩:=a;subst z u v A e t;have:=bE.Ix (σ:=σ) b s w (c7 hl) r f;grind[k8]
   grind
  grind
 grind
theorem Nm(e:dg P T){w:Bool}{f:aw}{d:D}(ho:o.op=.call {callee:=.builtin .append,args:=#[x,y],argTypes:=#[t,f]})(h:appW w T η σ x y t f=aa (d,σ',obs))(a:au obs):bE P o η σ d σ':=by
 unfold appW at h;split at h
 .split at h
  .cases h
  rename_i E2 ie m es' hY;obtain⟨b,tx,c⟩:=Ab e ho hY;split at h
  .rename_i k n es hx;split at h
   .rename_i j;have i:=b7 j;subst i;rw[cW]at h;cases h;exact bE.GJ b hx (λs v=>c _ s v) a
   grind
  grind
 .split at h
  .cases h
  rename_i g;exact Nl (FJ e ho g) h a
theorem QM(g:dg P T)(f:bG X CT){d:D}(h:Tp ds T CT φ σ o=aa (d,σ',obs))(b:au obs)(i:∀σ s a,cr N σ s φ a->aZ o (yielded all.toArray a.tmps)=ab):OA X N all o φ σ d σ':=by
 have key:∀w,VE w T φ σ o=aa (d,σ',obs)->OA X N all o φ σ d σ':=by
  intro w h;unfold VE at h;split at h
  .rename_i c ho;obtain⟨e,args,jP⟩:=c;grind[vS,OA.mT,Nm]
  grind
 unfold Tp at h;grind[QL]
def fJ(z:dg P T)(v:bG X CT){d:D}{σ':Option (List bm)}(h:vJ T CT ds all φ σ o=aa (d,σ',obs))(g:au obs):OA X N all o φ σ d (σ'.getD σ):=by
 have go:(∀σ s a,cr N σ s φ a->aZ o (yielded all.toArray a.tmps)=ab)->(match M6 T CT φ σ o with
  |some (x,obs)=>match I0 ds o.dst x obs with
   |some (y,k)=>nW y λy=>aa (y,af,k)
   |none=>af
  |none=>match Wm ds o.dst with
   |true=>match Wx T φ o with
    |some (x,obs)=>nW x λx=>aa (x,af,obs)
    |none=>af
   |false=>match Tp ds T CT φ σ o with
    |some (x,σ',obs)=>nW x λx=>aa (x,aa σ',obs)
    |none=>af)=aa (d,σ',obs)->OA X N all o φ σ d (σ'.getD σ):=by
  intro A h;split at h
  .rename_i x i B;split at h
   .rename_i y n u;rw[m0]at h;cases h;obtain⟨rfl,w⟩:=Nc u g;grind[QK]
   grind
  .split at h
   .split at h
    .rename_i x i q;rw[m0]at h;cases h;unfold Wx at q;split at q
     .rename_i c ho;obtain⟨r,args,jP⟩:=c;grind[vS,Nd]
     grind
    grind
   grind[m0,QM]
 unfold vJ at h;simp only at h;split at h
 .grind [dx]
 .rename_i j b l;split at h
  .rename_i m e;have t:∀σ s a,cr N σ s φ a->aZ o (yielded all.toArray a.tmps)=(aa m==aa b):=λσ s a f=>by simp only[aZ,l,qi e f]
   split at h
   .grind
   .grind
   .cases h;refine OA.pass (λσ s a f=>(t σ s a f).trans ?_);cases b<;>cases m<;>simp_all
  .rename_i e;cases h;exact OA.pass (λσ s a f=>by simp only[aZ,l,qi e f];rfl)
  grind
end
variable {CT:List (Nat×dz)}{K:List It}{Qf:Post}{T:List (Nat×TI)}{ie:TI}
def Im(φ:Fr)(o:aB):Bool:=match o.op with
 |.load _ x=>match bO φ x with
  |.e (.one (.c (.rp _)))=>ae
  |_=>ab
 |_=>ae
def IU{σ2:List bm}(h:Im φ o=ae):M6 T CT φ σ o=M6 T CT φ σ2 o:=by
 unfold M6;split
 .rename_i t x ho;simp only[Im,ho]at h;split at h
  .rename_i cs hx;simp only[IV,zX,hx]
  grind
 .rfl
def IW{d:D}(h:Im φ o=ae)(a:vJ T CT ds all φ σ o=aa (d,af,obs))(σ2:List bm):
  vJ T CT ds all φ σ2 o=aa (d,af,obs):=by
 unfold vJ at a⊢;simp only at a⊢;rw[IU (σ2:=σ) h];cases b:M6 T CT φ σ o with
 |some r=>grind
 |none =>
  simp only[b]at a⊢;cases c:Wm ds o.dst with
  |true=>grind
  |false =>
   simp only[c]at a⊢;have key:∀{y:Option (D×Option (List bm)×List Prop)},(match Tp ds T CT φ σ o with|some (x,σ',obs)=>nW x λx=>aa (x,aa σ',obs)|none=>af)=y->y≠aa (d,af,obs):=by grind[m0]
   split at a
   .grind
   grind
def pb(t:Nat):List aB->Bool
 |[]=>ae
 |o::r=>match o.dst with
  |some d=>match av d t with|true=>ab|false=>pb t r
  |none=>pb t r
theorem rU{t:Nat}:∀{l:List aB}{i:Nat}{o:aB},l[i]?=aa o->o.dst=aa t->pb t l=ab
 |[],_,_,h,_=>by grind
 |p::r,0,o,h,a=>by simp at h;subst h;simp[pb,a,jB]
 |p::r,i+1,o,h,a=>by have:=rU (l:=r) (by simpa using h) a;simp only[pb];grind
theorem qf{t:Nat}:∀{l:List aB},pb t l=ab->∃(i:Nat)(o:aB),l[i]?=aa o/\o.dst=aa t
 |[],h=>by cases h
 |p::r,h=>by
  simp only[pb]at h;split at h
  .rename_i d c;split at h
   .rename_i e;exact⟨0,p,rfl,by grind[Nat.eq_of_beq_eq_true]⟩
   .obtain⟨i,o,b,a⟩:=qf h;exact⟨i+1,o,by grind,a⟩
  .obtain⟨i,o,b,a⟩:=qf h;exact⟨i+1,o,by grind,a⟩
def m6:List aB->Bool
 |[]=>ab
 |o::r=>match o.dst with
  |some d=>match pb d r with|true=>ae|false=>m6 r
  |none=>m6 r
theorem sY{t:Nat}:∀{l:List aB}{i j:Nat}{o p:aB},m6 l=ab->l[i]?=aa o->l[j]?=aa p->o.dst=aa t->p.dst=aa t->i=j
 |[],_,_,_,_,_,h,_,_,_=>by grind
 |q::r,0,0,_,_,_,_,_,_,_=>rfl
 |q::r,0,j+1,o,p,ho,a,b,d1,d2=>by simp at a;subst a;simp only[m6,d1]at ho;grind[rU]
 |q::r,i+1,0,o,p,ho,a,b,d1,d2=>by simp at b;subst b;simp only[m6,d2]at ho;grind[rU]
 |q::r,i+1,j+1,o,p,ho,a,b,d1,d2=>by
  have:m6 r=ab:=by simp only[m6]at ho;grind
  have c:r[i]?=aa o:=by grind
  have d:r[j]?=aa p:=by grind
  have e:=sY this c d d1 d2;omega
def uB(all:List aB):Fr->Fr
 |[]=>[]
 |(t,d)::r=>match pb t all with|true=>uB all r|false=>(t,d)::uB all r
def lr{all:List aB}{t:Nat}:∀{φ:Fr},look (uB all φ) t=if pb t all=ab then .any else look φ t
 |[]=>by simp[uB,look]
 |(u,d)::r=>by
  simp only[uB];by_cases c:av u t=ab
  .have e:=b7 c;subst e;cases b:pb u all with
   |true=>simp only;rw[lr];grind
   |false=>simp[look]
  .have a:av u t=ae:=by grind
   cases b:pb u all with
   |true=>simp only;rw[lr];simp[look,a]
   |false=>simp only[look,a,cond];rw[lr]
def bU:List Edge->List Nat
 |[]=>[]
 |e::r=>match e.ground with
  |.textOnly _=>bU r
  |.gcOnly _=>bU r
  |_=>e.on::bU r
theorem eE{j:Nat}:∀{l:List Edge},j∈bU l↔∃e∈l,dh e=ab/\e.on=j
 |[]=>by simp[bU]
 |e::r=>by
  have c:=eE (j:=j) (l:=r);have yes:bU (e::r)=e.on::bU r->dh e=ab->(j∈bU (e::r)↔∃a∈e::r,dh a=ab/\a.on=j):=by grind
  have no:bU (e::r)=bU r->dh e=ae->(j∈bU (e::r)↔∃a∈e::r,dh a=ab/\a.on=j):=by grind
  cases b:e.ground with
  |textOnly w=>exact no (by simp only[bU,b]) (by unfold dh Region.binds;grind)
  |gcOnly w=>exact no (by simp only[bU,b]) (by unfold dh Region.binds;grind)
  |_=>exact yes (by simp only[bU,b]) (by unfold dh Region.binds;rw[b])
def vK(i t:Nat):List aB->Bool
 |[]=>ae
 |o::r=>match o.dst with
  |some d=>match av d t with
   |true=>match g9 i (bU o.after.toList)with
    |true=>vK i t r
    |false=>ab
   |false=>vK i t r
  |none=>vK i t r
def vL{i t:Nat}:∀{l:List aB},vK i t l=ae->∀(j:Nat)(o:aB),l[j]?=aa o->o.dst=aa t->g9 i (bU o.after.toList)=ab
 |[],_,j,o,h,_=>by grind
 |p::r,h,0,o,a,b=>by simp at a;subst a;simp only[vK,b,jB]at h;grind
 |p::r,h,j+1,o,a,b=>by
  have:vK i t r=ae:=by simp only[vK]at h;grind
  exact vL this j o (by grind) b
def pd(all:List aB):Fr->List (Nat×D×Bool)
 |[]=>[]
 |(t,d)::r=>match pb t all with
  |true=>(t,d,ab)::pd all r
  |false=>(t,d,ae)::pd all r
def ku(i:Nat)(all:List aB):List (Nat×D×Bool)->Fr
 |[]=>[]
 |(t,d,b)::r=>match b with
  |false=>(t,d)::ku i all r
  |true=>match vK i t all with
   |true=>ku i all r
   |false=>(t,d)::ku i all r
def yr{i:Nat}{all:List aB}{t:Nat}:∀{φ:Fr},look (ku i all (pd all φ)) t=if pb t all=ab/\vK i t all=ab then .any else look φ t
 |[]=>by simp[pd,ku,look]
 |(u,d)::r=>by
  have e:=yr (i:=i) (all:=all) (t:=t) (φ:=r);have keep:look ((u,d)::ku i all (pd all r)) t=if av u t=ab then d else look (ku i all (pd all r)) t:=by simp only[look];cases av u t<;>rfl
  have b:look ((u,d)::r) t=if av u t=ab then d else look r t:=by simp only[look];cases av u t<;>rfl
  cases a:pb u all with
  |false =>
   simp only[pd,a,ku];grind[Nat.eq_of_beq_eq_true]
  |true =>
   cases c:vK i u all with
   |true =>
    simp only[pd,a,ku,c];grind[Nat.eq_of_beq_eq_true]
   |false =>
    simp only[pd,a,ku,c];grind[Nat.eq_of_beq_eq_true]
def jb(m:Nat->Bool):Nat->List (Option Nat×D)->Fr->Fr
 |_,[],φ=>φ
 |i,(d,x)::r,φ=>match m i with
  |true=>match d with
   |some t=>(t,x)::jb m (i+1) r φ
   |none=>jb m (i+1) r φ
  |false=>jb m (i+1) r φ
def m7{m:Nat->Bool}{φ:Fr}{t:Nat}:∀{l:List (Option Nat×D)}{i:Nat},(∃j x,l[j]?=aa (aa t,x)/\m (i+j)=ab/\look (jb m i l φ) t=x)∨look (jb m i l φ) t=look φ t
 |[],i=>.inr rfl
 |(d,x)::r,i=>by
  have k:=m7 (m:=m) (φ:=φ) (t:=t) (l:=r) (i:=i+1);have step:look (jb m i ((d,x)::r) φ) t=look (jb m (i+1) r φ) t->((∃j b,((d,x)::r)[j]?=aa (aa t,b)/\m (i+j)=ab/\look (jb m i ((d,x)::r) φ) t=b)∨look (jb m i ((d,x)::r) φ) t=look φ t):=by
   intro e;rw[e];rcases k with⟨j,b,o,n,f⟩|h
   .exact .inl ⟨j+1,b,by grind,by grind,f⟩
   grind
  cases a:m i with
  |false=>exact step (by simp[jb,a])
  |true =>
   cases d with
   |none=>exact step (by simp[jb,a])
   |some u =>
    by_cases g:av u t=ab
    .have e:=b7 g;subst e;exact .inl ⟨0,x,rfl,by grind,by simp[jb,a,look]⟩
    .have c:av u t=ae:=by grind
     exact step (by simp[jb,a,look,c])
structure Dt where
 i:Nat
 pre:List (Option Nat×D)
 σ:List bm
 cls:List (List Bool)
 zY:List Bool
 M7:List Bool
 obs:List Prop
def SL(i:Nat):List Nat->Bool
 |[]=>ab
 |k::r=>match Nat.blt k i with|true=>SL i r|false=>ae
def DO{i:Nat}:∀{l:List Nat},SL i l=ab->∀k∈l,k<i
 |[],_,k,h=>by grind
 |x::r,h,k,a=>by
  simp only[SL]at h;cases b:Nat.blt x i with
  |false=>grind
  |true =>
   simp only[b]at h;rcases dC.1 a with rfl|a
   .exact dM b
   .exact DO h k a
def bit:List Bool->Nat->Bool
 |[],_=>ae
 |b::_,0=>b
 |_::r,n+1=>bit r n
def xV:List Bool->List Bool->List Bool
 |[],b=>b
 |true::a,[]=>ab::a
 |false::a,[]=>ae::a
 |true::a,_::b=>ab::xV a b
 |false::a,ab::b=>ab::xV a b
 |false::a,ae::b=>ae::xV a b
def mf:∀{a b:List Bool}{j:Nat},bit (xV a b) j=(bit a j||bit b j)
 |[],b,j=>by simp[xV,bit]
 |true::a,[],j=>by simp[xV,bit]
 |false::a,[],j=>by simp[xV,bit]
 |true::a,c::b,0=>by simp[xV,bit]
 |true::a,c::b,j+1=>by simp only[xV,bit];exact mf
 |false::a,ab::b,0=>by simp[xV,bit]
 |false::a,ab::b,j+1=>by simp only[xV,bit];exact mf
 |false::a,ae::b,0=>by simp[xV,bit]
 |false::a,ae::b,j+1=>by simp only[xV,bit];exact mf
def sZ:Nat->List Bool
 |0=>[ab]
 |n+1=>ae::sZ n
theorem rV:∀{n j:Nat},bit (sZ n) j=decide (n=j)
 |0,0=>rfl
 |0,j+1=>by simp[sZ,bit]
 |n+1,0=>by simp[sZ,bit]
 |n+1,j+1=>by simp only[sZ,bit,rV];simp
def FE(a:List (List Bool)):List Nat->List Bool
 |[]=>[]
 |e::r=>match eD e a with
  |some c=>xV (xV c (sZ e)) (FE a r)
  |none=>xV (sZ e) (FE a r)
theorem zZ{b:List (List Bool)}{j:Nat}:∀{l:List Nat},bit (FE b l) j=ab->∃e∈l,e=j∨∃c,b[e]?=aa c/\bit c j=ab
 |[],h=>by simp[FE,bit]at h
 |e::r,h=>by
  simp only[FE,e9]at h;have two:∀{a:Nat},bit (sZ e) a=ab->e=a:=by grind[rV]
  have rest:bit (FE b r) j=ab->∃d∈e::r,d=j∨∃c,b[d]?=aa c/\bit c j=ab:=by intro h;obtain⟨d,i,f⟩:=zZ h;grind
  split at h
  .rename_i c g;rw[mf,mf,mK,mK]at h;grind
  .rw[mf,mK]at h;grind
def s8:List Bool->List Bool->Bool
 |[],_=>ab
 |true::a,ab::b=>s8 a b
 |true::_,_=>ae
 |false::a,_::b=>s8 a b
 |false::a,[]=>s8 a []
theorem qg:∀{a b:List Bool}{j:Nat},s8 a b=ab->bit a j=ab->bit b j=ab
 |[],b,j,_,d=>by simp[bit]at d
 |true::a,ab::b,0,_,_=>rfl
 |true::a,ab::b,j+1,h,d=>by simp only[bit]at d⊢;exact qg (by simpa[s8]using h) d
 |true::a,ae::b,j,h,_=>by simp[s8]at h
 |true::a,[],j,h,_=>by simp[s8]at h
 |false::a,c::b,0,_,d=>by simp[bit]at d
 |false::a,c::b,j+1,h,d=>by simp only[bit]at d⊢;exact qg (by simpa[s8]using h) d
 |false::a,[],0,_,d=>by simp[bit]at d
 |false::a,[],j+1,h,d=>by simp only[bit]at d;have:=qg (j:=j) (by simpa[s8]using h) d;simp[bit]at this
def rW(T:List (Nat×TI))(CT:List (Nat×dz))(N:Nat)(ds:List (Nat×Bool))(all:List aB)(φm:List (Nat×D×Bool))(st:Dt)(o:aB):Option Dt :=
 match fE N o.dst with
 |false=>af
 |true =>
  dt (bU o.after.toList) λes =>
  match SL st.i es with
  |false=>af
  |true=>match vJ T CT ds all (jb (λj=>g9 j es) 0 st.pre (ku st.i all φm)) st.σ o with
   |none=>af
   |some (x,σ',obs) =>
    dt (FE st.cls es) λcl =>
    match σ',Im (jb (λj=>g9 j es) 0 st.pre (ku st.i all φm)) o with
    |none,ae=>dt (st.pre++[(o.dst,x)]) λpre=>dt (st.cls++[cl]) λcls=>dt (j0 obs st.obs) λobs=>aa ⟨st.i+1,pre,st.σ,cls,st.zY,st.M7,obs⟩
    |none,ab=>match s8 st.zY cl with
     |true=>dt (st.pre++[(o.dst,x)]) λpre=>dt (st.cls++[cl]) λcls=>dt (j0 obs st.obs) λobs=>dt (xV st.M7 (sZ st.i)) λa=>aa ⟨st.i+1,pre,st.σ,cls,st.zY,a,obs⟩
     |false=>af
    |some σ',_=>match s8 st.M7 cl with
     |true=>dt (st.pre++[(o.dst,x)]) λpre=>dt (st.cls++[cl]) λcls=>dt (j0 obs st.obs) λobs=>dt (xV st.M7 (sZ st.i)) λa=>dt (xV st.zY (sZ st.i)) λb=>aa ⟨st.i+1,pre,σ',cls,b,a,obs⟩
     |false=>af
def M8(T:List (Nat×TI))(CT:List (Nat×dz))(N:Nat)(ds:List (Nat×Bool))(all:List aB)(φm:List (Nat×D×Bool)):List aB->Dt->Option Dt
 |[],st=>aa st
 |o::r,st=>match rW T CT N ds all φm st o with
  |some qB=>M8 T CT N ds all φm r qB
  |none=>af
def FF(T:List (Nat×TI))(CT:List (Nat×dz))(N:Nat)(ds:List (Nat×Bool))(all:List aB)(φ:Fr)(σ:List bm):Option (Fr×List bm×List Prop) :=
 match m6 all with
 |false=>af
 |true=>dt (pd all φ) λφm=>match M8 T CT N ds all φm all ⟨0,[],σ,[],[],[],[]⟩with
  |some st=>dt (jb (λ_=>ab) 0 st.pre (uB all φ)) λφ'=>aa (φ',st.σ,st.obs)
  |none=>af
def jo:aB:=⟨af,.move (.tmp 0),0,"",#[],af⟩
section
variable (T:List (Nat×TI))(CT:List (Nat×dz))(N:Nat)(ds:List (Nat×Bool))(all:List aB)(φm:List (Nat×D×Bool))
def xX(st:Dt):Nat->Dt
 |0=>st
 |i+1=>(rW T CT N ds all φm (xX st i) (all.getD i jo)).getD (xX st i)
def Pj(st:Dt)(i:Nat):Fr:=jb (λj=>g9 j (bU (all.getD i jo).after.toList)) 0 (xX T CT N ds all φm st i).pre (ku (xX T CT N ds all φm st i).i all φm)
def FG(st:Dt)(i:Nat):Option (D×Option (List bm)×List Prop):=vJ T CT ds all (Pj T CT N ds all φm st i) (xX T CT N ds all φm st i).σ (all.getD i jo)
def xD(st:Dt)(i:Nat):D:=match FG T CT N ds all φm st i with|some (x,_,_)=>x|none=>.any
def oJ(st:Dt)(i:Nat):Bool:=match FG T CT N ds all φm st i with|some (_,aa _,_)=>ab|_=>ae
def tS(st:Dt)(i:Nat):Bool:=!Im (Pj T CT N ds all φm st i) (all.getD i jo)&&!oJ T CT N ds all φm st i
def Pk(st:Dt)(i:Nat):List Bool:=FE (xX T CT N ds all φm st i).cls (bU (all.getD i jo).after.toList)
end
section
variable {T:List (Nat×TI)}{CT:List (Nat×dz)}{N:Nat}{ds:List (Nat×Bool)}{all:List aB}{φm:List (Nat×D×Bool)}
structure IX(T:List (Nat×TI))(CT:List (Nat×dz))(N:Nat)(ds:List (Nat×Bool))(all:List aB)(φm:List (Nat×D×Bool))(st qB:Dt)(o:aB)(x:D)(σ':Option (List bm))(obs:List Prop):Prop where
 dst:fE N o.dst=ab
 lt:SL st.i (bU o.after.toList)=ab
 op:vJ T CT ds all (jb (λj=>g9 j (bU o.after.toList)) 0 st.pre (ku st.i all φm)) st.σ o=aa (x,σ',obs)
 i:qB.i=st.i+1
 pre:qB.pre=st.pre++[(o.dst,x)]
 cls:qB.cls=st.cls++[FE st.cls (bU o.after.toList)]
 σ:qB.σ=σ'.getD st.σ
 obs:qB.obs=j0 obs st.obs
 eff:qB.zY=if σ'.isSome=ab then xV st.zY (sZ st.i)else st.zY
 nf:qB.M7=if(Im (jb (λj=>g9 j (bU o.after.toList)) 0 st.pre (ku st.i all φm)) o||σ'.isSome)=ab then xV st.M7 (sZ st.i)else st.M7
 load:Im (jb (λj=>g9 j (bU o.after.toList)) 0 st.pre (ku st.i all φm)) o=ab->σ'.isSome=ae->s8 st.zY (FE st.cls (bU o.after.toList))=ab
 iJ:σ'.isSome=ab->s8 st.M7 (FE st.cls (bU o.after.toList))=ab
def BE{st qB:Dt}(h:rW T CT N ds all φm st o=aa qB):∃x σ' obs,IX T CT N ds all φm st qB o x σ' obs:=by
 unfold rW at h;split at h
 .cases h
 rename_i b;simp only[cW]at h;split at h
 .cases h
 rename_i a;split at h
 .cases h
 rename_i x σ' obs iz;refine⟨x,σ',obs,?_⟩;cases σ' with
 |none =>
  cases d:Im (jb (λj=>g9 j (bU o.after.toList)) 0 st.pre (ku st.i all φm)) o with
  |false =>
   simp only[d,cW]at h;cases h;exact⟨b,a,iz,rfl,rfl,rfl,rfl,rfl,by simp,by grind,by grind,by simp⟩
  |true =>
   simp only[d,cW]at h;split at h
   .rename_i c;cases h;exact⟨b,a,iz,rfl,rfl,rfl,rfl,rfl,by simp,by grind,λ_ _=>c,by simp⟩
   grind
 |some σ' =>
  simp only[cW]at h;split at h
  .rename_i c;cases h;exact⟨b,a,iz,rfl,rfl,rfl,rfl,rfl,by simp,by simp,by simp,λ_=>c⟩
  grind
def FH{st sf:Dt}:∀{rest:List aB}{k:Nat},(∀i,rest[i]?=all[k+i]?)->M8 T CT N ds all φm rest (xX T CT N ds all φm st k)=aa sf ->
  (∀i o,rest[i]?=aa o->rW T CT N ds all φm (xX T CT N ds all φm st (k+i)) o=aa (xX T CT N ds all φm st (k+i+1)))/\xX T CT N ds all φm st (k+rest.length)=sf
 |[],k,_,h=>by cases h;grind
 |p::r,k,c,h=>by
  simp only[M8]at h;have d:all[k]?=aa p:=by have:=c 0;grind
  split at h
  .rename_i a b;have e:xX T CT N ds all φm st (k+1)=a:=by simp only[xX,ai,d,ga,b]
   rw[<-e]at h;obtain⟨g,f⟩:=FH (rest:=r) (k:=k+1) (λi=>by have:=c (i+1);grind) h;grind
  grind
theorem IY:∀{l:List Nat},g9 j l=ab->j∈l:=by
 intro l;induction l with
 |nil=>intro h;cases h
 |cons a r b =>
  intro h;simp only[g9]at h;grind[Nat.eq_of_beq_eq_true]
def IZ{X:Cx P}(hf:P.follows Departure.mixedOrders=ab)(hT:dg P T)(hC:bG X CT){φ':Fr}(h:FF T CT N ds ops.toList φ σ=aa (φ',σ',obs))(aap:au obs){Q:Post}(hQ:Q .normal φ' σ')(id:Nat):
  AW X N (.region id ops ab) Q φ σ:=by
 unfold FF at h;split at h
 .cases h
 rename_i Yn;rw[cW]at h;split at h
 case h_2=>cases h
 rename_i sf vM;rw[cW]at h;cases h;generalize Qw:ops.toList=all at *;generalize Wn:pd all φ=φm at *;have M:∀i:Nat,ops[i]?=all[i]?:=λi=>by grind
 have MQ:ops.size=all.length:=by grind
 let g:Dt:=⟨0,[],σ,[],[],[],[]⟩
 obtain⟨E,G⟩:=FH (T:=T) (CT:=CT) (N:=N) (ds:=ds) (φm:=φm) (st:=g) (rest:=all) (k:=0) (λi=>by simp) vM;simp only[bA]at E G;let F:=xX T CT N ds all φm g;have q:∀i o,all[i]?=aa o->all.getD i jo=o:=λi o h=>by grind
 have Yo:∀i o,all[i]?=aa o->Pj T CT N ds all φm g i=(jb (λj=>g9 j (bU (o).after.toList)) 0 (F i).pre (ku (F i).i all φm)):=λi o h=>by unfold Pj;grind
 have facts:∀i o,all[i]?=aa o->∃K,IX T CT N ds all φm (F i) (F (i+1)) o (xD T CT N ds all φm g i) (if oJ T CT N ds all φm g i=ab then aa (F (i+1)).σ else af) K:=by
  intro i o ho;obtain⟨x,σ1,K,n⟩:=BE (E i o ho);have A:=n.op;have hR:FG T CT N ds all φm g i=aa (x,σ1,K):=by unfold FG Pj;grind
  have hx:xD T CT N ds all φm g i=x:=by unfold xD;rw[hR]
  cases σ1 with
  |none =>
   have u:oJ T CT N ds all φm g i=ae:=by unfold oJ;rw[hR]
   grind
  |some σ2 =>
   have u:oJ T CT N ds all φm g i=ab:=by unfold oJ;rw[hR]
   have hσ2:(F (i+1)).σ=σ2:=n.σ;grind
 have O:∀i,i<=all.length->(F i).i=i:=by
  intro i;induction i with
  |zero=>intro _;rfl
  |succ i B =>
   intro hi;obtain⟨_,n⟩:=facts i _ (bg (by omega));rw[n.i,B (by omega)]
 have Tq:∀i,i<=all.length->∀j,(F i).pre[j]?=if j<i then(all[j]?).map (λo=>(o.dst,xD T CT N ds all φm g j))else af:=by
  intro i;induction i with
  |zero=>intro _ j;simp[F,xX,g]
  |succ i B =>
   intro hi j;obtain⟨_,n⟩:=facts i _ (bg (by omega));have Y:(F i).pre.length=i:=by
    apply uS
    .grind
    grind
   rw[n.pre];grind
 have Wo:∀i,i<=all.length->∀j,(F i).cls[j]?=if j<i then aa (Pk T CT N ds all φm g j)else af:=by
  intro i;induction i with
  |zero=>intro _ j;simp[F,xX,g]
  |succ i B =>
   intro hi j;obtain⟨_,n⟩:=facts i _ (bg (by omega));have Y:(F i).cls.length=i:=by
    apply uS
    .apply Nat.le_of_not_lt;intro r;have:=B (by omega) i;grind
    grind
   rw[n.cls];by_cases Wp:j<i
   .grind
   .rw[fA (by omega)];by_cases e:j=i
    .subst e;rw[br (by omega),Y,Nat.sub_self];simp only[ju,Pk,q j _ (bg (by omega:j<all.length))];rfl
    grind
 have aar:∀i,i<=all.length->∀j,bit (F i).zY j=(decide (j<i)&&oJ T CT N ds all φm g j):=by
  intro i;induction i with
  |zero=>intro _ j;simp[F,xX,g,bit]
  |succ i B =>
   intro hi j;obtain⟨_,n⟩:=facts i _ (bg (by omega));rw[n.eff];cases u:oJ T CT N ds all φm g i with
   |false =>
    grind
   |true =>
    simp only[bY,Option.isSome_some];rw[mf,B (by omega) j,rV,O i (by omega)];by_cases e:j=i
    .grind
    grind
 have nfI:∀i,i<=all.length->∀j,bit (F i).M7 j=(decide (j<i)&&!tS T CT N ds all φm g j):=by
  intro i;induction i with
  |zero=>intro _ j;simp[F,xX,g,bit]
  |succ i B =>
   intro hi j;obtain⟨_,n⟩:=facts i _ (bg (by omega));have Tr:(if oJ T CT N ds all φm g i=ab then aa (F (i+1)).σ else af).isSome=oJ T CT N ds all φm g i:=by cases oJ T CT N ds all φm g i<;>rfl
   have Yp:tS T CT N ds all φm g i=!(Im (jb (λj=>g9 j (bU (all[i]'(by omega)).after.toList)) 0 (F i).pre (ku (F i).i all φm)) (all[i]'(by omega))||oJ T CT N ds all φm g i):=by unfold tS;rw[Yo i _ (bg (by omega)),q i _ (bg (by omega))];simp
   rw[n.nf,Tr];cases u:(Im (jb (λj=>g9 j (bU (all[i]'(by omega)).after.toList)) 0 (F i).pre (ku (F i).i all φm)) (all[i]'(by omega))||oJ T CT N ds all φm g i)with
   |false =>
    grind
   |true =>
    simp only[bY];rw[mf,B (by omega) j,rV,O i (by omega)];by_cases e:j=i
    .grind
    grind
 have Z:∀i,i<=all.length->au (F i).obs:=by
  have back:∀k i,i+k=all.length->au (F i).obs:=by
   intro k;induction k with
   |zero =>
    grind
   |succ k B =>
    intro i hi;obtain⟨_,n⟩:=facts i _ (bg (by omega));have:=B (i+1) (by omega);rw[n.obs,au.cat]at this;exact this.2
  intro i hi;exact back (all.length-i) i (by omega)
 have oaI:∀i o,all[i]?=aa o->OA X N all o (Pj T CT N ds all φm g i) (F i).σ (xD T CT N ds all φm g i) (F (i+1)).σ:=by intro i o ho;have hi:i<all.length:=(b8.1 ho).1;obtain⟨_,n⟩:=facts i o ho;have SM:=Z (i+1) (by omega);rw[n.obs,au.cat]at SM;have:=fJ (P:=P) (N:=N) hT hC n.op SM.1;rw[n.σ];grind
 let idx:Nat->Option Nat:=λt=>(bk all.length).find? (λi=>decide ((all.getD i jo).dst=aa t));have I:∀t j,idx t=aa j->∃o,all[j]?=aa o/\o.dst=aa t:=by grind
 have H:∀i o d,all[i]?=aa o->o.dst=aa d->idx d=aa i:=by
  intro i o d ho hd;have hi:i<all.length:=(b8.1 ho).1;cases hx:idx d with
  |none =>
   grind
  |some j =>
   grind[sY]
 have S:∀t,pb t all=ab↔∃j,idx t=aa j:=by grind[qf,rU]
 have W:∀i o,all[i]?=aa o->∀e∈o.after,dh e=ab->e.on<i:=by intro i o ho e u R;have hi:i<all.length:=(b8.1 ho).1;obtain⟨_,n⟩:=facts i o ho;have:=DO n.lt e.on (eE.2 ⟨e,by grind,R,rfl⟩);grind
 have Yq:=W;have hd:vH X N ops φ (λi=>(F i).σ) (xD T CT N ds all φm g) (Pj T CT N ds all φm g) (tS T CT N ds all φm g) (λi=>decide (i<all.length)&&oJ T CT N ds all φm g i) (λi j=>i<all.length/\bit (Pk T CT N ds all φm g i) j=ab) idx (jb (λ_=>ab) 0 sf.pre (uB all φ)):=by
  refine⟨hf,?_,?_,?_,?_,?_,?_,?_,?_,?_,?_⟩
  .grind
  .intro i o d ho hd;rw[M]at ho;obtain⟨_,n⟩:=facts i o ho;exact⟨H i o d ho hd,gE n.dst d hd⟩
  .grind
  .intro i u;rcases cG i all.length with hi|hi
   .obtain⟨_,n⟩:=facts i _ (bg hi);have:oJ T CT N ds all φm g i=ae:=by grind
    have hσ:=n.σ;grind
   .have h0:all.getD i jo=jo:=by grind
    show(F (i+1)).σ=(F i).σ;have:rW T CT N ds all φm (F i) jo=af∨∃s',rW T CT N ds all φm (F i) jo=aa s':=by
     cases rW T CT N ds all φm (F i) jo with
     |none=>grind
     |some s'=>grind
    show((rW T CT N ds all φm (F i) (all.getD i jo)).getD (F i)).σ=(F i).σ;rw[h0];rcases this with h|⟨s',h⟩
    .grind
    .rw[h];obtain⟨x,σ1,ob,n⟩:=BE h;have A:=n.op;have:σ1=af:=by unfold vJ at A;simp only[jo,M6,VA,I0,m0]at A;grind
     rw[ga,n.σ,this];rfl
  .grind
  .intro i o ho FI;rw[M]at ho;have hi:i<all.length:=(b8.1 ho).1;have p:Im (jb (λj=>g9 j (bU (o).after.toList)) 0 (F i).pre (ku (F i).i all φm)) o=ae/\oJ T CT N ds all φm g i=ae:=by unfold tS at FI;grind
   refine⟨by grind,λk=>?_⟩;obtain⟨ob,n⟩:=facts i o ho;have A:=n.op;rw[p.2]at A;have Wq:=IW p.1 (by simpa using A) (F k).σ;have SM:=Z (i+1) (by omega);rw[n.obs,au.cat]at SM;have:=fJ (P:=P) (N:=N) hT hC Wq SM.1;grind
  .intro L hL i j ⟨hi,R⟩;have gm:∀i,i<all.length->L i->∀e,e∈bU (all.getD i jo).after.toList->L e:=by intro i hi Yr e u;rw[q i _ (bg hi)]at u;obtain⟨e',U,h2,rfl⟩:=eE.1 u;grind
   have key:∀i,i<all.length->∀j,bit (Pk T CT N ds all φm g i) j=ab->(∀e∈bU (all.getD i jo).after.toList,L e)->L j:=by
    intro i;induction i using Nat.strongRecOn with
    |_ i B =>
     intro hi j R Ts;obtain⟨e,u,h⟩:=zZ R;have r:e<i:=by have Tt:=u;rw[q i _ (bg hi)]at Tt;obtain⟨e',U,h2,rfl⟩:=eE.1 Tt;grind
     rcases h with rfl|⟨c,hc,MI⟩
     .grind
     .have:=Wo i (by omega) e;rw[br r]at this;have V4:(F i).cls[e]?=aa c:=hc;rw[V4]at this;cases this;exact B e r (by omega) j MI (gm e (by omega) (Ts e u))
   refine⟨λYr=>key i hi j R (gm i hi Yr),all[i],by grind,λM5=>key i hi j R ?_⟩;grind[List.getElem?_eq_getElem,eE]
  .intro i f hi SK u Bf Ys;rw[MQ]at hi SK;have Tt:oJ T CT N ds all φm g f=ab:=by grind
   rcases cG f i with r|SN
   .refine .inl ⟨r,hi,?_⟩;obtain⟨_,n⟩:=facts i _ (bg hi);have Mx:Pk T CT N ds all φm g i=FE (F i).cls (bU (all[i]).after.toList):=by unfold Pk;grind
    rw[Mx];cases hei:oJ T CT N ds all φm g i with
    |true =>
     have U:=n.iJ (by grind);refine qg U ?_;rw[nfI i (by omega) f];have:tS T CT N ds all φm g f=ae:=by unfold tS;grind
     grind
    |false =>
     have VB:Im (jb (λj=>g9 j (bU (all[i]).after.toList)) 0 (F i).pre (ku (F i).i all φm)) all[i]=ab:=by unfold tS at Ys;rw[Yo i _ (bg hi),q i _ (bg hi),hei]at Ys;grind
     have U:=n.load VB (by grind);grind[qg]
   .have r:i<f:=by omega
    refine .inr ⟨r,SK,?_⟩;obtain⟨_,n⟩:=facts f _ (bg SK);have Mx:Pk T CT N ds all φm g f=FE (F f).cls (bU (all[f]).after.toList):=by unfold Pk;grind
    rw[Mx];have U:=n.iJ (by grind);grind[qg]
  .intro i o ho t σ s v V;rw[M]at ho;have hi:i<all.length:=(b8.1 ho).1;unfold Pj;rw[q i o ho];rcases m7 (m:=λj=>g9 j (bU o.after.toList)) (φ:=ku (F i).i all φm) (t:=t) (l:=(F i).pre) (i:=0)with⟨j,x,U,h2,h3⟩|h3
   .have Wr:look (jb (λj=>g9 j (bU o.after.toList)) 0 (xX T CT N ds all φm g i).pre (ku (xX T CT N ds all φm g i).i all φm)) t=x:=h3;rw[Wr];have hp:=Tq i (by omega) j;rw[U]at hp;have Wp:j<i:=by grind
    rw[br Wp,bg (by omega:j<all.length)]at hp;simp only[mI,dq,lA]at hp;obtain⟨hp1,hp2⟩:=hp;have z:=H j _ t (bg (by omega:j<all.length)) hp1.symm;rw[z]at V;simp only at V;rw[br]at V
    .grind
    .have Ws:j∈bU o.after.toList:=by simp only[bA]at h2;exact IY h2
     obtain⟨e,a,b,c⟩:=eE.1 Ws;grind
   .have Wr:look (jb (λj=>g9 j (bU o.after.toList)) 0 (xX T CT N ds all φm g i).pre (ku (xX T CT N ds all φm g i).i all φm)) t=look (ku (F i).i all φm) t:=h3;rw[Wr,O i (by omega),<-Wn,yr];split
    .trivial
    .rename_i Yt;cases z:idx t with
     |some j =>
      have hD:=(S t).2 ⟨j,z⟩;have hN:vK i t all=ae:=by grind
      obtain⟨oj,Wj,Wk⟩:=I t j z;have hm:=IY (vL hN j oj Wj Wk);obtain⟨e,u,R,heq⟩:=eE.1 hm;rw[z]at V;simp only at V;split at V
      ·
       rename_i hex;obtain⟨e2,Pd,Yu,aaw⟩:=hex;grind
      .rw[br ⟨oj,by grind,e,by grind,R,heq⟩]at V;exact V
     |none=>grind
  .intro t σ s v V;have hF:F all.length=sf:=G;rcases m7 (m:=λ_=>ab) (φ:=uB all φ) (t:=t) (l:=sf.pre) (i:=0)with⟨j,x,U,_,h3⟩|h3
   .rw[h3];have hp:=Tq all.length (ba _) j;rw[hF,U]at hp;have Wp:j<all.length:=by grind
    grind
   .rw[h3,lr];split
    .trivial
    grind
 intro s a Yp hh b kk cs SS R Wt;have Qi:F ops.size=sf:=by grind
 refine .next rfl λy C=>?_;have C:=X.ij C;have J:=hh.rely C;have Wu:=Yp.rely C hh;have Qx:Step σ y σ {y with w:={y.w with drawn:=y.w.drawn+1}}:=Step.same rfl rfl rfl rfl;have Dq:aD σ {y with w:={y.w with drawn:=y.w.drawn+1}}:=J.same rfl;have Yv:=C.stepW.trans (Qx.ow J);refine⟨_,{y with w:={y.w with drawn:=y.w.drawn+1}},#[],lE,⟨⟨σ,σ,J,Dq,Qx⟩,.nil⟩,?_⟩;simp only[Region.schedule,hf,Bool.true_or,bY];refine hd.arr R (s0:={y with w:={y.w with drawn:=y.w.drawn+1}}) (λs2 a2 f2 h2 oE=>?_) ops.size _ (by simp) ?_ ?_ 0 _ a (by omega) ?_ ?_ Dq (.refl _ _) _
 .simp only[Qi]at f2 h2 oE;exact Wt .normal _ _ s2 a2 hQ f2 h2 (Yv.trans oE)
 .simp
 .intro i o ho hi;simp[dL,mF]at hi;split at hi<;>simp at hi
 .intro f SK Ym;simp[dL,mF];split<;>simp
 .have p:=Wu.mono (Qx.ow J) J.len;refine⟨p.size,p.defers,λt=>?_⟩;unfold fX;cases z:idx t with
  |none=>exact p.slot t
  |some j =>
   simp only;rw[a9]
   .exact p.slot t
   .simp[dL,mF];split<;>simp
end
section
variable {X:Cx P}
theorem AK.draw(b:P.follows Departure.mixedOrders=ab)(c:dg P T)(hC:bG X CT){φ':Fr}{id:Nat}(h:FF T CT N ds ops.toList φ σ=aa (φ',σ',obs))(a:au obs)(k:AK X N Qf K .normal φ' σ'):AK X N Qf (.code (.region id ops ab)::K) .normal φ σ :=
 IZ b c hC h a k id
end
def vF(T:List (Nat×TI))(CT:List (Nat×dz))(ds:List (Nat×Bool))(N:Nat)(K:List It)(φ:Fr)(σ:List bm):Option (List It×Fr×List bm×List Prop) :=
 match K with
 |[]=>af
 |.blk _::K=>aa (K,φ,σ,[])
 |.ops _ []::K=>aa (K,φ,σ,[])
 |.ops all (o::rest)::K=>match fE N o.dst with
  |true=>match vJ T CT ds all φ σ o with
   |some (x,af,obs)=>dt (kp o.dst x φ) λφ=>aa (.ops all rest::K,φ,σ,obs)
   |some (x,aa σ',obs)=>dt (kp o.dst x φ) λφ=>aa (.ops all rest::K,φ,σ',obs)
   |none=>af
  |false=>af
 |.code c::K=>match c with
  |.skip=>aa (K,φ,σ,[])
  |.seq x y=>aa (.code x::.code y::K,φ,σ,[])
  |.block id c=>aa (.code c::.blk id::K,φ,σ,[])
  |.region id ops d=>match BI ds (id+1000000)with
   |some _=>af
   |none=>match d with
    |false=>aa (.ops ops.toList ops.toList::K,φ,σ,[])
    |true=>match FF T CT N ds ops.toList φ σ with
     |some (φ',σ',obs)=>aa (K,φ',σ',obs)
     |none=>af
  |.exit id=>match kz id K with
   |some K'=>aa (K',φ,σ,[])
   |none=>af
  |.cond (.tmp t) x y=>match look φ t with
   |.e (.one (.c (.bool ab)))=>aa (.code x::K,φ,σ,[])
   |.e (.one (.c (.bool ae)))=>aa (.code y::K,φ,σ,[])
   |_=>af
  |_=>af
theorem JO{X:Cx P}(j:P.follows Departure.mixedOrders=ab)(f:dg P T)(e:bG X CT){i:List It}{φ':Fr}(h:vF T CT ds N K φ σ=aa (i,φ',σ',obs))(ho:au obs)(k:AK X N Qf i .normal φ' σ'):AK X N Qf K .normal φ σ:=by
 unfold vF at h;split at h
 .cases h
 .grind [AK.Re]
 .grind [AK.Rf]
 .rename_i all o rest K0;cases g:fE N o.dst with
  |false=>grind
  |true =>
   simp only[g]at h;have d:=gE g;split at h
   .rename_i x a b;rw[cW]at h;cases h;exact jm.An (fJ f e b ho) d k
   .rename_i x σ1 a b;rw[cW]at h;cases h;exact jm.An (fJ f e b ho) d k
   grind
 .rename_i c K0;split at h
  .grind [AK.skip]
  .grind [AK.seq]
  .grind [AK.block]
  .grind [AK.region,AK.draw]
  .grind [AK.exit]
  .grind [AK.cond]
  grind
def dk(T:List (Nat×TI))(CT:List (Nat×dz))(ds:List (Nat×Bool))(N:Nat):Nat->List It->Fr->List bm->List Prop->Option (List It×Fr×List bm×List Prop)
 |0,K,φ,σ,obs=>dt obs λobs=>aa (K,φ,σ,obs)
 |n+1,K,φ,σ,obs=>match vF T CT ds N K φ σ with
  |some (a,φ',σ',o)=>dk T CT ds N n a φ' σ' (j0 o obs)
  |none=>dt obs λobs=>aa (K,φ,σ,obs)
def F6{P:aO}{X:Cx P}(c:P.follows Departure.mixedOrders=ab){T:List (Nat×TI)}(d:dg P T){CT:List (Nat×dz)}(b:bG X CT){ds:List (Nat×Bool)}{N:Nat}{Qf:Post}:∀{n:Nat}{K a:List It}{φ φ':Fr}{σ σ':List bm}{obs NH:List Prop},
  dk T CT ds N n K φ σ obs=aa (a,φ',σ',NH)->au NH->AK X N Qf a .normal φ' σ'->AK X N Qf K .normal φ σ/\au obs
 |0,K,a,φ,φ',σ,σ',obs,NH,h,ho,k=>by simp only[dk,cW]at h;grind
 |n+1,K,a,φ,φ',σ,σ',obs,NH,h,ho,k=>by
  simp only[dk]at h;cases f:vF T CT ds N K φ σ with
  |none =>
   grind[cW]
  |some r =>
   obtain⟨i,e,σ1,l⟩:=r;simp only[f]at h;obtain⟨j,g⟩:=F6 c d b h ho k;grind[au.cat,JO]
def AK.dk{X:Cx P}(c:P.follows Departure.mixedOrders=ab)(d:dg P T)(hC:bG X CT)(ds:List (Nat×Bool))(n:Nat){b:List It}{φ':Fr}{a:List Prop}(h:AM.dk T CT ds N n K φ σ []=aa (b,φ',σ',a))(ho:au a)(k:AK X N Qf b .normal φ' σ'):AK X N Qf K .normal φ σ:=(F6 c d hC h ho k).1
section
variable {X:Cx P}
def zT(rs:List ResultVar)(ks:List Nat)(φ:Fr)(res:D):Option (List Prop) :=
 match xT φ rs with
 |some ds=>match rS ds with
  |some d=>match vA ks.length res with
   |true=>Ds d (iK ks res)
   |false=>af
  |none=>af
 |none=>af
def AK.dJ{fn:Func}{a:Nat}{res:D}(ks:List Nat)(h:zT fn.results.toList ks φ res=aa ps)(d:au ps)(e:jZ ks σ=aa σ')(b:kO σ'=ab)(f:dY ks=ab)(c:∀j,j<a->ks[j]?=aa j):
  AK X N (ck fn a res σ') (.code .ret::K) .normal φ σ:=by refine AK.ret ⟨.inl rfl,ks,?_⟩;unfold zT at h;grind
def AK.bn{fn:Func}{res:D}(h:zT fn.results.toList [] φ res=aa ps)(a:au ps:=by simp):AK X N (ck fn 0 res []) (.code .ret::K) .normal φ σ :=
 AK.dJ [] h a rfl rfl rfl (λj h=>by omega)
def ck.zero{fn:Func}{res:D}(h:zT fn.results.toList [] φ res=aa ps)(c:au ps:=by simp):ck fn 0 res [] .ret φ σ:=by
 refine⟨.inl rfl,[],?_⟩;unfold zT at h;split at h
 .rename_i ds W6;split at h
  .rename_i d b;split at h
   .rename_i a;exact⟨ds,d,ps,W6,b,h,c,a,rfl,rfl,rfl,λj h=>by omega⟩
   grind
  grind
 grind
def AK.leave{id:Nat}{A:Fr->List bm->Prop}{Qr:Post}{m g:List It}(h1:kz id K=af)(h2:kz id m=aa g)(k:AK X N Qr g .normal φ σ):
  AK X N (λe φ' σ'=>match e with
   |.normal=>A φ' σ'
   |e=>AK X N Qr m e φ' σ') (.code (.exit id)::K) .normal φ σ:=by
 have key:∀{K:List It},kz id K=af->∀{Q:Post},Q (.exit id) φ σ->AK X N Q K (.exit id) φ σ:=by
  intro K;induction K with
  |nil=>intro _ Q h;exact h
  |cons i r l =>
   intro d Q h;cases i with
   |code c=>exact l (by simpa[kz]using d) h
   |ops a b=>exact l (by simpa[kz]using d) h
   |blk j =>
    simp only[kz]at d;cases hb:av id j with
    |true=>grind
    |false =>
     simp[hb]at d;have f:id≠j:=λe=>by grind[Nat.beq_refl]
     simp only[AK,f,bS];grind
 exact AW.exit (key h1 (AK.wc h2 k))
def AK.gI{A:Fr->List bm->Prop}{Qr:Post}{a:List It}(k:Qr .ret φ σ):
  AK X N (λe φ' σ'=>match e with
   |.normal=>A φ' σ'
   |e=>AK X N Qr a e φ' σ') (.code .ret::K) .normal φ σ:=AK.ret (AK.sd (Qf:=Qr) k)
def AK.again{S:Type}{I:S->Prop}{fr:S->Fr}{st:S->List bm}{a:S->Nat}{x:S}{Qr:Post}(y:S)(d:qC φ (fr y)=aa ps)(g:au ps)(f:I y)(b:a y<a x)(c:σ=st y):
  AK X N (λe φ' σ'=>match e with
   |.normal=>∃y,I y/\a y<a x/\se φ' (fr y)/\σ'=st y
   |e=>Qr e φ' σ') [] .normal φ σ:=⟨y,f,b,dj d g,c⟩
def AK.we{S:Type}(I:S->Prop)(fr:S->Fr)(st:S->List bm)(a:S->Nat)(x:S)(d:qC φ (fr x)=aa ps)(g:au ps)(f:I x)(b:st x=σ)(round:∀x,I x->AK X N (λe φ' σ'=>match e with
   |.normal=>∃y,I y/\a y<a x/\se φ' (fr y)/\σ'=st y
   |e=>AK X N Qf K e φ' σ') [.code c] .normal (fr x) (st x)):AK X N Qf (.code (.loop c)::K) .normal φ σ :=
 AK.loop I fr st a x f (dj d g) b round
def Fits(args:List D)(σ:List bm):Prop:=∃s vs,cn σ s vs args/\aD σ s
def Fits.at{args:List D}(h:Fits args σ){d:D}(hj:args[j]?=aa d):∃s v,dm σ s v d:=by obtain⟨s,vs,a,_⟩:=h;obtain⟨_,b⟩:=cn.get a;grind
def Fits.str{args:List D}{σ:List bm}(h:Fits args σ)(j:Nat){l:List UInt8}(hj:args[j]?=aa (.e (.one (.c (.str l))))):l.length<=9223372036854775807:=by
 obtain⟨s,v,a⟩:=h.at hj;cases fI a with
 |str h hl=>exact hl
def Fits.sl{args:List D}{σ:List bm}(h:Fits args σ)(j:Nat){t:Bool}{k n:Nat}{es:Nat->List C}(hj:args[j]?=aa (.e (.one (.c (.sl t k n es))))):n<=9223372036854775807:=by
 obtain⟨s,v,d⟩:=h.at hj;cases fI d with
 |sl b off f a hb=>omega
def Ev.body{f:aK}{fn:Func}{args:List D}{res:D}(d:P.funcs[f]?=aa fn)(a:(fn.name== "runtime.NumGoroutine")=ae)(hb:fn.body=aa c)(b:bz args.length fn.ntmps=ab)(h:Fits args σ->AK X fn.ntmps (ck fn σ.length res σ') [.code c] .normal (jh 0 args) σ):Ev X f args σ res σ':=by refine⟨⟨fn,d,a,by grind⟩,λs vs hr hh=>?_⟩;exact(Ev.intro d a hb (dM b) (AK.of_code (h ⟨s,vs,hr,hh⟩))).2 s vs hr hh
def Ev.bQ{f:aK}{fn:Func}{c:Code}{args:List D}{σ σ':List bm}{res:D}(b:P.funcs[f]?=aa fn)(a:(fn.name== "runtime.NumGoroutine",fn.body,bz args.length fn.ntmps)=(ae,aa c,ab))(h:Fits args σ->AK X fn.ntmps (ck fn σ.length res σ') [.code c] .normal (jh 0 args) σ):Ev X f args σ res σ':=by simp only[lA]at a;exact Ev.body b a.1 a.2.1 a.2.2 h
def AK.join{b:List It}(φ':Fr)(σ':List bm)(h:(∀(a:Fr)(ps:List Prop),qC a φ'=aa ps->au ps->AK X N Qf (.code c::b) .normal a σ')->AK X N Qf K .normal φ σ)(k:AK X N Qf (.code c::b) .normal φ' σ'):AK X N Qf K .normal φ σ :=
 h λ_ _ h1 h2=>AW.le k (dj h1 h2)
end
def fh{i:TypeInfo}(h:P.types[t]?=aa i):P.info? t=aa i:=by unfold Tables.info?;rw[br (fb.1 h).1];exact h
def dg.nil:dg P []:=λ_ _ h=>by cases h
def dg.cons{i:TI}(h:dD P t i)(r:dg P T):dg P ((t,i)::T):=by
 intro a i2 h2;simp only[bH]at h2;cases hb:av t a with
 |true=>rw[hb]at h2;cases h2;rw[<-b7 hb];exact h
 |false=>rw[hb]at h2;exact r a i2 h2
def dD.mk1{i:TI}{n:TypeInfo}(h:P.underlying t=aa i.desc)(k:P.types[t]?=aa n)(a:(Av i.desc==i.agg&&n.size==i.size&&n.bytes==i.bytes&&(!i.agg||n.zero.any λz=>match z with|.agg _=>ab|_=>ae)&&i.zero.length==i.size&&i.eq.isEmpty)=ab:=by rfl)(b:n.zero.map (λz=>z.cells.toList.map qX)=aa (i.zero.map aa):=by rfl):dD P t i:=by
 simp only[bR,gy,List.isEmpty_iff]at a;obtain⟨⟨⟨⟨⟨a1,a2⟩,a3⟩,a4⟩,a5⟩,a6⟩:=a;cases c:n.zero with
 |none=>rw[c]at b;cases b
 |some z =>
  rw[c]at b a4;refine⟨h,a1,⟨n,z,fh k,a2,a3,c,kV b,?_,a5⟩,λh=>absurd a6 h⟩;cases d:i.agg with
  |false=>exact⟨#[],rfl⟩
  |true =>
   rw[d]at a4;cases z<;>first|exact⟨_,rfl⟩|cases a4
def dg.c1{i:TI}{n:TypeInfo}(h:P.underlying t=aa i.desc)(k:P.types[t]?=aa n)(r:dg P T)(a:(Av i.desc==i.agg&&n.size==i.size&&n.bytes==i.bytes&&(!i.agg||n.zero.any λz=>match z with|.agg _=>ab|_=>ae)&&i.zero.length==i.size&&i.eq.isEmpty)=ab:=by rfl)(b:n.zero.map (λz=>z.cells.toList.map qX)=aa (i.zero.map aa):=by rfl):dg P ((t,i)::T):=dg.cons (dD.mk1 h k a b) r
namespace R1
abbrev pI:= "loop.example/depositary/impl"
abbrev pS:= "loop.example/depositary/spec"
abbrev f0(a:String)(b c:Nat)(d:String)(e:Nat)(f:Bool:=ae):Field:={name:=a,type:=b,offset:=c,embedded:=f,tag:= "",pkgPath:=d,byteOffset:=e}
abbrev zS:C:=.sl ab 0 0 (λ_=>[])
@[simp] def Is(n:aw):TI:=⟨1,24,ae,.slice n,[zS],[]⟩
@[simp] def R8(n:aw):TI:=⟨1,8,ae,.pointer n,[.oY],[]⟩
@[simp] def Lm(b:Nat)(k:IntKind):TI:=⟨1,b,ae,.int k,[.int k 0],[]⟩
@[simp] def xR(s b:Nat)(f:Array Field)(z:List C)(e:List TypeDesc:=[]):TI:=⟨s,b,ab,.struct f,z,e⟩
def i2:TI:=Lm 8 .i64
def i3:TI:=Lm 8 .i64
def i4:TI:=⟨1,1,ae,TypeDesc.bool,[.bool ae],[]⟩
def i5:TI:=Lm 1 .u8
def i6:TI:=Lm 1 .u8
def i8:TI:=xR 4 24 #[f0 "x" 2 0 "runtime" 0,f0 "y" 3 1 "runtime" 8,f0 "signed" 4 2 "runtime" 16,f0 "code" 6 3 "runtime" 17] [.int .i64 0,.int .i64 0,.bool ae,.int .u8 0]
def i9:TI:=⟨1,16,ae,TypeDesc.string,[.str []],[]⟩
def i16:TI:=R8 283
def i20:TI:=⟨1,16,ae,TypeDesc.interface #[],[.o0],[]⟩
def i21:TI:=Lm 4 .i32
def i22:TI:=Is 5
def i23:TI:=Is 43
def i24:TI:=Is 39
def i25:TI:=Is 101
def i27:TI:=xR 3 72 #[f0 "Packs" 23 0 "" 0,f0 "Snaps" 24 1 "" 24,f0 "Log" 25 2 "" 48] [zS,zS,zS]
def i28:TI:=Is 3
def i32:TI:=xR 5 120 #[f0 "Store" 27 0 "" 0,f0 "Marks" 28 3 "" 72,f0 "Left" 28 4 "" 96] [zS,zS,zS,zS,zS]
def i37:TI:=Is 95
def i39:TI:=xR 2 32 #[f0 "No" 3 0 "" 0,f0 "All" 37 1 "" 8] [.int .i64 0,zS]
def i41:TI:=Is 68
def i43:TI:=xR 2 32 #[f0 "No" 3 0 "" 0,f0 "Item" 41 1 "" 8] [.int .i64 0,zS]
def i53:TI:=R8 89
def i68:TI:=xR 2 24 #[f0 "Name" 3 0 "" 0,f0 "Body" 9 1 "" 8] [.int .i64 0,.str []] [.int .i64,.string]
def g68:dD ag 68 i68:=⟨Tryz.underlying68,rfl,⟨_,_,fh Tryz.type68,rfl,rfl,rfl,rfl,⟨_,rfl⟩,rfl⟩,λ_=>lN (fs:=[f0 "Name" 3 0 "" 0,f0 "Body" 9 1 "" 8]) Tryz.underlying68 (by decide +kernel) Tryz.eqGuardType68 ⟨by decide,rfl,Tryz.underlying3,ar,by decide,rfl,Tryz.underlying9,ar,ar⟩⟩
def i69:TI:=Is 110
def i83:TI:=Is 43
def i85:TI:=xR 3 72 #[f0 "packed" 83 0 pI 0 ab,f0 "snaps" 24 1 pI 24,f0 "log" 25 2 pI 48] [zS,zS,zS]
def i89:TI:=xR 2 32 #[f0 "b" 22 0 pS 0,f0 "p" 3 1 pS 24] [zS,.int .i64 0]
def i95:TI:=xR 2 40 #[f0 "Path" 9 0 "" 0,f0 "Names" 28 1 "" 16] [.str [],zS]
def i101:TI:=xR 2 16 #[f0 "By" 3 0 "" 0,f0 "Snap" 3 1 "" 8] [.int .i64 0,.int .i64 0] [.int .i64,.int .i64]
def XU:dD ag 101 i101:=⟨Tryz.underlying101,rfl,⟨_,_,fh Tryz.type101,rfl,rfl,rfl,rfl,⟨_,rfl⟩,rfl⟩,λ_=>lN (fs:=[f0 "By" 3 0 "" 0,f0 "Snap" 3 1 "" 8]) Tryz.underlying101 (by decide +kernel) Tryz.eqGuardType101 ⟨by decide,rfl,Tryz.underlying3,ar,by decide,rfl,Tryz.underlying3,ar,ar⟩⟩
def i110:TI:=xR 2 32 #[f0 "Path" 9 0 "" 0,f0 "Text" 9 1 "" 16] [.str [],.str []] [.string,.string]
def XV:dD ag 110 i110:=⟨Tryz.underlying110,rfl,⟨_,_,fh Tryz.type110,rfl,rfl,rfl,rfl,⟨_,rfl⟩,rfl⟩,λ_=>lN (fs:=[f0 "Path" 9 0 "" 0,f0 "Text" 9 1 "" 16]) Tryz.underlying110 (by decide +kernel) Tryz.eqGuardType110 ⟨by decide,rfl,Tryz.underlying9,ar,by decide,rfl,Tryz.underlying9,ar,ar⟩⟩
def i115:TI:=R8 32
def i128:TI:=Is 9
def i136:TI:=Lm 8 .u64
def i142:TI:=Is 189
def i154:TI:=Is 166
def i156:TI:=xR 0 0 #[] []
def i157:TI:=xR 0 0 #[] []
def i158:TI:=xR 0 0 #[] []
def i159:TI:=Lm 8 .u64
def i161:TI:=xR 1 8 #[f0 "_" 157 0 "sync/atomic" 0,f0 "_" 158 0 "sync/atomic" 0,f0 "v" 159 0 "sync/atomic" 0] [.int .u64 0]
def i162:TI:=Lm 4 .u32
def i164:TI:=xR 2 16 #[f0 "noCopy" 156 0 "sync" 0,f0 "state" 161 0 "sync" 0,f0 "sema" 162 1 "sync" 8] [.int .u64 0,.int .u32 0]
def i166:TI:=xR 2 24 #[f0 "piece" 9 0 pI 0,f0 "ok" 4 1 pI 16] [.str [],.bool ae] [.string,.bool]
def XW:dD ag 166 i166:=⟨Tryz.underlying166,rfl,⟨_,_,fh Tryz.type166,rfl,rfl,rfl,rfl,⟨_,rfl⟩,rfl⟩,λ_=>lN (fs:=[f0 "piece" 9 0 pI 0,f0 "ok" 4 1 pI 16]) Tryz.underlying166 (by decide +kernel) Tryz.eqGuardType166 ⟨by decide,rfl,Tryz.underlying9,ar,by decide,rfl,Tryz.underlying4,ar,ar⟩⟩
def i175:TI:=Lm 8 .i64
def i189:TI:=xR 2 16 #[f0 "Name" 3 0 "" 0,f0 "Pack" 3 1 "" 8] [.int .i64 0,.int .i64 0] [.int .i64,.int .i64]
def XX:dD ag 189 i189:=⟨Tryz.underlying189,rfl,⟨_,_,fh Tryz.type189,rfl,rfl,rfl,rfl,⟨_,rfl⟩,rfl⟩,λ_=>lN (fs:=[f0 "Name" 3 0 "" 0,f0 "Pack" 3 1 "" 8]) Tryz.underlying189 (by decide +kernel) Tryz.eqGuardType189 ⟨by decide,rfl,Tryz.underlying3,ar,by decide,rfl,Tryz.underlying3,ar,ar⟩⟩
def i213:TI:=R8 215
def i215:TI:=xR 2 32 #[f0 "addr" 213 0 "strings" 0,f0 "buf" 22 1 "strings" 8] [.oY,zS]
def i217:TI:=⟨1,16,ae,TypeDesc.interface #[("Error",220)],[.o0],[]⟩
def i227:TI:=Lm 8 .u64
def i230:TI:=R8 3
def i233:TI:=Lm 8 .i64
def i255:TI:=R8 251
def i276:TI:=xR 2 2 #[f0 "lo" 5 0 "unicode/utf8" 0,f0 "hi" 5 1 "unicode/utf8" 1] [.int .u8 0,.int .u8 0] [.int .u8,.int .u8]
def XY:dD ag 276 i276:=⟨Tryz.underlying276,rfl,⟨_,_,fh Tryz.type276,rfl,rfl,rfl,rfl,⟨_,rfl⟩,rfl⟩,λ_=>lN (fs:=[f0 "lo" 5 0 "unicode/utf8" 0,f0 "hi" 5 1 "unicode/utf8" 1]) Tryz.underlying276 (by decide +kernel) Tryz.eqGuardType276 ⟨by decide,rfl,Tryz.underlying5,ar,by decide,rfl,Tryz.underlying5,ar,ar⟩⟩
def i277:TI:=⟨32,32,ab,TypeDesc.array 16 276,[.int .u8 0,.int .u8 0,.int .u8 0,.int .u8 0,.int .u8 0,.int .u8 0,.int .u8 0,.int .u8 0,.int .u8 0,.int .u8 0,.int .u8 0,.int .u8 0,.int .u8 0,.int .u8 0,.int .u8 0,.int .u8 0,.int .u8 0,.int .u8 0,.int .u8 0,.int .u8 0,.int .u8 0,.int .u8 0,.int .u8 0,.int .u8 0,.int .u8 0,.int .u8 0,.int .u8 0,.int .u8 0,.int .u8 0,.int .u8 0,.int .u8 0,.int .u8 0],[]⟩
def i278:TI:=R8 292
def i281:TI:=⟨0,0,ab,TypeDesc.array 0 16,[],[]⟩
def i283:TI:=xR 0 0 #[f0 "_" 281 0 "runtime" 0] []
def i292:TI:=xR 1 16 #[f0 "s" 9 0 "errors" 0] [.str []] [.string]
def XZ:dD ag 292 i292:=⟨Tryz.underlying292,rfl,⟨_,_,fh Tryz.type292,rfl,rfl,rfl,rfl,⟨_,rfl⟩,rfl⟩,λ_=>lN (fs:=[f0 "s" 9 0 "errors" 0]) Tryz.underlying292 (by decide +kernel) Tryz.eqGuardType292 ⟨by decide,rfl,Tryz.underlying9,ar,ar⟩⟩
def tt:List (Nat×TI):=[(2,i2),(3,i3),(4,i4),(5,i5),(6,i6),(8,i8),(9,i9),(16,i16),(20,i20),(21,i21),(22,i22),(23,i23),(24,i24),(25,i25),(27,i27),(28,i28),(32,i32),(37,i37),(39,i39),(41,i41),(43,i43),(53,i53),(68,i68),(69,i69),(83,i83),(85,i85),(89,i89),(95,i95),(101,i101),(110,i110),(115,i115),(128,i128),(136,i136),(142,i142),(154,i154),(156,i156),(157,i157),(158,i158),(159,i159),(161,i161),(162,i162),(164,i164),(166,i166),(175,i175),(189,i189),(213,i213),(215,i215),(217,i217),(227,i227),(230,i230),(233,i233),(255,i255),(276,i276),(277,i277),(278,i278),(281,i281),(283,i283),(292,i292)]
def tok:dg ag tt:=dg.c1 Tryz.underlying2 Tryz.type2 ( dg.c1 Tryz.underlying3 Tryz.type3 ( dg.c1 Tryz.underlying4 Tryz.type4 ( dg.c1 Tryz.underlying5 Tryz.type5 ( dg.c1 Tryz.underlying6 Tryz.type6 ( dg.c1 Tryz.underlying8 Tryz.type8 ( dg.c1 Tryz.underlying9 Tryz.type9 ( dg.c1 Tryz.underlying16 Tryz.type16 ( dg.c1 Tryz.underlying20 Tryz.type20 ( dg.c1 Tryz.underlying21 Tryz.type21 ( dg.c1 aM Tryz.type22 ( dg.c1 Tryz.underlying23 Tryz.type23 ( dg.c1 Tryz.underlying24 Tryz.type24 ( dg.c1 Tryz.underlying25 Tryz.type25 ( dg.c1 Tryz.underlying27 Tryz.type27 ( dg.c1 Tryz.underlying28 Tryz.type28 ( dg.c1 Tryz.underlying32 Tryz.type32 ( dg.c1 Tryz.underlying37 Tryz.type37 ( dg.c1 Tryz.underlying39 Tryz.type39 ( dg.c1 Tryz.underlying41 Tryz.type41 ( dg.c1 Tryz.underlying43 Tryz.type43 ( dg.c1 Tryz.underlying53 Tryz.type53 ( dg.cons g68 ( dg.c1 Tryz.underlying69 Tryz.type69 ( dg.c1 Tryz.underlying83 Tryz.type83 ( dg.c1 Tryz.underlying85 Tryz.type85 ( dg.c1 Tryz.underlying89 Tryz.type89 ( dg.c1 Tryz.underlying95 Tryz.type95 ( dg.cons XU ( dg.cons XV ( dg.c1 Tryz.underlying115 Tryz.type115 ( dg.c1 Tryz.underlying128 Tryz.type128 ( dg.c1 Tryz.underlying136 Tryz.type136 ( dg.c1 Tryz.underlying142 Tryz.type142 ( dg.c1 Tryz.underlying154 Tryz.type154 ( dg.c1 Tryz.underlying156 Tryz.type156 ( dg.c1 Tryz.underlying157 Tryz.type157 ( dg.c1 Tryz.underlying158 Tryz.type158 ( dg.c1 Tryz.underlying159 Tryz.type159 ( dg.c1 Tryz.underlying161 Tryz.type161 ( dg.c1 Tryz.underlying162 Tryz.type162 ( dg.c1 Tryz.underlying164 Tryz.type164 ( dg.cons XW ( dg.c1 Tryz.underlying175 Tryz.type175 ( dg.cons XX ( dg.c1 Tryz.underlying213 Tryz.type213 ( dg.c1 Tryz.underlying215 Tryz.type215 ( dg.c1 Tryz.underlying217 Tryz.type217 ( dg.c1 Tryz.underlying227 Tryz.type227 ( dg.c1 Tryz.underlying230 Tryz.type230 ( dg.c1 Tryz.underlying233 Tryz.type233 ( dg.c1 Tryz.underlying255 Tryz.type255 ( dg.cons XY ( dg.c1 Tryz.underlying277 Tryz.type277 ( dg.c1 Tryz.underlying278 Tryz.type278 ( dg.c1 Tryz.underlying281 Tryz.type281 ( dg.c1 Tryz.underlying283 Tryz.type283 ( dg.cons XZ (dg.nil))))))))))))))))))))))))))))))))))))))))))))))))))))))))))
end R1
abbrev Bs:=List UInt8
abbrev dS(s:Bs):D:=.e (.one (.c (.str s)))
abbrev dI(n:Int):D:=.e (.one (.c (.int .i64 n)))
abbrev dU(n:Int):D:=.e (.one (.c (.int .u8 n)))
abbrev dB(b:Bool):D:=.e (.one (.c (.bool b)))
def j5{s:Bs}:iL s i=s.getD i 0:=rfl
namespace R1
variable {X:Cx ag}
def dn:Tryz.prog.follows Departure.mixedOrders=ab:=rfl
def X0{X:Cx ag}{CT:List (Nat×dz)}(c:bG X CT)(ds:List (Nat×Bool)){N:Nat}{Qf:Post}(n:Nat){K b:List It}{φ φ':Fr}{σ σ':List bm}{a:List Prop}(h:AM.dk tt CT ds N n K φ σ []=aa (b,φ',σ',a))(ho:au a)(k:AK X N Qf b .normal φ' σ'):AK X N Qf K .normal φ σ:=AK.dk dn tok c ds n h ho k
def Eo{X:Cx ag}(ds:List (Nat×Bool)){N:Nat}{Qf:Post}(n:Nat){K b:List It}{φ φ':Fr}{σ σ':List bm}{a:List Prop}(h:AM.dk tt [] ds N n K φ σ []=aa (b,φ',σ',a))(ho:au a)(k:AK X N Qf b .normal φ' σ'):AK X N Qf K .normal φ σ:=AK.dk dn tok bG.nil ds n h ho k
def bw{X:Cx ag}{N:Nat}{Qf:Post}{K b:List It}{φ φ':Fr}{σ σ':List bm}{a:List Prop}(h:AM.dk tt [] [] N 100 K φ σ []=aa (b,φ',σ',a))(ho:au a)(k:AK X N Qf b .normal φ' σ'):AK X N Qf K .normal φ σ:=AK.dk dn tok bG.nil [] 100 h ho k
def c9{X:Cx ag}{N:Nat}{Qf:Post}{K b:List It}{φ φ':Fr}{σ σ':List bm}{a:List Prop}(h:AM.dk tt [] [] N 200 K φ σ []=aa (b,φ',σ',a))(ho:au a)(k:AK X N Qf b .normal φ' σ'):AK X N Qf K .normal φ σ:=AK.dk dn tok bG.nil [] 200 h ho k
def aR{X:Cx ag}{CT:List (Nat×dz)}(c:bG X CT)(ds:List (Nat×Bool)){N:Nat}{Qf:Post}{K b:List It}{φ φ':Fr}{σ σ':List bm}{a:List Prop}(h:AM.dk tt CT ds N 100 K φ σ []=aa (b,φ',σ',a))(ho:au a)(k:AK X N Qf b .normal φ' σ'):AK X N Qf K .normal φ σ:=AK.dk dn tok c ds 100 h ho k
def bt{X:Cx ag}{CT:List (Nat×dz)}(c:bG X CT)(ds:List (Nat×Bool)){N:Nat}{Qf:Post}{K b:List It}{φ φ':Fr}{σ σ':List bm}{a:List Prop}(h:AM.dk tt CT ds N 200 K φ σ []=aa (b,φ',σ',a))(ho:au a)(k:AK X N Qf b .normal φ' σ'):AK X N Qf K .normal φ σ:=AK.dk dn tok c ds 200 h ho k
def aX{X:Cx ag}(ds:List (Nat×Bool)){N:Nat}{Qf:Post}{K b:List It}{φ φ':Fr}{σ σ':List bm}{a:List Prop}(h:AM.dk tt [] ds N 100 K φ σ []=aa (b,φ',σ',a))(ho:au a)(k:AK X N Qf b .normal φ' σ'):AK X N Qf K .normal φ σ:=AK.dk dn tok bG.nil ds 100 h ho k
def bF{X:Cx ag}(ds:List (Nat×Bool)){N:Nat}{Qf:Post}{K b:List It}{φ φ':Fr}{σ σ':List bm}{a:List Prop}(h:AM.dk tt [] ds N 200 K φ σ []=aa (b,φ',σ',a))(ho:au a)(k:AK X N Qf b .normal φ' σ'):AK X N Qf K .normal φ σ:=AK.dk dn tok bG.nil ds 200 h ho k
def bZ{X:Cx ag}{CT:List (Nat×dz)}(c:bG X CT){N:Nat}{Qf:Post}{K b:List It}{φ φ':Fr}{σ σ':List bm}{a:List Prop}(h:AM.dk tt CT [] N 100 K φ σ []=aa (b,φ',σ',a))(ho:au a)(k:AK X N Qf b .normal φ' σ'):AK X N Qf K .normal φ σ:=AK.dk dn tok c [] 100 h ho k
def cN{X:Cx ag}{CT:List (Nat×dz)}(c:bG X CT){N:Nat}{Qf:Post}{K b:List It}{φ φ':Fr}{σ σ':List bm}{a:List Prop}(h:AM.dk tt CT [] N 200 K φ σ []=aa (b,φ',σ',a))(ho:au a)(k:AK X N Qf b .normal φ' σ'):AK X N Qf K .normal φ σ:=AK.dk dn tok c [] 200 h ho k
def lS(b:Int):Bool:=decide (97<=b)&&decide (b<=101)
theorem OJ(b:Int):Ev X 154 [dU b] [] (dB (lS b)) []:=by
 refine Ev.bQ Tryz.func154 rfl λ_=>?_;by_cases h:97<=b
 .refine aX [(4,ab)] rfl ?_ (AK.bn rfl ?_)<;>simp[h,lS]
 .refine aX [(4,ae)] rfl ?_ (AK.bn rfl ?_)<;>simp[h,lS]
def eH(b:UInt8):Bool:=decide (97<=b.toNat)&&decide (b.toNat<=122)
def b9(s:Bs):Bool:=s.all eH
def sJ{s:Bs}(h:∀j,j<s.length->eH (s.getD j 0)=ab):b9 s=ab:=by simp only[b9,List.all_eq_true];grind[List.getElem_of_mem]
def kl{s:Bs}(h:j<s.length)(b:eH (s.getD j 0)=ae):b9 s=ae:=by
 cases a:b9 s with
 |false=>rfl
 |true =>
  simp only[b9,List.all_eq_true]at a;grind
theorem E3(s:Bs):Ev X 155 [dS s] [] (dB (b9 s)) []:=by
 refine Ev.bQ Tryz.func155 rfl λe=>?_;have g:=e.str 0 rfl;refine bw rfl ar ?_;refine AK.we (λi=>i<=s.length/\∀j,j<i->eH (s.getD j 0)=ab) (λi:Nat=>[(0,dS s),(3,dI i)]) (λ_=>[]) (λi=>s.length-i) 0 rfl (by simp) ⟨by omega,by omega⟩ rfl ?_;rintro i ⟨hi,c⟩;by_cases h:i<s.length
 .generalize a:s.getD i 0=b;by_cases k:b.toNat<97
  .refine aX [(7,ab),(13,ab)] rfl ?_ (AK.gI (ck.zero rfl ?_))
   .simp only[au,j5,bq,a];omega
   .rw[au,kl h (by rw[a];simp only[eH,rB,cd];omega)]
  .by_cases f:b.toNat>122
   .refine aX [(7,ab),(13,ae),(18,ab)] rfl ?_ (AK.gI (ck.zero rfl ?_))
    .simp only[au,j5,bq,cd,a];omega
    .rw[au,kl h (by rw[a];simp only[eH,rB,cd];omega)]
   .refine aX [(7,ab),(13,ae),(18,ae)] rfl ?_ (AK.again (i+1) rfl ?_ ?_ ?_ rfl)
    .simp only[au,j5,bq,cd,a,bx];omega
    .simp
    .refine⟨by omega,λj d=>?_⟩;rcases uN.1 d with d|rfl
     .grind
     .rw[a];simp only[eH,bR,bq];omega
    .omega
 .refine aX [(7,ae)] rfl (by simp;omega) (AK.leave rfl rfl ?_);refine bw rfl ar (AK.bn rfl ?_);rw[au,sJ (λj d=>c j (by omega))]
end R1
def Ev.args{P:aO}{X:Cx P}{f:aK}{args P3:List D}{σ σ':List bm}{res:D}(h:Ev X f P3 σ res σ')(hl:∀s vs,cn σ s vs args->cn σ s vs P3):Ev X f args σ res σ' :=
 ⟨h.1,λs vs hr hh=>h.2 s vs (hl s vs hr) hh⟩
def jS(a:Nat):D->Option (Nat×(Nat->List C))
 |.e (.one (.c (.sl _ k n es)))=>match av k a with
  |true=>aa (n,es)
  |false=>match av n 0 with
   |true=>aa (0,λ_=>[])
   |false=>af
 |_=>af
def Ln{g:Nat}{d:D}{n:Nat}{es:Nat->List C}(h:jS g d=aa (n,es)){σ:List bm}{s:St}{v:aj}(r:dm σ s v d):Rd s.M v (.sl ae g n es):=by
 unfold jS at h;split at h
 .rename_i t k p es';split at h
  .rename_i i;have e:=b7 i;subst e;cases h;exact(fI r).loose
  .split at h
   .rename_i l;have e:=b7 l;subst e;cases h;have r':=fI r;cases r' with
    |sl b off f a j m i o q u=>exact Rd.sl b off f a j (by simp) (by omega) (by omega) (by omega) (by omega)
   grind
 grind
def x8{α:Type}(enc:α->List C)(bP:α)(l:List α):Nat->List C:=λi=>enc (l.getD i bP)
structure kh(α:Type) where
 k:Nat
 enc:α->List C
 dec:List C->α
 bP:α
 inv:∀a,dec (enc a)=a
 len:∀a,(enc a).length=k
namespace kh
variable {α:Type}(c:kh α)
def list(n:Nat)(es:Nat->List C):List α:=(bk n).map λi=>c.dec (es i)
def fn(l:List α):Nat->List C:=x8 c.enc c.bP l
def fits(n:Nat)(es:Nat->List C):Prop:=∀i,i<n->es i=c.enc (c.dec (es i))
def sl(l:List α):D:=.e (.one (.c (.sl ae c.k l.length (c.fn l))))
def C5{n:Nat}{es:Nat->List C}:(c.list n es).length=n:=by simp[list]
def list_fn(l:List α):c.list l.length (c.fn l)=l:=by
 apply uR
 .simp[list]
 .intro i b a;simp[list,fn,x8,ai,bg a,c.inv]
def aJ(l:List α){n:Nat}:c.fits n (c.fn l):=λi _=>by simp[fn,x8,c.inv]
def OK{n:Nat}{es:Nat->List C}(h:c.fits n es):cw n es (c.fn (c.list n es)):=by intro i hi;rw[h i hi];simp[fn,x8,list,ai,hi]
def jc{d:D}{n:Nat}{es:Nat->List C}(h:jS c.k d=aa (n,es))(b:c.fits n es){σ:List bm}{s:St}{v:aj}(r:dm σ s v d):dm σ s v (c.sl (c.list n es)):=by have a:=Ln h r;have e:=a.Dy (c.OK b);show Rd s.M v (.sl ae c.k (c.list n es).length _);rw[c.C5];exact e
end kh
def cz(s:Bs)(i:Nat):Int:=(s.getD i 0).toNat
theorem cE(s:Bs)(j:Int):((iL s j).toNat:Int)=cz s j.toNat:=rfl
abbrev bC:=Bs×Bs
def Cj(cs:List C)(j:Nat):Bs:=match eD j cs with|some (.str s)=>s|_=>[]
def wK(cs:List C)(j:Nat):Int:=match eD j cs with|some (.int _ s)=>s|_=>0
def cF:kh bC:={k:=2,enc:=λf=>[.str f.1,.str f.2],dec:=λcs=>(Cj cs 0,Cj cs 1),bP:=([],[]),inv:=λ_=>rfl,len:=λ_=>rfl}
namespace R1
variable {X:Cx ag}
def R9:dz:=λargs σ=>match args,σ with
 |[.e (.one (.c (.int .u8 b)))],[]=>aa (dB (lS b),[],[])
 |_,_=>af
def t154:dK X 154 R9:=by intro args σ res σ' obs h _;unfold R9 at h;grind[OJ]
def Ot:dz:=λargs σ=>match args,σ with
 |[.e (.one (.c (.str b)))],[]=>aa (dB (b9 b),[],[])
 |_,_=>af
def t155:dK X 155 Ot:=by intro args σ res σ' obs h _;unfold Ot at h;grind[E3]
def Zm:List (Nat×dz):=[(154,R9),(155,Ot)]
def C6:bG X Zm:=bG.cons t154 (bG.cons t155 bG.nil)
def dF(s:Bs):Bool:=if s.length=1 then lS (cz s 0)else if s.length=3 then lS (cz s 0)&&(cz s 1==47)&&lS (cz s 2)else ae
theorem HX(s:Bs):Ev X 110 [dS s] [] (dB (dF s)) []:=by
 refine Ev.bQ Tryz.func110 rfl λf=>?_;by_cases e:s.length=1
 .refine aR C6 [(6,ab)] rfl ?_ (AK.bn rfl ?_)
  .simp[e]
  .simp[dF,e,cE]
 .by_cases a:s.length=3
  .by_cases b:lS (cz s 0)=ab
   .by_cases d:cz s 1=47
    .refine aR C6 [(6,ae),(11,ab),(14,ab),(18,ab)] rfl ?_ (AK.bn rfl ?_)
     .simp[a,cE,b,d]
     .simp[dF,a,b,d,cE]
    .refine aR C6 [(6,ae),(11,ab),(14,ab),(18,ae)] rfl ?_ (AK.bn rfl ?_)
     .simp[a,cE,b,d]
     .simp[dF,a,b,d]
   .refine aR C6 [(6,ae),(11,ab),(14,ae)] rfl ?_ (AK.bn rfl ?_)
    .simp[a,cE,b]
    .simp[dF,a,b]
  .refine aR C6 [(6,ae),(11,ae)] rfl ?_ (AK.bn rfl ?_)
   .simp;omega
   .simp[dF,e,a]
def eh(s:Bs):Bool:=decide (s.length<=40)&&b9 s
theorem HY(s:Bs):Ev X 111 [dS s] [] (dB (eh s)) []:=by
 refine Ev.bQ Tryz.func111 rfl λb=>?_;by_cases a:s.length<=40
 .refine aR C6 [(5,ab)] rfl ?_ (AK.bn rfl ?_)
  .simp;omega
  .simp[eh,a]
 .refine aR C6 [(5,ae)] rfl ?_ (AK.bn rfl ?_)
  .simp;omega
  .simp[eh,a]
def clash(a b:Bs):Bool:=(a.length != b.length)&&(cz a 0==cz b 0)
def Lo(a b:Bs)(g:a≠[])(h:b≠[]):Ev X 146 [dS a,dS b] [] (dB (clash a b)) []:=by
 have d:=zz.2 g;have f:=zz.2 h;refine Ev.bQ Tryz.func146 rfl λi=>?_;by_cases e:a.length=b.length
 .refine aX [(9,ae)] rfl ?_ (AK.bn rfl ?_)
  .simp[e]
  .simp[clash,e]
 .refine aX [(9,ab)] rfl ?_ (AK.bn rfl ?_)
  .simp[d,f];omega
  .simp[clash,e,cE]
end R1
def G4(σ σ':List bm):Prop:=∀(s:St),aD σ s->aD σ' s/\Step σ s σ' s/\∀(v:aj)(d:D),dm σ s v d->dm σ' s v d
def W7:bm->bm->Option (List Prop)
 |.vec E k n es,.vec E' k' n' es'=>match av E E',av k k' with
  |true,ab=>aa [n=n',cw n es es']
  |_,_=>af
 |.cells E cs,.cells E' lY=>match av E E' with
  |true=>Py cs lY
  |false=>af
 |.dead,.dead=>aa []
 |.cq H,.cq H'=>aa [H=H']
 |.loop N φ r,.loop N' φ' r'=>aa [bm.loop N φ r=bm.loop N' φ' r']
 |.qT,.qT=>aa []
 |.buf E k n es,.buf E' k' n' es'=>match av E E',av k k' with
  |true,ab=>aa [n=n',cw n es es']
  |_,_=>af
 |_,_=>af
def te:List bm->List bm->Option (List Prop)
 |[],[]=>aa []
 |a::r,b::q=>match W7 a b with
  |some p=>match te r q with
   |some ps=>aa (j0 p ps)
   |none=>af
  |none=>af
 |_,_=>af
def Nz(B B':bm):Prop :=
 (∀E k n es,B=.vec E k n es->∃es',B'=.vec E k n es'/\cw n es es')/\((∀E k n es,B≠.vec E k n es)->(∀E k n es,B'≠.vec E k n es)/\(B=B'∨(∃E cs lY,B=.cells E cs/\B'=.cells E lY/\∀σ s vs,eb σ s vs cs->eb σ s vs lY)∨∃E k n es es',B=.buf E k n es/\B'=.buf E k n es'/\cw n es es'))
theorem Q1{B B':bm}(h:W7 B B'=aa ps)(a:au ps):Nz B B':=by
 unfold W7 at h;split at h
 .rename_i E k n es E' k' n' es';split at h
  .rename_i b d;cases h;have c:=b7 b;have g:=b7 d;obtain⟨f,i⟩:n=n'/\cw n es es':=a;subst c g f;refine⟨λE0 k0 n0 Yj he=>?_,λl=>absurd rfl (l _ _ _ _)⟩;grind
  grind
 .rename_i E cs E' lY;split at h
  .rename_i b;have c:=b7 b;subst c;exact⟨λ_ _ _ _ he=>(by cases he),λ_=>⟨λ_ _ _ _ he=>(by cases he),.inr (.inl ⟨E,cs,lY,rfl,rfl,λσ s vs r=>D1 h a r⟩)⟩⟩
  grind
 .exact⟨λ_ _ _ _ he=>(by cases he),λ_=>⟨λ_ _ _ _ he=>(by cases he),.inl rfl⟩⟩
 .cases h;rename_i H H';have e:H=H':=a;subst e;exact⟨λ_ _ _ _ he=>(by cases he),λ_=>⟨λ_ _ _ _ he=>(by cases he),.inl rfl⟩⟩
 .cases h;rename_i N φ r j φ' r';have e:bm.loop N φ r=bm.loop j φ' r':=a;exact⟨λ_ _ _ _ he=>(by cases he),λ_=>⟨λ_ _ _ _ he=>(by cases he),.inl e⟩⟩
 .exact⟨λ_ _ _ _ he=>(by cases he),λ_=>⟨λ_ _ _ _ he=>(by cases he),.inl rfl⟩⟩
 .rename_i E k n es E' k' n' es';split at h
  .rename_i b d;cases h;have c:=b7 b;have g:=b7 d;obtain⟨f,i⟩:n=n'/\cw n es es':=a;subst c g f;exact⟨λ_ _ _ _ he=>(by cases he),λ_=>⟨λ_ _ _ _ he=>(by cases he),.inr (.inr ⟨E,k,n,es,es',rfl,rfl,i⟩)⟩⟩
  grind
 grind
def BW:∀{σ σ':List bm}{ps:List Prop},te σ σ'=aa ps->au ps->σ'.length=σ.length/\∀(l:Nat)(B B':bm),σ[l]?=aa B->σ'[l]?=aa B'->Nz B B'
 |[],[],_,_,_=>⟨rfl,λl B B' h=>by grind⟩
 |[],_::_,_,h,_=>by cases h
 |_::_,[],_,h,_=>by cases h
 |a::r,b::q,ps,h,c=>by
  simp only[te]at h;split at h
  .rename_i p d;split at h
   .rename_i p2 h2;cases h;rw[au.cat]at c;obtain⟨e,f⟩:=BW h2 c.2;grind[Q1]
   grind
  grind
def lb(h:te σ σ'=aa ps)(hp:au ps):G4 σ σ':=by
 obtain⟨W,hg⟩:=BW h hp;intro s J;have K:∀(l:Nat) (B:bm),σ[l]?=aa B->∃B',σ'[l]?=aa B'/\Nz B B':=by grind
 have get:∀(l:Nat) (B':bm),σ'[l]?=aa B'->∃B,σ[l]?=aa B/\Nz B B':=by grind
 have i:∀(l:Nat),(∀B,σ[l]?=aa B->B.gr=ae)->∀B,σ'[l]?=aa B->B.gr=ae:=by
  intro l hn B' he;obtain⟨B,G,m⟩:=get l _ he;have q:=hn B G;rcases(m.2 (λE k n es e=>by rw[e]at q;cases q)).2 with rfl|⟨E,cs,C,rfl,rfl,_⟩|⟨E,k,n,es,es',rfl,rfl,_⟩
  .exact q
  .rfl
  .cases q
 have V:∀(l:Nat) E k n es,σ'[l]?=aa (bm.buf E k n es)->∃es',σ[l]?=aa (bm.buf E k n es'):=by
  intro l E k n es he;obtain⟨B,G,m⟩:=get l _ he;by_cases p:∃E k n es,B=bm.vec E k n es
  .obtain⟨E1,k1,n1,D2,rfl⟩:=p;obtain⟨es',f,_⟩:=m.1 _ _ _ _ rfl;cases f
  .rcases(m.2 (λE k n es e=>p ⟨E,k,n,es,e⟩)).2 with rfl|⟨E,cs,C,rfl,h,_⟩|⟨E,k,n,es,es',rfl,h,_⟩
   .grind
   .cases h
   grind
 have F:∀(l:Nat) E k n es,σ'[l]?=aa (bm.vec E k n es)->∃es',σ[l]?=aa (bm.vec E k n es'):=by
  intro l E k n es he;obtain⟨B,G,m⟩:=get l _ he;by_cases p:∃E k n es,B=bm.vec E k n es
  .obtain⟨E1,k1,n1,D2,rfl⟩:=p;obtain⟨es',f,_⟩:=m.1 _ _ _ _ rfl;grind
  .exact absurd rfl ((m.2 (λE k n es e=>p ⟨E,k,n,es,e⟩)).1 E k n es)
 have M:∀(v:aj) (a:A),gb σ s v a->gb σ' s v a:=by
  intro v a r;cases a with
  |c x=>exact r
  |ptr l o=>exact⟨i l r.1,r.2⟩
  |vec l k n es =>
   refine⟨r.1,by rw[W];exact r.2.1,λE k' n' es' he=>?_⟩;obtain⟨zB,g⟩:=F l E k' n' es' he;exact r.2.2 E k' n' zB g
  |ref l=>exact⟨i l r.1,r.2⟩
  |bp l w =>
   obtain⟨Z,r1,r2,r3⟩:=r;refine⟨Z,r1,by grind,λE k' n' es' he=>?_⟩;grind
  |any=>exact r
 have I:∀(vs:List aj) (cs:List A),eb σ s vs cs->eb σ' s vs cs:=by
  intro vs;induction vs with
  |nil=>intro cs r;cases cs with|nil=>trivial|cons _ _=>exact r.elim
  |cons v vs ih=>intro cs r;cases cs with|nil=>exact r.elim|cons c cs=>exact⟨M _ _ r.1,ih _ r.2⟩
 have R:∀(v:aj) (e:E1),nD σ s v e->nD σ' s v e:=by
  intro v e r;cases e with
  |one a=>exact M _ _ r
  |agg cs=>obtain⟨vs,f,g⟩:=r;exact⟨vs,f,I _ _ g⟩
 have Q:∀(vs:List aj) (cs:List E1),gF σ s vs cs->gF σ' s vs cs:=by
  intro vs;induction vs with
  |nil=>intro cs r;cases cs with|nil=>trivial|cons _ _=>exact r.elim
  |cons v vs ih=>intro cs r;cases cs with|nil=>exact r.elim|cons c cs=>exact⟨R _ _ r.1,ih _ r.2⟩
 have O:∀(v:aj) (d:D),dm σ s v d->dm σ' s v d:=by
  intro v d r;cases d with
  |e x=>exact R _ _ r
  |fz xs=>obtain⟨vs,f,g⟩:=r;exact⟨vs,f,Q _ _ g⟩
  |any=>trivial
 refine⟨⟨J.mem,by rw[J.len,W],?_,J.eZ,J.lt,J.own⟩,⟨ba _,λ_ _ _=>rfl,λ_ _ _ h=>h,λ_ _ _ _=>rfl,λL h b j=>.inr ⟨L,h,j⟩,?_,rfl,rfl,rfl,rfl⟩,O⟩
 .intro l B' L y T;obtain⟨B,G,m⟩:=get l B' y;have j:=J.box l B L G T;by_cases p:∃E k n es,B=bm.vec E k n es
  .obtain⟨E,k,n,es,rfl⟩:=p;obtain⟨es',rfl,he⟩:=m.1 _ _ _ _ rfl;refine⟨j.1.Dy he,?_⟩;rcases j.2 with⟨f,g⟩|f
   .exact .inl ⟨f,g.Dy he⟩
   grind
  .rcases(m.2 (λE k n es e=>p ⟨E,k,n,es,e⟩)).2 with rfl|⟨E,cs,C,rfl,rfl,S⟩|⟨E,k,n,es,es',rfl,rfl,S⟩
   .cases B with
    |cells E cs=>obtain⟨b,vs,f,g,u,z⟩:=j;exact⟨b,vs,f,g,I _ _ u,z⟩
    |vec E k n es=>grind
    |cq H=>exact j
    |dead=>trivial
    |loop N φ r=>obtain⟨l,tmps,fn,df,f,g,u,z,U⟩:=j;exact⟨l,tmps,fn,df,f,g,u,λt=>O _ _ (z t),U⟩
    |qT=>exact j
    |buf E k n es=>exact j
   .obtain⟨b,vs,f,g,u,z⟩:=j;exact⟨b,vs,f,g,I _ _ (S _ _ _ u),z⟩
   .rcases j with j|⟨b,c0,vs,zs,f,g,u,z,U,Y,h7⟩
    .exact .inl j
    .exact .inr ⟨b,c0,vs,zs,f,g,u,z,U,Y.Dy S,h7⟩
 .intro l B L G T;obtain⟨B',y,m⟩:=K l B G;refine⟨B',L,y,T,?_⟩;by_cases p:∃E k n es,B=bm.vec E k n es
  .obtain⟨E,k,n,es,rfl⟩:=p;obtain⟨es',rfl,he⟩:=m.1 _ _ _ _ rfl;exact⟨λ_=>rfl,ba _⟩
  .rcases(m.2 (λE k n es e=>p ⟨E,k,n,es,e⟩)).2 with rfl|⟨E,cs,C,rfl,rfl,S⟩|⟨E,k,n,es,es',rfl,rfl,_⟩
   .exact ic.refl _ _
   .exact rfl
   .exact⟨λ_=>rfl,ba _⟩
section
variable {X:Cx P}
theorem AW.ghost{Q:Post}{φ':Fr}(h:∀s a,cr N σ s φ a->aD σ s->∃s':St,s'.w=s.w/\cr N σ' s' φ' a/\aD σ' s'/\Step σ s σ' s')(k:AW X N c Q φ' σ'):AW X N c Q φ σ:=by intro s a l hh b kk cs S hb hQ;obtain⟨s',m,i,d,st⟩:=h s a l hh;have f:=st.ow hh;refine .ghost (.of hh d m f) ?_;exact k s' a i d b kk cs S hb λe g σ2 s2 a2 q j h2 oE=>hQ e g σ2 s2 a2 q j h2 (f.trans oE)
theorem AK.ghost{φ':Fr}{σ':List bm}(h:∀s a,cr N σ s φ a->aD σ s->∃s':St,s'.w=s.w/\cr N σ' s' φ' a/\aD σ' s'/\Step σ s σ' s')(k:AK X N Qf (.code c::K) .normal φ' σ'):AK X N Qf (.code c::K) .normal φ σ :=
 AW.ghost h k
def cr.bs{a:Act}(hb:G4 σ σ')(f:cr N σ s φ a)(hh:aD σ s):cr N σ' s φ a:=⟨f.size,f.defers.imp λ_ h1=>h1.mono (hb s hh).2.1.ext,λt=>(hb s hh).2.2 _ _ (f.slot t)⟩
def AK.norm(σ':List bm)(h:te σ σ'=aa ps)(b:au ps)(k:AK X N Qf (.code c::K) .normal φ σ'):AK X N Qf (.code c::K) .normal φ σ :=
 AK.ghost (λs a d hh=>⟨s,rfl,d.bs (lb h b) hh,(lb h b s hh).1,(lb h b s hh).2.1⟩) k
def AK.g6(t:Nat)(E:aw)(k:Nat){k':Nat}(h:look φ t=.e (.one (.c (.sl ab k' n es))))(g:n=0)(kk:AK X N Qf (.code c::K) .normal ((t,.e (.one (.vec σ.length k n es)))::φ) (σ++[.vec E k n es])):AK X N Qf (.code c::K) .normal φ σ:=by
 refine AK.ghost (λs a b hh=>?_) kk;have f:=b.slot t;rw[h]at f;have h1:=Rd.uU (k:=k') (k':=k) (.inr g) (fI f);have d:eK (σ++[.vec E k n es]) {s with β:=s.β++[⟨a.tmps.getD t ah,[]⟩]} (.vec E k n es) ⟨a.tmps.getD t ah,[]⟩:=⟨h1.loose,.inl ⟨⟨rfl,g⟩,h1⟩⟩;obtain⟨i,g2⟩:=hh.gz (.refl _ _) rfl hh d (by simp)
 refine⟨{s with β:=s.β++[⟨a.tmps.getD t ah,[]⟩]},rfl,⟨b.size,b.defers.imp λ_ h1=>h1.mono g2.ext,λu=>?_⟩,i,g2⟩;simp only[look];cases hb:av t u with
 |false=>exact(b.slot u).mono g2.ext hh.len
 |true =>
  have e:=b7 hb;subst e;exact p9 (L:=⟨a.tmps.getD t ah,[]⟩) (by simp) (by simp[<-hh.len]) d
def AK.ji{S:Type}(I:S->Prop)(fr:S->Fr)(st:S->List bm)(j:S->Nat)(x:S){qs:List Prop}(o:qC φ (fr x)=aa ps)(E:au ps)(v:te σ (st x)=aa qs)(G:au qs)(D:I x)(round:∀x,I x->AK X N (λe φ' σ'=>match e with
   |.normal=>∃y,I y/\j y<j x/\se φ' (fr y)/\G4 σ' (st y)
   |e=>AK X N Qf K e φ' σ') [.code c] .normal (fr x) (st x)):AK X N Qf (.code (.loop c)::K) .normal φ σ:=by
 intro s a A hh b kk cs SS hb hQ;have h:=lb v G;obtain⟨k,u,_⟩:=h s hh;refine wh (λn a' s'=>∃y,I y/\cr N (st y) s' (fr y) a'/\aD (st y) s'/\cR σ s (st y) s'/\j y=n) ?_ ?_ ⟨x,D,(A.le (dj o E)).bs h hh,k,u.ow hh,rfl⟩
 .rintro n a' s' ⟨y,m,l,f,d,e⟩;exact⟨st y,f,λH h1=>⟨y,m,l.rely h1 f,f.rely h1,d.trans h1.stepW,e⟩⟩
 rintro n a' s' ⟨y,m,l,f,d,rfl⟩ B;refine round y m s' a' l f b (.inLoop c::kk) cs SS hb ?_;intro e F σ2 s2 a2 q w h2 oE;cases e with
 |normal =>
  obtain⟨z,C,p,i,g⟩:=q;obtain⟨r,t,_⟩:=g s2 h2;exact B a2 s2 (j z) p ⟨z,C,(w.le i).bs g h2,r,d.trans (oE.trans (t.ow h2)),rfl⟩
 |_=>exact ends.cons (λ_ _=>rfl) (by simp) (hQ _ _ _ _ _ q w h2 (d.trans oE))
def AK.fG{S:Type}{I:S->Prop}{fr:S->Fr}{st:S->List bm}{a:S->Nat}{x:S}{Qr:Post}(y:S){qs:List Prop}(b:qC φ (fr y)=aa ps)(g:au ps)(d:te σ (st y)=aa qs)(h:au qs)(f:I y)(c:a y<a x):
  AK X N (λe φ' σ'=>match e with
   |.normal=>∃y,I y/\a y<a x/\se φ' (fr y)/\G4 σ' (st y)
   |e=>Qr e φ' σ') [] .normal φ σ:=⟨y,f,c,dj b g,lb d h⟩
end
def Ev.forget{X:Cx P}{f:aK}{args:List D}{res res':D}(h:Ev X f args [] res σ')(e:Ds res res'=aa ps)(g:au ps)(a:vA 0 res'=ab):Ev X f args [] res' []:=by
 refine⟨h.1,λs vs hr hh S cs hS=>h.2 s vs hr hh S cs λfr v c hl hv h1 st=>?_⟩
 have j:s.β=[]:=jr hh.len;have i:eO c {c with β:=[]}:=⟨rfl,λ_ _ _ h=>h,λ_ _ _=>rfl,h1.mem,λb hb=>.inl (by grind)⟩
 refine .ghost i (hS fr v {c with β:=[]} (hl.mono λ_ _ _ h=>h) ?_ ⟨h1.mem,rfl,by simp,by simp,by simp,λb hb=>⟨(h1.own b hb).1,by simp⟩⟩ ⟨st.size,st.keep,st.mem,st.iO,by simp,λl B L k=>by grind,st.os,st.tape,st.output,st.own⟩)
 .have h2:=qW e g hv;have:=dm.sub (ks:=[]) (σ:=σ') (σ':=[]) (s:=c) (β':=[]) (d:=res') rfl rfl (by rw[BX a];exact h2) a;exact this
section drop
variable {σ1 rest:List bm}
def TU(n:Nat):bm->Bool
  | .cells _ cs=>Fy n cs
  | .loop ..=>ae
  | _=>ab
def x3(n:Nat):List bm->Bool
  | []=>ab
  | a::r=>match TU n a with|true=>x3 n r|false=>ae
def BY{n:Nat}:∀{l:List bm},x3 n l=ab->∀B∈l,TU n B=ab
  | [],_,B,a=>by grind
  | b::r,h,B,a=>by
    simp only[x3]at h;cases c:TU n b with
    | false=>grind
    | true =>
      simp only[c]at h;rcases dC.1 a with rfl|a
      · exact c
      · exact BY h B a
def eK.tX{B:bm}{L:Loc}(a:TU σ1.length B=ab)(h:eK (σ1++rest) s B L):eK σ1 (s.cut σ1.length) B L:=by
  cases B with
  | cells E cs =>
    obtain⟨b,vs,h1,h2,d,c⟩:=h;exact⟨b,vs,h1,h2,eb.xY d a,c⟩
  | vec E k n es=>exact h
  | cq H=>exact h
  | dead=>trivial
  | loop N φ r=>simp[TU]at a
  | qT=>exact h
  | buf E k n es=>exact h
def aD.drop(h:aD (σ1++rest) s)(f:x3 σ1.length σ1=ab):aD σ1 (s.cut σ1.length):=by
  have hl:σ1.length<=s.β.length:=by rw[h.len];simp
  refine⟨h.mem,by simp[St.cut,hl],?_,?_,?_,λb hb=>⟨(h.own b hb).1,λL a=>(h.own b hb).2 L (jy a)⟩⟩
  · intro l B L e a
    have d:l<σ1.length:=(b8.1 e).1;simp only[St.cut,eX,d,bY]at a;exact eK.tX (rest:=rest) (BY f B (bL e)) (h.box l B L (by grind) a)
  · intro l l' L L' a c b hb ov
    simp only[St.cut,eX]at a c;split at a<;>split at c<;>first|exact h.eZ l l' L L' a c b hb ov|grind|grind
  · intro L a b hb
    exact h.lt L (jy a) b hb
def oI.drop(a:mY rest=ab):∀{ds:List Deferred} {ls:List Nat},oI (σ1++rest) s ds ls->oI σ1 (s.cut σ1.length) ds ls
  | [],[],_=>trivial
  | [],_::_,r=>r.elim
  | _::_,[],r=>r.elim
  | d::ds,l::ls,⟨⟨h1,L,r,h2,e⟩,c,b⟩=>by
    have hl:l<σ1.length:=by
      rcases cG l σ1.length with h|h
      · exact h
      · rw[fA h]at h1
        exact absurd rfl (mZ a _ (bL h1))
    rw[js hl]at h1;exact⟨⟨h1,L,r,by simp only[St.cut,eX,hl,bY];exact h2,e⟩,c,oI.drop a b⟩
def Am(n:Nat)(σ:List bm):Bool:=match bz n σ.length with|true=>mY (σ.drop n)|false=>ae
theorem yw(h:Am n σ=ab):bz n σ.length=ab/\mY (σ.drop n)=ab:=by unfold Am at h;grind
end drop
def G5(n:Nat):Fr->Bool
  | []=>ab
  | (_,d)::r=>match vA n d with|true=>G5 n r|false=>ae
def qm{n:Nat}:∀{φ:Fr} {t:Nat},G5 n φ=ab->vA n (look φ t)=ab
  | [],t,_=>rfl
  | (u,d)::r,t,h=>by
    simp only[G5]at h;cases a:vA n d with
    | false=>grind
    | true =>
      simp only[a]at h;simp only[look];cases av u t with
      | true=>exact a
      | false=>exact qm h
section
variable {X:Cx P}
def lM{S:Type}(X:Cx P)(N:Nat)(Qf:Post)(K:List It)(I:S->Prop)(a:S->Fr)(st:S->List bm)(b:S->Nat)(n:Nat)(x:S):Post:=λe φ' σ'=>match e with
  | .normal=>∃y,I y/\b y<b x/\se φ' (a y)/\G5 n (a y)=ab/\∃σ1 rest,σ'=σ1++rest/\σ1.length=n/\(x3 n σ1=ab/\mY rest=ab)/\G4 σ1 (st y)
  | e=>AK X N Qf K e φ' σ'
def AK.bX{S:Type}(n:Nat)(I:S->Prop)(fr:S->Fr)(st:S->List bm)(A:S->Nat)(x:S){qs:List Prop}(w:qC φ (fr x)=aa ps)(U:au ps)(E:te σ (st x)=aa qs)(Z:au qs)(hn:σ.length=n)(T:I x)(round:∀x,I x->AK X N (lM X N Qf K I fr st A n x) [.code c] .normal (fr x) (st x)):AK X N Qf (.code (.loop c)::K) .normal φ σ:=by
  intro s a H hh b kk cs SS hb hQ;have g:=lb E Z;obtain⟨l,D,_⟩:=g s hh;refine wh (λm a' s'=>∃y,I y/\cr N (st y) s' (fr y) a'/\aD (st y) s'/\cR σ s (st y) s'/\A y=m) ?_ ?_ ⟨x,T,(H.le (dj w U)).bs g hh,l,D.ow hh,rfl⟩
  · rintro n a' s' ⟨y,u,p,f,d,e⟩
    exact⟨st y,f,λs1 h1=>⟨y,u,p.rely h1 f,f.rely h1,d.trans h1.stepW,e⟩⟩
  rintro m a' s' ⟨y,u,p,f,d,rfl⟩ O;refine round y u s' a' p f b (.inLoop c::kk) cs SS hb ?_;intro e W σ2 s2 a2 q G h2 oE;cases e with
  | normal =>
    obtain⟨z,R,B,j,V,σ1,rest,rfl,Q,⟨J,v⟩,o⟩:=q;have F:=h2.drop (by grind);obtain⟨C,i,r⟩:=o _ F;have k:=G.le j;have Y:eO s2 (s2.cut σ1.length):=⟨rfl,λ_ _ _ h=>h,λ_ _ _=>rfl,h2.mem,λb hb=>hb.imp id λ⟨L,M,hb⟩=>⟨L,jy M,hb⟩⟩
    refine .ghost Y (O a2 (s2.cut σ1.length) (A z) B ⟨z,R,⟨k.size,k.defers.imp λ_ h1=>(h1.drop v).mono i.ext,λt=>r _ _ ((k.slot t).drop (qm (by grind)))⟩,C,?_,rfl⟩);exact((d.trans oE).drop (by omega)).trans (i.ow F)
  | _=>exact ends.cons (λ_ _=>rfl) (by simp) (hQ _ _ _ _ _ q G h2 (d.trans oE))
def AK.Q2{S:Type}{I:S->Prop}{fr:S->Fr}{st:S->List bm}{a:S->Nat}{x:S}{k:List It}(y:S){qs:List Prop}(f:qC φ (fr y)=aa ps)(j:au ps)(c:G5 n (fr y)=ab)(g:Am n σ=ab)(d:te (σ.take n) (st y)=aa qs)(i:au qs)(e:x3 n (σ.take n)=ab)(h:I y)(b:a y<a x):
    AK X N (lM X N Qf k I fr st a n x) [] .normal φ σ :=
  ⟨y,h,b,dj f j,c,σ.take n,σ.drop n,(jw n σ).symm,by grind[Nat.le_of_ble_eq_true,yw],⟨e,(yw g).2⟩,lb d i⟩
def AK.aQ{S:Type}{n:Nat}{I:S->Prop}{fr:S->Fr}{st:S->List bm}{a:S->Nat}{x:S}{e:List It}(y:S){ps qs:List Prop}(h:(qC φ (fr y),G5 n (fr y),Am n σ,te (σ.take n) (st y),x3 n (σ.take n))=(aa ps,ab,ab,aa qs,ab))(d:au ps)(f:au qs)(c:I y)(b:a y<a x):
    AK X N (lM X N Qf e I fr st a n x) [] .normal φ σ:=by simp only[lA]at h;exact AK.Q2 y h.1 d h.2.1 h.2.2.1 h.2.2.2.1 f h.2.2.2.2 c b
def AK.leaveD{S:Type}{I:S->Prop}{fr:S->Fr}{st:S->List bm}{b:S->Nat}{x:S}{id:Nat}{d a c:List It}(h1:kz id d=af)(h2:kz id a=aa c)(k:AK X N Qf c .normal φ σ):
    AK X N (lM X N Qf a I fr st b n x) (.code (.exit id)::d) .normal φ σ :=
  AW.mono (AK.leave (A:=λφ' σ'=>lM X N Qf a I fr st b n x .normal φ' σ') h1 h2 k) λe φ' σ' q=>by
    have key:∀(K:List It) e,AK X N (λe φ' σ'=>match e with
        | .normal=>lM X N Qf a I fr st b n x .normal φ' σ'
        | e=>AK X N Qf a e φ' σ') K e φ' σ'->AK X N (lM X N Qf a I fr st b n x) K e φ' σ':=by
      have e:(λe φ' σ'=>match e with
        | .normal=>lM X N Qf a I fr st b n x .normal φ' σ'
        | e=>AK X N Qf a e φ' σ')=lM X N Qf a I fr st b n x:=by funext e φ' σ';cases e<;>rfl
      grind
    exact key _ _ q
def AK.eY{S:Type}{I:S->Prop}{fr:S->Fr}{st:S->List bm}{b:S->Nat}{x:S}{a c:List It}(k:Qf .ret φ σ):AK X N (lM X N Qf c I fr st b n x) (.code .ret::a) .normal φ σ :=
  AK.ret (AK.sd (Qf:=Qf) k)
theorem cr.freeze(t l:Nat){cs:List A}{cc:List C}(y:look φ t=.e (.one (.ptr l 0)))(hl:eD l σ=aa (.cells E cs))(F:gU cs=aa cc){a:Act}(g:cr N σ s φ a)(hh:aD σ s):∃s':St,s'.w=s.w/\cr N (σ.set l .dead) s' ((t,.e (.one (.c (.rp cc))))::φ) a/\aD (σ.set l .dead) s'/\Step σ s (σ.set l .dead) s':=by
  have m:=c7 hl;have k:l<σ.length:=(b8.1 m).1;have q:=g.slot t;rw[y]at q;obtain⟨_,L,b,i,d,z⟩:=q;obtain⟨f,vs,h1,h2,D,H⟩:=hh.box l _ L m i;subst h1;simp at d;subst d;let s':St:={s with M:=λp o=>if p=f then vs[o]? else s.M p o}
  have st:Step σ s (σ.set l .dead) s':=by
    refine⟨ba _,λ_ _ _=>rfl,?_,?_,λL h b hb=>.inr ⟨L,h,hb⟩,?_,rfl,rfl,rfl,rfl⟩
    · grind
    · intro b hb hn o
      have n:b≠f:=λe=>hn _ (bL i) (by simp[e]);grind
    · intro l' B L' mc gm
      by_cases e:l=l'
      · subst e
        rw[m]at mc;cases mc;exact⟨.dead,L',by grind,gm,rfl⟩
      · exact⟨B,L',by grind,gm,.refl _ _⟩
  refine⟨s',rfl,⟨g.size,g.defers.imp λ_ h1=>h1.mono st.ext,λu=>?_⟩,⟨?_,by simp[hh.len,s'],?_,hh.eZ,hh.lt,hh.own⟩,st⟩
  · simp only[look]
    cases hb:av t u with
    | false=>exact(g.slot u).mono st.ext hh.len
    | true =>
      have e:=b7 hb;subst e;rw[z];have x:=lu F D;refine Rd.rp f 0 (λj=>(vs[j]?).getD ah) ?_ ?_
      · intro j c hj
        obtain⟨v,r,_⟩:=x.get (j:=j) (a:=.c c) (by grind);grind
      · intro j c hj
        obtain⟨v,r,p2⟩:=x.get (j:=j) (a:=.c c) (by grind);simp only[r,ga];exact Rd.mono st.mem p2
  · intro b o v hm
    by_cases e:b=f
    · subst e
      have hm':vs[o]?=aa v:=by grind
      show s.w.cell? _=_;simp[aW,h2,hm']
    · exact hh.mem b o v (by grind)
  · intro l' B L' mc gm
    by_cases e:l=l'
    · subst e
      rw[fO k]at mc;cases mc;trivial
    · rw[kJ e]at mc
      refine(hh.box l' B L' mc gm).carry st.ext hh.len λb hb=>⟨rfl,λo=>?_⟩
      have n:b≠f:=λG=>e (hh.eZ l l' _ L' i gm b (by grind) hb);grind
theorem AK.freeze(t l:Nat){E:aw}{cs:List A}{cc:List C}(a:look φ t=.e (.one (.ptr l 0)))(hl:eD l σ=aa (.cells E cs))(b:gU cs=aa cc)(kk:AK X N Qf (.code c::K) .normal ((t,.e (.one (.c (.rp cc))))::φ) (ef.sV l .dead σ)):AK X N Qf (.code c::K) .normal φ σ:=by grind[k8,AK.ghost,cr.freeze]
def AK.one{rest:List aB}{x:D}(h:OA X N all o φ σ x σ')(a:fE N o.dst=ab)(k:AK X N Qf (.ops all rest::K) .normal (kp o.dst x φ) σ'):AK X N Qf (.ops all (o::rest)::K) .normal φ σ :=
  jm.An h (gE a) k
end
structure D4(d:TypeDesc)(es:Array MapEntry)(k:aj)(a:Option (Nat×aj)):Prop where
 key:MapKept.IsKey d k
 now:Instr.findNow d k es.toList 0=aa a
 no:a=af->∀e∈es.toList,e.key≠k
 yes:∀j v,a=aa (j,v)->∃e,es[j]?=aa e/\e.key=k/\e.val=v
def yy{d:TypeDesc}{es:Array MapEntry}{k:aj}(b:MapKept.IsKey d k)(h:∀e∈es.toList,MapKept.IsKey d e.key):∃a,D4 d es k a:=by
 rcases MapKept.findNow_spec b es.toList 0 h with⟨g,i⟩|⟨j,e,g,i,m⟩
 .exact⟨af,b,g,λ_=>i,by simp⟩
 .refine⟨_,b,g,by simp,λn v l=>?_⟩;grind
section
variable {c f:aw}{d:TypeDesc}{r:Nat}{es:Array MapEntry}{clock:Nat}{k:aj}{ok:Bool}
def FX(a:P.underlying c=aa d):(underlying c).run P w=.ok d w:=by simp[underlying,a]
def mh(e:P.underlying c=aa d)(a:MapKept.IsKey d k)(b:Bool)(evs:Array Event):(Instr.checkKey b 10000 c k).events P w evs=evs:=by show(Instr.checkKey b (9999+1) c k).events P w evs=evs;unfold Instr.checkKey;simp only[aP,FX e,aU,events_underlying];cases d<;>cases k<;>first|exact a.elim|simp
def n3{l:List MapEntry}{a:Option (Nat×aj)}(b:P.underlying c=aa d)(h:Instr.findNow d k l 0=aa a)(evs:Array Event):(Instr.findKey c k l).events P w evs=evs:=by simp[Instr.findKey,FX b,h]
def kg(a:w.heap[r]?=aa (.map es clock))(evs:Array Event):(getObj r).events P w evs=evs.push ⟨.obj r,ae,ae⟩:=by simp only[getObj,Sem.events,Sem.runT,a];rfl
def qH(a:w.heap[r]?=aa (.map es clock)){es':Array MapEntry}{b:Nat}(evs:Array Event):(setObj r (.map es' b)).events P w evs=evs.push ⟨.obj r,ab,ae⟩:=by simp only[setObj,Sem.events,Sem.runT,a];rfl
def qI(e:P.underlying c=aa d)(a:MapKept.IsKey d k)(b:Bool):(Instr.checkKey b 10000 c k).run P w=.ok () w:=MapKept.run_checkKey e a b 9999
def tY(m:P.underlying t=aa (.map c f))(g:P.underlying c=aa d)(h:w.heap[r]?=aa (.map es clock)){a:Option (Nat×aj)}(e:D4 d es k a){z:aj}(l:a=af->(zeroValue f).run P w=.ok z w):
  (Instr.lookup t (.map (aa r)) k ok).run P w=.ok (match a with
   |some (_,v)=>if ok=ab then .tuple #[v,.bool ab]else v
   |none=>if ok=ab then .tuple #[z,.bool ae]else z) w/\(Instr.lookup t (.map (aa r)) k ok).events P w #[]=#[⟨.obj r,ae,ae⟩]:=by
 have j:(underlying t).run P w=.ok (.map c f) w:=by simp[underlying,m]
 have i:=qI (w:=w) g e.key es.isEmpty;have b:(Instr.findKey c k es.toList).run P w=.ok a w:=MapKept.run_findKey g e.now;cases a with
 |some jv =>
  constructor
  .simp only[Instr.lookup,bT,j,cm,MapKept.run_getObj_map h,cV,i,b]
  .simp only[Instr.lookup,aP,j,aU,MapKept.run_getObj_map h,cV,Sem.events_pure,i,b,events_underlying,kg h,mh g e.key,n3 g e.now];rfl
 |none =>
  constructor
  .simp only[Instr.lookup,bT,j,cm,MapKept.run_getObj_map h,cV,i,b,l rfl]
  .simp only[Instr.lookup,aP,j,aU,MapKept.run_getObj_map h,cV,Sem.events_pure,i,b,events_underlying,kg h,mh g e.key,n3 g e.now,l rfl,events_zeroValue];rfl
def tZ(s:P.underlying t=aa (.map c f))(i:P.underlying c=aa d)(b:w.heap[r]?=aa (.map es clock)){a:Option (Nat×aj)}{x:aj}(h:D4 d es k a):
  (Instr.mapUpdate t (.map (aa r)) k x).run P w=.ok () {w with heap:=w.heap.setIfInBounds r (match a with
   |some (j,_)=>.map (es.modify j λe=>{key:=k,val:=x,born:=e.born}) clock
   |none=>.map (es.push {key:=k,val:=x,born:=clock}) (clock+1))} /\
  (Instr.mapUpdate t (.map (aa r)) k x).events P w #[]=#[⟨.obj r,ae,ae⟩,⟨.obj r,ab,ae⟩]:=by
 have p:(underlying t).run P w=.ok (.map c f) w:=by simp[underlying,s]
 have o:=qI (w:=w) i h.key ae;have g:(Instr.findKey c k es.toList).run P w=.ok a w:=MapKept.run_findKey i h.now;cases a with
 |some jv =>
  obtain⟨j,v⟩:=jv;obtain⟨e,l,m,_⟩:=h.yes j v rfl;have n:(Instr.keyThatStays k k).run P w=.ok k w:=MapKept.run_keyThatStays h.key;have q:∀evs,(Instr.keyThatStays k k).events P w evs=evs:=λevs=>by simp[Instr.keyThatStays,MapKept.sameBits_self h.key]
  constructor
  .simp only[Instr.mapUpdate,bT,p,cm,MapKept.run_getObj_map b,o,g,l,mI,ga,m,n,MapKept.run_setObj_map _ b]
  .simp only[Instr.mapUpdate,aP,p,aU,MapKept.run_getObj_map b,o,g,l,mI,ga,m,n,q,events_underlying,kg b,qH b,mh i h.key,n3 i h.now];rfl
 |none =>
  constructor
  .simp only[Instr.mapUpdate,bT,p,cm,MapKept.run_getObj_map b,o,g,MapKept.run_setObj_map _ b]
  .simp only[Instr.mapUpdate,aP,p,aU,MapKept.run_getObj_map b,o,g,events_underlying,kg b,qH b,mh i h.key,n3 i h.now];rfl
end
def aD.iJ(h:aD σ s){H':aj->(Nat->Option Obj)->Prop}{L L':Loc}(y:σ[l]?=aa (.cq H))(t:s.β[l]?=aa L)(z:L'.v=L.v)(p:s.w.heap.size<=w'.heap.size)(D:∀b,b<s.w.heap.size->b∉L.bs->w'.heap[b]?=s.w.heap[b]?)(k:∀b∈L'.bs,b∈L.bs∨(s.w.heap.size<=b/\b<w'.heap.size))(hb:∃ch,H' L'.v ch/\(∀(b:Nat) (o:Obj),ch b=aa o->w'.heap[b]?=aa o)/\(∀b,b∈L'.bs↔(ch b).isSome=ab))(ho:w'.os=s.w.os)(K:w'.tape=s.w.tape)(G:w'.output=s.w.output):
  aD (σ.set l (.cq H')) ⟨s.β.set l L',s.M,w',s.own⟩/\Step σ s (σ.set l (.cq H')) ⟨s.β.set l L',s.M,w',s.own⟩:=by
 have x:l<σ.length:=(b8.1 y).1;have u:l<s.β.length:=by grind
 obtain⟨I,_,_,_,E⟩:=h.box l _ L y t;have n:∀b∈L'.bs,∀o,s.M b o=af:=by
  intro b i o;rcases k b i with h1|⟨h1,_⟩
  .grind
  .cases hm:s.M b o with
   |none=>rfl
   |some v=>have:=h.block hm;omega
 have st:Step σ s (σ.set l (.cq H')) ⟨s.β.set l L',s.M,w',s.own⟩:=by
  refine⟨p,?_,λ_ _ _ h=>h,λ_ _ _ _=>rfl,?_,?_,ho,K,G,rfl⟩
  .grind
  .grind
  .intro l' B a d f;by_cases e:l=l'
   .subst e;rw[y]at d;cases d;rw[t]at f;cases f;exact⟨.cq H',L',by grind,by grind,z⟩
   .exact⟨B,a,by grind,by grind,.refl _ _⟩
 have g:∀(l':Nat) (a:Loc),(s.β.set l L')[l']?=aa a->(l'=l/\a=L')∨(l≠l'/\s.β[l']?=aa a):=by grind
 refine⟨⟨?_,by simp[h.len],?_,?_,?_,?_⟩,st⟩
 .intro b o v hm;have N:=h.block hm;have J:b∉L.bs:=λm=>by grind
  rw[<-h.mem b o v hm];simp only[aW];grind
 .intro l' B a d f;rcases g l' a f with⟨rfl,rfl⟩|⟨e,h2⟩
  .rw[fO x]at d;cases d;obtain⟨ch,k1,F,O⟩:=hb;exact⟨ch,k1,F,O,n⟩
  .rw[kJ e]at d;refine(h.box l' B a d h2).carry st.ext h.len λb i=>⟨D b (h.lt a (bL h2) b i) λm=>e (h.eZ l l' L a t h2 b m i),λ_=>rfl⟩
 .intro C A L1 a h1 h2 b j c;rcases g C L1 h1 with⟨rfl,rfl⟩|⟨e1,q⟩<;>rcases g A a h2 with⟨rfl,rfl⟩|⟨e2,r⟩
  .rfl
  .rcases k b j with m|m
   .exact h.eZ _ _ L a t r b m c
   .have:=h.lt a (bL r) b c;omega
  .rcases k b c with m|m
   .exact h.eZ _ _ L1 L q t b j m
   .have:=h.lt L1 (bL q) b j;omega
  .exact h.eZ _ _ L1 a q r b j c
 .intro a f b c;rcases List.mem_or_eq_of_mem_set f with h1|h1
  .exact cB (h.lt a h1 b c) p
  .subst h1;rcases k b c with h2|h2
   .exact cB (h.lt L (bL t) b h2) p
   grind
 .intro b hb;obtain⟨Q,P⟩:=h.own b hb;grind
section
variable {H':aj->(Nat->Option Obj)->Prop}
end
def ck.tk{fn:Func}{a:Nat}{res:D}(ks:List Nat)(h:zT fn.results.toList ks φ res=aa ps)(d:au ps)(e:jZ ks σ=aa σ')(b:kO σ'=ab)(f:dY ks=ab)(c:∀j,j<a->ks[j]?=aa j):
  ck fn a res σ' .normal φ σ:=by refine⟨.inr rfl,ks,?_⟩;unfold zT at h;grind
def AK.Qq{X:Cx P}{f:aK}{σ1:List bm}{res:D}(c:Ev X f cu σs res σ1)(ks:List Nat)(h:o.guard=af)(ho:o.op=.call {callee:=.value fo,args:=xs,argTypes:=jP})(j:en (bO φ fo)=aa (f,cap))(a:ox (xs.toList.map (bO φ)++fD cap)=gG ks cu)(d:lZ ks.length cu=ab)(g:jZ ks σ=aa σs)(l:cK σs=ab)(b:cK σ1=ab)(m:dY ks=ab)(e:bz ks.length σ1.length=ab)(i:fE N o.dst=ab)(k:AK X N Qf (.ops all rest::K) .normal (kp o.dst (iK (ks++lG σ.length (σ1.length-ks.length)) res) φ) (ef ks σ1 σ)):AK X N Qf (.ops all (o::rest)::K) .normal φ σ :=
 jm.call (λ_ _ _ _=>dx h) ho j ks c a d g l b m (dM e) o.dst rfl (gE i) k
def AK.zO{X:Cx P}{f:aK}(c:dO X f cu σs res σ1)(ks:List Nat)(h:o.guard=af)(ho:o.op=.call {callee:=.value fo,args:=xs,argTypes:=jP})(l:en (bO φ fo)=aa (f,cap))(a:ox (xs.toList.map (bO φ)++fD cap)=gG ks cu)(d:lZ ks.length cu=ab)(g:jZ ks σ=aa σs)(m:cK σs=ab)(b:∀j,cK (σ1 j)=ab)(n:dY ks=ab)(e:∀j,bz ks.length (σ1 j).length=ab)(i:fE N o.dst=ab)(k:∀j,AK X N Qf (.ops all rest::K) .normal (kp o.dst (iK (ks++lG σ.length ((σ1 j).length-ks.length)) (res j)) φ) (ef ks (σ1 j) σ)):AK X N Qf (.ops all (o::rest)::K) .normal φ σ :=
 jm.Pf (λ_ _ _ _=>dx h) ho l ks c a d g m b n (λj=>dM (e j)) o.dst rfl (gE i) k
def AK.cQ{P:aO}{X:Cx P}{N:Nat}{Qf:Post}{K:List It}{φ:Fr}{σ:List bm}{all rest:List aB}{o:aB}{fo:aC}{xs:Array aC}{jP:Array aw}{f:aK}{cap:List C}{cu:List D}{σs σ1:List bm}{res:D}(n:Ev X f cu σs res σ1)(ks:List Nat)(h:(o.guard,o.op,en (bO φ fo),ox (xs.toList.map (bO φ)++fD cap),lZ ks.length cu,jZ ks σ,cK σs,cK σ1,dY ks,bz ks.length σ1.length,fE N o.dst)=(af,.call {callee:=.value fo,args:=xs,argTypes:=jP},aa (f,cap),gG ks cu,ab,aa σs,ab,ab,ab,ab,ab))(k:AK X N Qf (.ops all rest::K) .normal (kp o.dst (iK (ks++lG σ.length (σ1.length-ks.length)) res) φ) (ef ks σ1 σ)):AK X N Qf (.ops all (o::rest)::K) .normal φ σ:=by simp only[lA]at h;obtain⟨a,b,c,d,e,f,g,i,j,l,m⟩:=h;exact AK.Qq n ks a b c d e f g i j l m k
def AK.cP{P:aO}{ι:Type}{X:Cx P}{N:Nat}{Qf:Post}{K:List It}{φ:Fr}{σ:List bm}{all rest:List aB}{o:aB}{fo:aC}{xs:Array aC}{jP:Array aw}{f:aK}{cap:List C}{cu:List D}{σs:List bm}{σ1:ι->List bm}{res:ι->D}(i:dO X f cu σs res σ1)(ks:List Nat)(h:(o.guard,o.op,en (bO φ fo),ox (xs.toList.map (bO φ)++fD cap),lZ ks.length cu,jZ ks σ,cK σs,dY ks,fE N o.dst)=(af,.call {callee:=.value fo,args:=xs,argTypes:=jP},aa (f,cap),gG ks cu,ab,aa σs,ab,ab,ab))(q:∀j,(cK (σ1 j),bz ks.length (σ1 j).length)=(ab,ab))(k:∀j,AK X N Qf (.ops all rest::K) .normal (kp o.dst (iK (ks++lG σ.length ((σ1 j).length-ks.length)) (res j)) φ) (ef ks (σ1 j) σ)):AK X N Qf (.ops all (o::rest)::K) .normal φ σ:=by simp only[lA]at h q;obtain⟨a,b,c,d,e,f,g,j,m⟩:=h;exact AK.zO i ks a b c d e f g (λj=>(q j).1) j (λj=>(q j).2) m k
def uv:List D->List D->Option (List Prop)
 |[],[]=>aa []
 |a::al,b::bs=>match Ds a b with
  |some p=>match uv al bs with
   |some q=>aa (j0 p q)
   |none=>af
  |none=>af
 |_,_=>af
def rL{σ:List bm}{s:St}:∀{vs:List aj}{xs ys:List D}{ps:List Prop},uv xs ys=aa ps->au ps->cn σ s vs xs->cn σ s vs ys
 |[],[],[],_,_,_,_=>trivial
 |_::_,[],_,_,_,_,h=>h.elim
 |[],_::_,_,_,_,_,h=>h.elim
 |[],[],_::_,_,h,_,_=>by simp[uv]at h
 |_::_,_::_,[],_,h,_,_=>by simp[uv]at h
 |v::vs,a::al,b::bs,ps,h,c,e=>by
  simp only[uv]at h;cases d:Ds a b with
  |none=>grind
  |some p =>
   cases f:uv al bs with
   |none=>grind
   |some q =>
    simp[d,f]at h;subst h;rw[au.cat]at c;exact⟨qW d c.1 e.1,rL f c.2 e.2⟩
def AK.nT{X:Cx P}{f:aK}(c:dO X f cu σs res σ1)(ks:List Nat)(l:o.guard=af)(ho:o.op=.call {callee:=.value fo,args:=xs,argTypes:=jP})(n:en (bO φ fo)=aa (f,cap))(a:uv (xs.toList.map (bO φ)++fD cap) (gG ks cu)=aa ps)(e:au ps)(d:lZ ks.length cu=ab)(i:jZ ks σ=aa σs)(p:cK σs=ab)(b:∀j,cK (σ1 j)=ab)(q:dY ks=ab)(g:∀j,bz ks.length (σ1 j).length=ab)(m:fE N o.dst=ab)(k:∀j,AK X N Qf (.ops all rest::K) .normal (kp o.dst (iK (ks++lG σ.length ((σ1 j).length-ks.length)) (res j)) φ) (ef ks (σ1 j) σ)):AK X N Qf (.ops all (o::rest)::K) .normal φ σ :=
 jm.By (λ_ _ _ _=>dx l) ho n ks c (λs vs h=>rL a e h) d i p b q (λj=>dM (g j)) o.dst rfl (gE m) k
def Jo{a:Act}{d:Nat}(h:d<a.tmps.size):(a.put (aa d) v).tmps.getD d ah=v:=by simp[Act.put,dL,vm h]
def eB.of_eq{es es':Array Event}(h:es=es')(k:eB s es'):eB s es:=by grind
def ql{m:Sem aj}{n:Sem Next}(h:eB s (m.events P s.w #[]))(e:n=(do pure (.value (<-m)))):eB s (n.events P s.w #[]):=by grind[er]
def lF{f:aK}{fn:Func}{e:Array aj->Sem aj}(c:P.funcs[f]?=aa fn)(a:(fn.name== "runtime.NumGoroutine")=ae)(d:fn.body.isNone=ab)(j:Extern.findNext fn=af)(h:Extern.find fn=aa e)(args:Array aj)(g:cX P (e args))(w:aA)(es:Array Event):
  (callFunc f args).events P w es=es.push ⟨.mark (.extern f),ae,ab⟩:=by
 have i:fn.name≠ "runtime.NumGoroutine":=by grind
 have b:fn.body=af:=by simpa using d
 simp[callFunc,c,i,b,j,h];rw[g w]
section
variable {X:Cx P}
def jR(P:aO)(N:Nat)(o:aB)(φ:Fr)(σ:List bm)(x:ι->D)(σ':ι->List bm):Prop :=
 ∀s a,cr N σ s φ a->aD σ s->∃i b s' v,(ak a.eval o).run P s.w=.ok b s'.w/\(b=.value v∨(b=.skip/\v=ah))/\dm (σ' i) s' v (x i)/\aD (σ' i) s'/\Step σ s (σ' i) s'/\eB s ((ak a.eval o).events P s.w #[])
def AK.hand(x:ι->D)(σ':ι->List bm)(A:o.guard=af)(r:fE N o.dst=ab)(h:jR P N o φ σ x σ')(k:∀i,AK X N Qf (.ops all rest::K) .normal (kp o.dst (x i) φ) (σ' i)):AK X N Qf (.ops all (o::rest)::K) .normal φ σ:=by
 intro s a f hh b kk cs S idx hb iI hQ;cases idx with
 |nil=>exact iI.elim
 |cons j idx =>
 refine Af hb iI.1 (dx A) λB d=>?_;have c:=hh.rely d;have l:=f.rely d hh;obtain⟨i,z,s',v,h1,h2,w,m,n,p⟩:=h B a l c;have g:=n.ow c;refine⟨z,s',v,h1,h2,⟨⟨σ,σ' i,c,m,n⟩,p⟩,?_⟩;refine k i s' _ ?_ m b kk cs S idx hb iI.2 λe σ2 s2 a2 q u h2 st=>hQ e σ2 s2 a2 q u h2 ((d.stepW.trans g).trans st);cases y:o.dst with
 |none=>exact l.mono g c.len
 |some t=>exact(l.mono g c.len).put (gE r t y) w
def AK.law{x:D}(h:bE P o (bO φ) σ x σ')(a:o.guard=af)(b:fE N o.dst=ab)(k:AK X N Qf (.ops all rest::K) .normal (kp o.dst x φ) σ'):AK X N Qf (.ops all (o::rest)::K) .normal φ σ :=
 AK.one (.mT (λ_ _ _ _=>dx a) h) b k
def BR(all:List aB)(φ:Fr)(o:aB):Bool:=match o.guard with
 |none=>ab
 |some (j,b)=>match Aa φ all j with
  |some (aa ab)=>b
  |some (aa ae)=>!b
  |_=>ae
def Jp(h:BR all φ o=ab):∀σ s a,cr N σ s φ a->aZ o (yielded all.toArray a.tmps)=ab:=by
 intro σ s a f;unfold BR at h;split at h
 .grind [dx]
 .rename_i j b d;split at h
  .rename_i c;simp only[aZ,d,qi c f,h];rfl
  .rename_i c;simp only[aZ,d,qi c f];grind
  grind
end
section
variable {X:Cx P}
def AK.G7{φ':Fr}(k:AK X N Qf (.code c::K) .normal φ' σ'){qs:List Prop}(h1:qC φ φ'=aa ps)(a:au ps)(h2:te σ σ'=aa qs)(b:au qs):AK X N Qf (.code c::K) .normal φ σ :=
 AK.norm σ' h2 b (AW.le k (dj h1 a))
def tX:List It->List It
 |.blk _::K=>tX K
 |K=>K
def AK.tX:∀{K:List It},AK X N Qf (tX K) .normal φ σ->AK X N Qf K .normal φ σ
 |[],h=>h
 |.blk _::K,h=>AK.tX (K:=K) h
 |.code _::_,h=>h
 |.ops _ _::_,h=>h
def AK.kA{S S2:Type}{c2:Code}(id:Nat){f h:List It}(h2:kz id K=aa f)(j:Go.AM.tX f=.code c2::h)(O:S2->Prop)(j8:S2->Fr)(a:S2->List bm)(n:Nat)(I:S->Prop)(fr:S->Fr)(st:S->List bm)(i:S->Nat)(x:S){qs:List Prop}(g:qC φ (fr x)=aa ps)(d:au ps)(e:te σ (st x)=aa qs)(b:au qs)(m:σ.length=n)(k:I x)(round:(∀(y:S2) {φ:Fr} {σ:List bm} {ps qs:List Prop},O y->qC φ (j8 y)=aa ps->au ps->te σ (a y)=aa qs->au qs->AK X N Qf f .normal φ σ) ->
   ∀x,I x->AK X N (lM X N Qf K I fr st i n x) [.code c] .normal (fr x) (st x))(after:∀y,O y->AK X N Qf (.code c2::h) .normal (j8 y) (a y)):AK X N Qf (.code (.loop c)::K) .normal φ σ :=
 AK.bX n I fr st i x g d e b m k (round λy _ _ _ _ l h1 d h2 b=>AK.tX (by rw[j];exact(after y l).G7 h1 d h2 b))
end
section
variable {X:Cx P}
def Yields(X:Cx P)(d:Nat)(ds:List D)(σ:List bm)(res:Bool)(σ':ι->List bm):Prop :=
 ∀s (vs:List aj) (l:Nat),cn σ s vs ds->aD σ s->(∃L,s.β[d]?=aa L/\L.v=.func (.yield l) #[] #[]) ->
  ∃fn tmps assign body,(Instr.yield l vs.toArray).run P s.w=.ok (.round l fn tmps assign body) s.w/\(Instr.yield l vs.toArray).events P s.w #[]=#[⟨.obj l,ae,ae⟩] /\
  ∀(S:aq->St->Prop) (c:aV) (cs:List aV),(∀i s',aD (σ' i) s'->cR σ s (σ' i) s'->fy X S (G (c.finish (.bool res)) cs) s') ->
   fy X S (G (Frame.round l fn tmps assign body .normal) (c::cs)) s
def mg{r:Loop}(h:w.heap[l]?=aa (.loop r)):(Instr.getLoop l).run P w=.ok r w/\∀es,(Instr.getLoop l).events P w es=es.push ⟨.obj l,ae,ae⟩:=by
 have c:(getObj l).run P w=.ok (.loop r) w:=by simp only[getObj,Sem.run,h]
 have d:∀es,(getObj l).events P w es=es.push ⟨.obj l,ae,ae⟩:=λes=>by simp only[getObj,Sem.events,Sem.runT,h];rfl
 constructor
 .simp[Instr.getLoop,c]
 .intro es;simp[Instr.getLoop,c,d]
def pg{r r':Loop}(h:w.heap[l]?=aa (.loop r)):(setObj l (.loop r')).run P w=.ok () {w with heap:=w.heap.setIfInBounds l (.loop r')}/\∀es,(setObj l (.loop r')).events P w es=es.push ⟨.obj l,ab,ae⟩:=by
 constructor
 .simp only[setObj,Sem.run,h]
 .intro es;simp only[setObj,Sem.events,Sem.runT,h];rfl
def G2{r:Loop}{args:Array aj}(h:w.heap[l]?=aa (.loop r))(d:args.size=r.params.size):
  (Instr.yield l args).run P w=.ok (.round l r.fn ((r.params.zip args).foldl (λtmps (t,a)=>tmps.setIfInBounds t a) r.tmps) r.assign r.body) w/\(Instr.yield l args).events P w #[]=#[⟨.obj l,ae,ae⟩]:=by
 obtain⟨c,e⟩:=mg (P:=P) h;constructor
 .simp[Instr.yield,c,d]
 .simp[Instr.yield,c,e,d]
def G3{r:Loop}(h:w.heap[l]?=aa (.loop r))(e:r.state=.ready):
  (Instr.beginRound l).run P w=.ok () {w with heap:=w.heap.setIfInBounds l (.loop {r with state:=.busy})}/\(Instr.beginRound l).events P w #[]=#[⟨.obj l,ae,ae⟩,⟨.obj l,ab,ae⟩]:=by
 obtain⟨d,f⟩:=mg (P:=P) h;obtain⟨c,g⟩:=pg (P:=P) (r':={r with state:=.busy}) h;constructor
 .simp[Instr.beginRound,d,c,e]
 .simp[Instr.beginRound,d,f,c,g,e]
def Ag{r:Loop}(h:w.heap[l]?=aa (.loop r))(j:Option Code):
  (Instr.endRound l j).run P w=.ok (.bool j.isNone) {w with heap:=w.heap.setIfInBounds l (.loop {r with state:=if j.isNone then .ready else .done,pending:=j})}/\(Instr.endRound l j).events P w #[]=#[⟨.obj l,ae,ae⟩,⟨.obj l,ab,ae⟩]:=by
 obtain⟨c,f⟩:=mg (P:=P) h;obtain⟨d,e⟩:=pg (P:=P) (r':={r with state:=if j.isNone then .ready else .done,pending:=j}) h;constructor
 .simp only[Instr.endRound,bT,c,d,cm,cV]
 .simp only[Instr.endRound,aP,c,f,d,e,aU,Sem.events_pure];rfl
def BS{r:Loop}(h:w.heap[l]?=aa (.loop r))(d:r.state≠.busy):
  (Instr.endLoop l).run P w=.ok r.pending {w with heap:=w.heap.setIfInBounds l (.loop {r with state:=.exhausted})}/\(Instr.endLoop l).events P w #[]=#[⟨.obj l,ae,ae⟩,⟨.obj l,ab,ae⟩]:=by
 obtain⟨c,e⟩:=mg (P:=P) h;obtain⟨f,g⟩:=pg (P:=P) (r':={r with state:=.exhausted}) h;have i:(r.state==.busy)=ae:=by cases j:r.state<;>simp_all
 constructor
 .simp[Instr.endLoop,c,f,d]
 .simp[Instr.endLoop,c,e,g,d]
section steps
variable {b:aV}{a:Act}{k:List Item}{main:Bool}
def BT(ho:o.op=.call {callee:=.value fo,args:=xs,argTypes:=jP})(c:a.eval fo=.func (.yield l) #[] #[]):
  (ak a.eval o).run P w=(Instr.yield l (xs.toList.map a.eval).toArray).run P w/\(ak a.eval o).events P w #[]=(Instr.yield l (xs.toList.map a.eval).toArray).events P w #[]:=by
 have d:xs.map a.eval=(xs.toList.map a.eval).toArray:=by grind
 constructor
 .simp[ak,ho,resolve,c,Deferred.ofValue,invoke,d]
 .simp[ak,ho,resolve,c,Deferred.ofValue,invoke,d]
def Jq{rest:List Nat}{fn:aK}{tmps:Array aj}{assign body:Code}(ho:ops[i]?=aa o)(e:aZ o (yielded ops a.tmps)=ab)(h:b.kind≠.early)(f:(ak a.eval o).run P w=.ok (.round l fn tmps assign body) w'):
  aH P main (G (b.aT a (.inRegion ops (i::rest)::k)) cs) w=.go (G (Frame.round l fn tmps assign body .normal) (b.aT a (.inRegion ops (i::rest)::k)::cs)) w' (Go.Conc.listed P b.fn a o w):=by
 have d:(b.kind==CallKind.early)=ae:=by grind
 rw[qb ho e (λc g=>by grind[rQ])];simp[stepG.apply,f,G,Frame.aT,d,GStep.after,Go.Conc.listed]
def Jr{r:Loop}(e:b.roundOf=aa l)(i:b.kind≠.early)(h:w.heap[l]?=aa (.loop r))(g:r.state=.ready):
  aH P main (G (b.aT a (.beginRound::k)) cs) w=.go (G (b.aT a k) cs) {w with heap:=w.heap.setIfInBounds l (.loop {r with state:=.busy})} (seen P b.fn #[⟨.obj l,ae,ae⟩,⟨.obj l,ab,ae⟩]):=by
 obtain⟨f,d⟩:=G3 (P:=P) h g;have c:(b.kind==CallKind.early)=ae:=by grind
 simp[G,aH,stepG.exec,stepG.apply,Frame.aT,e,c,f,d,GStep.after,Frame.finish]
def BU{r:Loop}{j:Option Code}{e:List Item}{c:aV}(g:b.roundOf=aa l)(i:b.kind=.normal)(h:w.heap[l]?=aa (.loop r))(m:(j=af/\e=[])∨(j=aa .ret/\∃k1,e=.code .ret::k1)∨(∃id k1,j=aa (.exit id)/\e=.code (.exit id)::k1/\exitTo id k1=af)):
  aH P main (G (b.aT a e) (c::cs)) w=.go (G (c.finish (.bool j.isNone)) cs) {w with heap:=w.heap.setIfInBounds l (.loop {r with state:=if j.isNone then .ready else .done,pending:=j})} (seen P b.fn #[⟨.obj l,ae,ae⟩,⟨.obj l,ab,ae⟩]):=by
 obtain⟨d,f⟩:=Ag (P:=P) h j;rcases m with⟨rfl,rfl⟩|⟨rfl,k1,rfl⟩|⟨id,k1,rfl,rfl,n⟩
 .simp only[Option.isNone_none,bY]at d;simp[G,aH,stepG.exec,Frame.aT,g,d,f,GStep.after,doReturn,i]
 .simp only[Option.isNone_some,bS,gO]at d;simp[G,aH,stepG.exec,Frame.aT,g,d,f,GStep.after,doReturn,i]
 .simp only[Option.isNone_some,bS,gO]at d;simp[G,aH,stepG.exec,Frame.aT,g,d,f,GStep.after,doReturn,i,n]
def DY{r:Loop}(h:w.heap[l]?=aa (.loop r))(d:r.state≠.busy):
  aH P main (G (b.aT a (.endRangeFunc l::k)) cs) w=.go (G (b.aT a ((r.pending.map Item.code).toList++k)) cs) {w with heap:=w.heap.setIfInBounds l (.loop {r with state:=.exhausted})} (seen P b.fn #[⟨.obj l,ae,ae⟩,⟨.obj l,ab,ae⟩]):=by obtain⟨c,e⟩:=BS (P:=P) h d;simp[G,aH,stepG.exec,Frame.aT,c,e,GStep.after]
def x0{fn:aK}{tmps:Array aj}{params:Array Tmp}{assign body:Code}:
  (Instr.enterLoop fn tmps params assign body af).run P w=.ok (w.heap.size+1,[{target:=.collected w.heap.size,args:=#[]}]) {w with heap:=(w.heap.push (.deferred (aa []))).push (.loop {state:=.ready,pending:=af,fn,tmps,params,assign,body,defers:=w.heap.size})} /\
  (Instr.enterLoop fn tmps params assign body af).events P w #[]=#[]:=by
 have c:∀(o:Obj) (w:aA),(newObj o).run P w=.ok w.heap.size {w with heap:=w.heap.push o}:=λo w=>by simp only[newObj,Sem.run]
 have d:∀(o:Obj) (w:aA) es,(newObj o).events P w es=es:=λo w es=>by simp only[newObj,Sem.events,Sem.runT]
 constructor
 .simp[Instr.enterLoop,c];rfl
 .simp[Instr.enterLoop,c,d]
def Ah{f:aC}{ps:Array Tmp}{assign body:Code}{F:aK}{fn:Func}{c:List aj}(q:b.roundOf=af)(s:b.kind≠.early)(h:P.funcs[F]?=aa fn)(l:(fn.name== "runtime.NumGoroutine")=ae)(i:fn.body.isNone=ae)(o:a.eval f=.func (.func F) #[] c.toArray):
  aH P main (G (b.aT a (.code (.rangeFunc f ps assign body)::k)) cs) w =
   .go (G (Frame.enter P F (Value.func (.yield (w.heap.size+1)) #[] #[]::c).toArray .normal) (b.aT {a with defers:={target:=.collected w.heap.size,args:=#[]}::a.defers} (.inRangeFunc (w.heap.size+1)::k)::cs))
    {w with heap:=(w.heap.push (.deferred (aa []))).push (.loop {state:=.ready,pending:=af,fn:=b.fn,tmps:=a.tmps,params:=ps,assign,body,defers:=w.heap.size})} #[]:=by
 obtain⟨r,p⟩:=x0 (P:=P) (w:=w) (fn:=b.fn) (tmps:=a.tmps) (params:=ps) (assign:=assign) (body:=body);have j:(b.kind==CallKind.early)=ae:=by grind
 have g:fn.name≠ "runtime.NumGoroutine":=by grind
 have e:fn.body≠af:=by grind
 have n:∀(d:List Deferred) (t:List Item) (m:FrameMode),({fn:=b.fn,tmps:=a.tmps,todo:=t,defers:=d,mode:=m,kind:=b.kind,roundOf:=b.roundOf}:aV).eval f=.func (.func F) #[] c.toArray:=by intro d t m;rw[<-o];cases f<;>rfl
 simp only[G,aH,stepG.exec,Frame.aT,q]at n⊢;simp[r,p,GStep.after,stepG.apply,resolve,n,Deferred.ofValue,invoke,callFunc,h,g,e,j,seen];rfl
end steps
end
section
variable {X:Cx P}
def aD.Ai(hh:aD σ s){b:Nat}{a:Fr}{r:Loop}(c:σ[b]?=aa (.loop N a r))(hl:∃L,s.β[b]?=aa L/\L.v=.func (.yield l) #[] #[]):
  ∃tmps fn df,s.β[b]?=aa ⟨.func (.yield l) #[] #[],[l]⟩/\s.w.heap[l]?=aa (.loop {r with tmps:=tmps,fn:=fn,defers:=df})/\tmps.size=N/\(∀t,dm σ s (tmps.getD t ah) (look a t))/\(∀o,s.M l o=af):=by obtain⟨L,h1,h2⟩:=hl;obtain⟨l',tmps,fn,df,e,f,g,d,h⟩:=hh.box b _ L c h1;grind
def aD.Aj(hh:aD σ s){c:Nat}{a:Fr}{r r':Loop}{B':bm}(n:σ[c]?=aa (.loop N a r)){tmps:Array aj}{fn df:Nat}(m:s.β[c]?=aa ⟨.func (.yield l) #[] #[],[l]⟩)(ho:s.w.heap[l]?=aa (.loop {r with tmps:=tmps,fn:=fn,defers:=df}))(p:tmps.size=N)(f:∀t,dm σ s (tmps.getD t ah) (look a t))(z:∀o,s.M l o=af)(d:B'=.dead∨B'=.loop N a r'):
  aD (σ.set c B') {s with w:={s.w with heap:=s.w.heap.setIfInBounds l (.loop {r' with tmps:=tmps,fn:=fn,defers:=df})}}/\Step σ s (σ.set c B') {s with w:={s.w with heap:=s.w.heap.setIfInBounds l (.loop {r' with tmps:=tmps,fn:=fn,defers:=df})}}:=by
 have u:l<s.w.heap.size:=hh.lt _ (bL m) l (by simp);have y:∀b,b≠l->(s.w.heap.setIfInBounds l (.loop {r' with tmps:=tmps,fn:=fn,defers:=df}))[b]?=s.w.heap[b]?:=λb hb=>by grind
 have x:s.β.set c ⟨.func (.yield l) #[] #[],[l]⟩=s.β:=by apply gQ;grind
 have k:c<σ.length:=(b8.1 n).1;have j:ic (.loop N a r) ⟨.func (.yield l) #[] #[],[l]⟩ B' ⟨.func (.yield l) #[] #[],[l]⟩:=by rcases d with rfl|rfl<;>rfl
 have ex:Ext σ s (σ.set c B') {s with w:={s.w with heap:=s.w.heap.setIfInBounds l (.loop {r' with tmps:=tmps,fn:=fn,defers:=df})}}:=by
  refine⟨λ_ _ _ h=>h,λi B L q g=>?_⟩;by_cases e:c=i
  .grind
  .exact⟨B,L,by grind,g,.refl _ _⟩
 have:=hh.ig (M':=s.M) (w':={s.w with heap:=s.w.heap.setIfInBounds l (.loop {r' with tmps:=tmps,fn:=fn,defers:=df})}) (B':=B') (L':=⟨.func (.yield l) #[] #[],[l]⟩) n m j (by simp) (λb _ hb=>y b (by grind)) (λ_ _ _ _=>rfl) (λ_ _ _ h=>h)
  (λb o v hm=>by
   have A:b≠l:=by grind
   rw[<-hh.mem b o v hm];simp only[aW]
   grind) (λb hb=>by grind) rfl rfl rfl (by
   rcases d with rfl|rfl
   .trivial
   .refine⟨l,tmps,fn,df,rfl,?_,p,λt=>?_,z⟩
    .grind
    .have:=(f t).mono ex hh.len
     grind)
 grind
def AK.yield{σ':ι->List bm}{h:Nat}{ds:List D}{res:Bool}(I:Yields X h ds σ res σ')(Z:o.guard=af)(W:fE N o.dst=ab)(ho:o.op=.call {callee:=.value fo,args:=xs,argTypes:=jP}){U:Nat}{y:Fr}{r:Loop}(v:σ[h]?=aa (.loop U y r))(H:bO φ fo=.e (.one (.ref h)))(x:xs.toList.map (bO φ)=ds)(k:∀j,AK X N Qf (.ops all rest::K) .normal (kp o.dst (.e (.one (.c (.bool res)))) φ) (σ' j)):AK X N Qf (.ops all (o::rest)::K) .normal φ σ:=by
 intro s a f hh b kk cs S idx hb iI hQ;cases idx with
 |nil=>exact iI.elim
 |cons j idx =>
 refine .next rfl λi n=>?_;have B:=X.ij n;have d:=hh.rely B;have C:=f.rely B hh;have E:=c8 C fo;rw[H]at E;obtain⟨_,L,u,z,_⟩:=(show gb _ i _ (.ref h)from E)
 obtain⟨l,tmps,fn,df,G,h4,h5,h6,h7⟩:=d.box h _ L v u;subst G;have m:cn σ i (xs.toList.map a.eval) ds:=by grind[nL,c8]
 obtain⟨O,p,assign,body,V,Y,Q⟩:=I i (xs.toList.map a.eval) l m d ⟨_,u,rfl⟩;obtain⟨R,J⟩:=BT (P:=P) (w:=i.w) (a:=a) ho z;refine⟨_,i,_,Jq iI.1 (dx Z) hb (R.trans V),⟨⟨σ,σ,d,d,.refl _ _⟩,eB.seen ?_⟩,Q S _ _ λF s' jq st=>?_⟩
 .rw[J,Y];exact .one (gH (L:=⟨.func (.yield l) #[] #[],[l]⟩) (bL u) (by simp))
 have g:=jg (b:=b) (a:=a) (k:=kk) all.toArray j idx (.bool res);rw[iI.1]at g;simp only[mH]at g;rw[g];refine k F s' _ ?_ jq b kk cs S idx hb iI.2 λA σ2 s2 a2 q M h2 oE=>hQ A σ2 s2 a2 q M h2 ((B.stepW.trans st).trans oE);cases T:o.dst with
 |none=>exact C.mono st d.len
 |some t=>exact(C.mono st d.len).put (gE W t T) (show dm (σ' F) s' (.bool res) (.e (.one (.c (.bool res))))from Rd.bool)
def rb:List Tmp->List D->Fr->Fr
 |t::ts,d::ds,φ=>rb ts ds ((t,d)::φ)
 |_,_,φ=>φ
def Nx(N:Nat):List Tmp->Bool
 |[]=>ab
 |t::ts=>match bz (t+1) N with|true=>Nx N ts|false=>ae
def FU{N:Nat}{σ:List bm}{s:St}:∀{ps:List Tmp}{ds:List D}{vs:List aj}{φ:Fr}{a:Act},cr N σ s φ a->cn σ s vs ds->Nx N ps=ab->cr N σ s (rb ps ds φ) {a with tmps:=(ps.zip vs).foldl (λtmps (t,v)=>tmps.setIfInBounds t v) a.tmps}
 |[],ds,vs,φ,a,h,_,_=>by simpa[rb]using h
 |_::_,[],[],φ,a,h,_,_=>by simpa[rb]using h
 |_::_,[],_::_,φ,a,h,b,_=>b.elim
 |_::_,_::_,[],φ,a,h,b,_=>b.elim
 |t::ts,d::ds,v::vs,φ,a,h,b,c=>by
  simp only[Nx]at c;split at c
  .rename_i e;have:=FU (h.put (d:=t) (dM e) b.1) b.2 c;simpa[rb,Act.put]using this
  grind
def QX:Exit->Option (Option Code)
 |.normal=>aa af
 |.ret=>aa (aa .ret)
 |.exit id=>aa (aa (.exit id))
 |_=>af
def Yields.intro{ι:Type}{k N:Nat}{f:Fr}{r:Loop}{ds:List D}{σ:List bm}{σ':ι->List bm}{j:Option Code}(p:σ[k]?=aa (.loop N f r))(FP:r.state=.ready)(hlen:ds.length=r.params.size)(Y:Nx N r.params.toList=ab)(h:AW X N r.assign (λe B σ1=>e=.normal/\σ1[k]?=aa (.loop N f r)/\AW X N r.body (λe φ2 σ2=>QX e=aa j/\σ2[k]?=aa (.loop N f {r with state:=.busy}) /\
   ∃i,G4 (σ2.set k (.loop N f {r with state:=if j.isNone then .ready else .done,pending:=j})) (σ' i)) B (σ1.set k (.loop N f {r with state:=.busy}))) (rb r.params.toList ds f) σ):Yields X k ds σ j.isNone σ':=by
 intro s vs l T hh hl;obtain⟨tmps,fn,df,h1,h2,h3,h4,h5⟩:=hh.Ai p hl;have Pc:vs.length=r.params.size:=by grind[cn.get]
 obtain⟨y1,y2⟩:=G2 (P:=P) (args:=vs.toArray) h2 (by grind);refine⟨_,_,_,_,y1,y2,λS c cs hS=>?_⟩;let b:aV:={fn:=fn,tmps:=#[],todo:=[],defers:=[],mode:=.run,kind:=.normal,roundOf:=aa l}
 have hb:b.kind≠.early:=by simp[b]
 have hf:cr N σ s (rb r.params.toList ds f) {tmps:=(r.params.zip vs.toArray).foldl (λtmps (t,a)=>tmps.setIfInBounds t a) tmps,defers:=[]}:=by
  have:=FU (a:={tmps:=tmps,defers:=[]}) (φ:=f) ⟨h3,⟨[],ar⟩,h4⟩ T Y;have e:(r.params.zip vs.toArray).foldl (λtmps (x:Tmp×aj)=>tmps.setIfInBounds x.1 x.2) tmps=(r.params.toList.zip vs).foldl (λtmps (x:Tmp×aj)=>tmps.setIfInBounds x.1 x.2) tmps:=by rw[<-Array.foldl_toList];simp
  grind
 show fy X S (G (b.aT {tmps:=(r.params.zip vs.toArray).foldl (λtmps (t,a)=>tmps.setIfInBounds t a) tmps,defers:=[]} [.code r.assign,.beginRound,.code r.body]) (c::cs)) s;refine h s _ hf hh b [.beginRound,.code r.body] (c::cs) S hb ?_;rintro e B σ1 s1 a1 ⟨rfl,u,q⟩ f1 F H;refine .next rfl λs2 sO=>?_;have M:=X.ij sO;have m:=F.rely M;have f2:=f1.rely M F;have W:∃L,s2.β[k]?=aa L/\L.v=.func (.yield l) #[] #[]:=by obtain⟨B',L',k1,V,Q⟩:=(H.trans M.stepW).box k _ _ p h1;rw[u]at k1;cases k1;exact⟨L',V,Q⟩
 obtain⟨R,fn2,VH,g1,g2,g3,g4,g5⟩:=m.Ai u W;have K:=m.Aj (r':={r with state:=.busy}) u g1 g2 g3 g4 g5 (.inr rfl);have J:∀{s:St} {σ:List bm} {L:Loc},s.β[k]?=aa L->L.bs=[l]->eB s #[⟨.obj l,ae,ae⟩,⟨.obj l,ab,ae⟩]:=λ{s σ L} hL hb =>
  .two (gH (bL hL) (by grind)) (gH (bL hL) (by grind))
 refine⟨_,_,_,Jr (l:=l) rfl hb g2 FP,⟨⟨_,_,m,K.1,K.2⟩,eB.seen (J (σ:=σ1) g1 rfl)⟩,?_⟩;have I:=K.2.ow m;have Z:=K.1;refine q _ a1 (f2.mono I m.len) Z b [] (c::cs) S hb ?_;rintro e φ3 O s3 a3 ⟨hj,o,ii,C⟩ f3 E QY;have stA:=((H.trans M.stepW).trans I).trans QY;have fin:∀A g,b6 s3 g->((j=af/\A=[])∨(j=aa .ret/\∃k1,A=.code .ret::k1)∨(∃id k1,j=aa (.exit id)/\A=.code (.exit id)::k1/\exitTo id k1=af)) ->
   ∃g' s' es,aH P X.main (G (b.aT a3 A) (c::cs)) g.w=.go g' s'.w es/\qS g s' es/\fy X S g' s':=by
  intro A g d V7;have n:=E.rely d;have y:∃L,g.β[k]?=aa L/\L.v=.func (.yield l) #[] #[]:=by obtain⟨B',L',k1,V,Q⟩:=(stA.trans d.stepW).box k _ _ p h1;rw[o]at k1;cases k1;exact⟨L',V,Q⟩
  obtain⟨U,fn5,df5,p1,p2,p3,p4,p5⟩:=n.Ai o y;have z:=n.Aj (r':={r with state:=if j.isNone then .ready else .done,pending:=j}) o p1 p2 p3 p4 p5 (.inr rfl);obtain⟨p7,p8,_⟩:=C _ z.1;exact⟨_,_,_,BU (l:=l) rfl rfl p2 V7,⟨⟨_,_,n,z.1,z.2⟩,eB.seen (J (σ:=O) p1 rfl)⟩,hS ii _ p7 (((stA.trans d.stepW).trans (z.2.ow n)).trans (p8.ow z.1))⟩
 cases e with
 |normal =>
  cases hj;exact .next rfl λg d=>fin [] g (X.ij d) (.inl ⟨rfl,rfl⟩)
 |ret =>
  cases hj;intro pre;exact .next rfl λg d=>fin _ g (X.ij d) (.inr (.inl ⟨rfl,pre,rfl⟩))
 |exit id =>
  cases hj;intro pre hp;refine .next rfl λg d=>fin _ g (X.ij d) (.inr (.inr ⟨id,_,rfl,rfl,?_⟩));have:=hp [];simpa[exitTo]using this
 |_=>cases hj
end
def nZ(X:Cx P)(N:Nat)(c:Code)(Q:Post)(φ:Fr)(σ:List bm):Prop :=
 ∀s a,cr N σ s φ a->aD σ s->∀(b:aV) (k:List Item) (cs:List aV) (S:aq->St->Prop),b.kind≠.early->b.roundOf=af ->
  (∀e φ' σ' s' a',Q e φ' σ'->cr N σ' s' φ' a'->aD σ' s'->cR σ s σ' s'->ends X S b k cs e a' s')->fy X S (G (b.aT a (.code c::k)) cs) s
section
variable {X:Cx P}{Q:Post}
def AW.top(h:AW X N c Q φ σ):nZ X N c Q φ σ:=λs a f hh b k cs S hb _ d=>h s a f hh b k cs S hb d
theorem nZ.seq{x y:Code}(h:nZ X N x (FV (nZ X N y Q) Q) φ σ):nZ X N (.seq x y) Q φ σ:=by
 intro s a i hh b k cs S hb MA hQ;refine .ctl hh rfl (λ_=>nO) λj h1=>?_;refine h j a (i.rely h1 hh) (hh.rely h1) b (.code y::k) cs S hb MA ?_;intro e φ' σ' s' a' q g f st;have c:=h1.stepW.trans st;cases e with
 |normal=>exact q s' a' g f b k cs S hb MA λe d σ2 s2 a2 q2 f2 h2 oE=>hQ e d σ2 s2 a2 q2 f2 h2 (c.trans oE)
 |_=>exact ends.cons (λ_ _=>rfl) (by simp) (hQ _ _ _ _ _ q g f c)
theorem nZ.block{id:Nat}(h:nZ X N c (Ak id Q) φ σ):nZ X N (.block id c) Q φ σ:=by
 intro s a i hh b k cs S hb MA hQ;refine .ctl hh rfl (λ_=>rP) λm h1=>?_;refine h m a (i.rely h1 hh) (hh.rely h1) b (.inBlock id::k) cs S hb MA ?_;intro e φ' σ' s' a' q g f st;have d:=h1.stepW.trans st;cases e with
 |normal =>
  exact .ctl f rfl (λ_=>qU) λs2 h2=>hQ .normal φ' σ' s2 a' q (g.rely h2 f) (f.rely h2) (d.trans h2.stepW)
 |exit Ir =>
  simp only[Ak]at q;split at q
  .rename_i e;subst e;intro pre hp;refine .ctl f rfl (λ_=>zE (k':=k) (by rw[hp];simp[exitTo])) λs2 h2=>?_;exact hQ .normal φ' σ' s2 a' q (g.rely h2 f) (f.rely h2) (d.trans h2.stepW)
  .rename_i j
   intro pre hp;have:=hQ (.exit Ir) φ' σ' s' a' q g f d (pre++[.inBlock id]) (λk'=>by
    rw[jV,hp];have:(id==Ir)=ae:=by grind
    simp[exitTo,this])
   grind
 |ret=>exact hQ _ _ _ _ _ q g f d
 |panic ch=>exact hQ _ _ _ _ _ q g f d
 |goto l=>exact hQ _ _ _ _ _ q g f d
 |outgrown=>exact hQ _ _ _ _ _ q g f d
def aD.QZ(h:aD σ s){o:Nat->Prop}(ho:∀b,o b->b<s.w.heap.size/\∀L∈s.β,b∉L.bs):aD σ {s with own:=o} :=
 ⟨h.mem,h.len,λl B L c a=>eK.carry (σ:=σ) (s:=s) (σ':=σ) (s':={s with own:=o}) ⟨λ_ _ _ h=>h,λ_ B L h d=>⟨B,L,h,d,.refl _ _⟩⟩ h.len (λ_ _=>⟨rfl,λ_=>rfl⟩) (h.box l B L c a),h.eZ,h.lt,ho⟩
def aD.g6(h:aD σ s){r:Nat}{o:Nat->Prop}(m:s.own r)(ho:∀b,o b->s.own b)(g:¬o r)(j:∀i,s.M r i=af)(k:s.w.heap[r]?=aa (.deferred (aa []))):
  aD (σ++[.qT]) {s with β:=s.β++[⟨.int .i64 r,[r]⟩],own:=o}/\eO s {s with β:=s.β++[⟨.int .i64 r,[r]⟩],own:=o}:=by
 obtain⟨q,p⟩:=h.own r m;have ex:Ext σ s (σ++[.qT]) {s with β:=s.β++[⟨.int .i64 r,[r]⟩],own:=o}:=by
  refine⟨λ_ _ _ h=>h,λl B L c a=>⟨B,L,?_,?_,.refl _ _⟩⟩
  .grind
  grind
 refine⟨⟨h.mem,by simp[h.len],?_,?_,?_,?_⟩,⟨rfl,λ_ _ _ h=>h,λ_ _ _=>rfl,h.mem,?_⟩⟩
 .intro l B L c a;rcases fR a with e|⟨hl,rfl⟩
  .have hl:l<σ.length:=by rw[<-h.len];grind
   rw[js hl]at c;exact(h.box l B L c e).carry ex h.len λ_ _=>⟨rfl,λ_=>rfl⟩
  .rw[hl,h.len,fA (ba _)]at c;simp at c;subst c;exact⟨r,rfl,k,j⟩
 .intro l l' L L' a d b hb ov;rcases fR a with k1|⟨e1,rfl⟩<;>rcases fR d with f|⟨e2,rfl⟩
  .exact h.eZ l l' L L' k1 f b hb ov
  .grind
  .grind
  grind
 .intro L a b hb;simp only[eJ,gN]at a;rcases a with a|rfl
  .exact h.lt L a b hb
  grind
 .intro b hb;obtain⟨n,p2⟩:=h.own b (ho b hb);grind
 grind
def Js:Option Code->Option Exit
 |none=>aa .normal
 |some .ret=>aa .ret
 |some (.exit id)=>aa (.exit id)
 |_=>af
def nZ.rangeFunc{f:aC}{ps:Array Tmp}{assign body:Code}{F:aK}{capD:List D}{σ':ι->List bm}{r':ι->Loop}(Mx:∀s a,cr N σ s φ a->aD σ s->∃n:List aj,a.eval f=.func (.func F) #[] n.toArray/\cn σ s n capD)(Iy:dO X F (.e (.one (.ref σ.length))::capD) (σ++[.loop N φ {state:=.ready,pending:=af,fn:=0,tmps:=#[],params:=ps,assign:=assign,body:=body,defers:=0}]) res σ')(hl:∀i,(σ' i)[σ.length]?=aa (.loop N φ (r' i))/\(r' i).state≠.busy)(k:∀i,∃e,Js (r' i).pending=aa e/\Q e φ ((σ' i).set σ.length .dead++[.qT])):nZ X N (.rangeFunc f ps assign body) Q φ σ:=by
 intro s a fr hh b kk cs S hb MA hQ;obtain⟨⟨fn,Ny,Jt,I⟩,J⟩:=Iy;refine .next rfl λd W2=>?_;have hr:=X.ij W2;have g:=hh.rely hr;have f1:=fr.rely hr hh;obtain⟨n,hv,z⟩:=Mx d a f1 g;generalize Vs:d.w.heap.size=r;have q:=λmain=>Ah (P:=P) (main:=main) (k:=kk) (cs:=cs) (ps:=ps) (assign:=assign) (body:=body) (b:=b) (w:=d.w) MA hb Ny Jt I hv;rw[Vs]at q;let w1:aA:={d.w with heap:=d.w.heap.push (.deferred (aa []))}
 let lo:Loop:={state:=.ready,pending:=af,fn:=b.fn,tmps:=a.tmps,params:=ps,assign:=assign,body:=body,defers:=r}
 let w2:aA:={d.w with heap:=(d.w.heap.push (.deferred (aa []))).push (.loop lo)}
 have MQ:w2.heap.size=r+2:=by grind
 have aaV:w1.heap.size=r+1:=by grind
 have hk1:∀b,b<d.w.heap.size->w1.heap[b]?=d.w.heap[b]?:=λb hb=>by grind
 have W3:∀b,b<w1.heap.size->w2.heap[b]?=w1.heap[b]?:=λb hb=>by grind
 have Z:∀b,b<d.w.heap.size->w2.heap[b]?=d.w.heap[b]?:=λb hb=>by grind
 have V:w2.heap[r]?=aa (.deferred (aa [])):=by grind
 have W4:w2.heap[r+1]?=aa (.loop lo):=by grind
 have nM:∀b,d.w.heap.size<=b->∀o,d.M b o=af:=λb hb o=>by
  cases hm:d.M b o with
  |none=>rfl
  |some v=>have:=g.block hm;omega
 let L1:Loc:=⟨.func (.yield (r+1)) #[] #[],[r+1]⟩
 let L2:Loc:=⟨.int .i64 r,[r]⟩
 let K:Loop:={state:=.ready,pending:=af,fn:=0,tmps:=#[],params:=ps,assign:=assign,body:=body,defers:=0}
 obtain⟨g1,g2⟩:=g.grow (M':=d.M) (w':=w2) (by omega) Z (λ_ _ _=>rfl) (λb hb o v hm=>by grind) rfl rfl rfl;have y:Ext σ d (σ++[.loop N φ K]) ⟨d.β++[L1],d.M,w2,d.own⟩:=by
  refine⟨λ_ _ _ h=>h,λl B L hB m=>⟨B,L,?_,?_,.refl _ _⟩⟩
  .grind
  grind
 obtain⟨a1,a2⟩:=g1.gz (B:=.loop N φ K) (L:=L1) g2 rfl g ⟨r+1,a.tmps,b.fn,r,rfl,W4,f1.size,λt=>(f1.slot t).mono y g.len,λo=>nM _ (by omega) o⟩ (λb hb=>by grind)
 have hD:=a1.QZ (o:=λb=>d.own b∨b=r) (by
  rintro b (hb|rfl)
  .exact a1.own b hb
  .refine⟨by grind,λL m=>?_⟩;simp only[eJ,gN]at m;rcases m with m|rfl
   .intro U;have:=g.lt L m b U;omega
   grind)
 have d1:=g.k7;obtain⟨e1,e2⟩:=d1.grow (M':=d.M) (w':=w1) (by omega) hk1 (λ_ _ _=>rfl) (λb hb o v hm=>by grind) rfl rfl rfl;obtain⟨e3,e4⟩:=e1.gz (B:=.dead) (L:=L2) e2 rfl d1 ar (λb hb=>by grind)
 obtain⟨e5,e6⟩:=e3.grow (M':=d.M) (w':=w2) (by grind) W3 (λ_ _ _=>rfl) (λb hb o v hm=>by grind) rfl rfl rfl
 obtain⟨e7,e8⟩:=e5.gz (B:=.dead) (L:=L1) e6 rfl e3 ar (λb hb=>by grind);have VK:eO ⟨d.β++[L2]++[L1],d.M,w2,d.own⟩ ⟨d.β++[L1],d.M,w2,λb=>d.own b∨b=r⟩:=by
  refine⟨rfl,λ_ _ _ h=>h,λ_ _ _=>rfl,a1.mem,?_⟩;rintro b ((hb|rfl)|⟨L,m,hb⟩)
  .grind
  .exact .inr ⟨L2,by simp,by grind⟩
  grind
 refine⟨_,⟨d.β++[L2]++[L1],d.M,w2,d.own⟩,_,q X.main,⟨⟨_,_,d1,e7,e4.trans e8⟩,.nil⟩,.ghost VK (J _ (Value.func (.yield (r+1)) #[] #[]::n) ?_ hD S _ λi SJ v s4 C lX W st4=>?_)⟩
 .refine⟨⟨λB p=>?_,L1,?_,rfl,rfl⟩,?_⟩
  .rw[fA (ba _)]at p;simp at p;subst p;rfl
  .show (d.β++[L1])[σ.length]?=_;rw[<-g.len,fA (ba _)];simp
  .exact z.mono (σ:=σ) (s:=d) (σ':=σ++[.loop N φ K]) (s':=⟨d.β++[L1],d.M,w2,λb=>d.own b∨b=r⟩) ⟨y.mem,y.box⟩ g.len
 have R:(b.aT {a with defers:={target:=.collected r,args:=#[]}::a.defers} (.inRangeFunc (r+1)::kk)).finish v=b.aT {a with defers:={target:=.collected r,args:=#[]}::a.defers} (.endRangeFunc (r+1)::kk):=by simp[Frame.finish,Frame.aT]
 refine pZ (cs:=cs) (c:=b.aT {a with defers:={target:=.collected r,args:=#[]}::a.defers} (.inRangeFunc (r+1)::kk)) W C λs5 YI=>?_;rw[R];refine .next rfl λs6 T=>?_;have Y:=X.ij T;have x:=(W.rely YI).rely Y;have O:=(st4.trans YI.stepW).trans Y.stepW;obtain⟨H,TT⟩:=hl i;have hLl:∃L,s6.β[σ.length]?=aa L/\L.v=.func (.yield (r+1)) #[] #[]:=by
  obtain⟨B',L',k1,k2,k3⟩:=O.box σ.length (.loop N φ K) L1 (show(σ++[bm.loop N φ K])[σ.length]?=_ from List.getElem?_concat_length) (by show(d.β++[L1])[σ.length]?=_;rw[<-g.len,fA (ba _)];simp)
  rw[H]at k1;cases k1;exact⟨L',k2,k3⟩
 obtain⟨A,fn6,df6,p1,p2,p3,p4,p5⟩:=x.Ai H hLl;obtain⟨q1,q2⟩:=x.Aj (r':={r' i with state:=.exhausted}) (B':=.dead) H p1 p2 p3 p4 p5 (.inl rfl);refine⟨_,_,_,DY p2 TT,⟨⟨_,_,x,q1,q2⟩,eB.seen (.two (gH (bL p1) (by simp)) (gH (bL p1) (by simp)))⟩,?_⟩;have j:=O.trans (q2.ow x);generalize hs7:({s6 with w:={s6.w with heap:=s6.w.heap.setIfInBounds (r+1) (.loop {{r' i with state:=.exhausted}with tmps:=A,fn:=fn6,defers:=df6})}}:St)=s7 at q1 q2 j;have h7r:s7.own r:=by rw[j.own];grind
 have h7d:s7.w.heap[r]?=aa (.deferred (aa [])):=by rw[j.keep r (.inr rfl)];exact V
 have h7M:∀o,s7.M r o=af:=λo=>by rw[j.iO r (by grind) (λL m=>(hD.own r (.inr rfl)).2 L m)];grind
 obtain⟨t1,t2⟩:=q1.g6 (r:=r) (o:=d.own) h7r (λb hb=>by rw[j.own];grind) (λU=>by have:=(g.own r U).1;omega) h7M h7d;refine .ghost t2 ?_;have E:cR σ d ((σ' i).set σ.length .dead++[.qT]) {s7 with β:=s7.β++[⟨.int .i64 r,[r]⟩],own:=d.own}:=by
  refine⟨?_,λb hb=>?_,λb o v hm=>j.mem b o v hm,λb hb hn o=>?_,λL m b hb=>?_,λl B L hB m=>?_,j.os,j.tape,j.output,rfl⟩
  .grind
  .show s7.w.heap[b]?=_;rw[j.keep b (.inl hb)];exact Z b (g.own b hb).1
  .show s7.M b o=_;rw[j.iO b (by grind) (λL m=>?_)];grind
  .simp only[eJ,gN]at m;rcases m with m|rfl
   .rcases j.uW L m b hb with h1|⟨L0,h1,h2⟩
    .grind
    grind
   grind
  .have Qe:=(b8.1 hB).1;have V5:=(b8.1 m).1;obtain⟨B',L',k1,k2,k3⟩:=j.box l B L (by grind) (by grind);grind
 have fF:cr N ((σ' i).set σ.length .dead++[.qT]) {s7 with β:=s7.β++[⟨.int .i64 r,[r]⟩],own:=d.own} φ {a with defers:={target:=.collected r,args:=#[]}::a.defers}:=by
  have hm:=f1.mono E g.len;obtain⟨ls,Q0⟩:=f1.defers;refine⟨hm.size,⟨((σ' i).set σ.length .dead).length::ls,⟨⟨?_,⟨.int .i64 r,[r]⟩,r,?_,rfl,rfl⟩,λU=>?_,Q0.mono E.ext⟩⟩,hm.slot⟩
  .grind
  .show (s7.β++_)[_]?=_;rw[<-q1.len,fA (ba _)];simp
  .have h1:=Q0.BV _ U;grind
 obtain⟨e,p,hq⟩:=k i;have u:=hQ e φ _ _ _ hq fF t1 (hr.stepW.trans E);revert p;show Js (r' i).pending=aa e->fy X S (G (b.aT _ (((r' i).pending.map Item.code).toList++kk)) cs) _;intro p;cases hp:(r' i).pending with
 |none=>rw[hp]at p;cases p;exact u
 |some c =>
  rw[hp]at p;cases c<;>simp only[Js,reduceCtorEq,dq]at p
  .subst p;exact u [] (λ_=>rfl)
  .subst p;exact u kk
def cr.callee{t:Nat}{F:aK}(hl:look φ t=.e (.one (.c (.fn (.func F) [] cap)))):∀s a,cr N σ s φ a->aD σ s->∃b:List aj,a.eval (.tmp t)=.func (.func F) #[] b.toArray/\cn σ s b (fD cap):=by
 intro s a d _;have h:=d.slot t;rw[hl]at h;have h:=fI h;show ∃b:List aj,a.tmps.getD t ah=.func (.func F) #[] b.toArray/\_;generalize a.tmps.getD t ah=v at h;cases h with
 |fn fs cs hl Dr f1 f2 h1 h2 r1 r2 =>
  grind[lB]
def dO.Al{f:aK}{fn:Func}{args:List D}{σ':ι->List bm}(m:P.funcs[f]?=aa fn)(d:(fn.name== "runtime.NumGoroutine")=ae)(hb:fn.body=aa c)(g:bz args.length fn.ntmps=ab)(h:Fits args σ->nZ X fn.ntmps c (λe φ σ1=>∃j,ck fn σ.length (res j) (σ' j) e φ σ1) (jh 0 args) σ):dO X f args σ res σ':=by refine⟨⟨fn,m,d,by grind⟩,λs0 vs hr hh=>?_⟩;exact(dO.Px m d hb (dM g) λs a f i b k cs S n l o=>h ⟨s0,vs,hr,hh⟩ s a f i b k cs S n l o).2 s0 vs hr hh
def W5(fn:Func)(res:D)(σ':List bm):Post:=λe φ σ1 =>
 (e=.ret∨e=.normal)/\σ1=σ'/\mY σ'=ab/\∃ds d ps,xT φ fn.results.toList=aa ds/\rS ds=aa d/\Ds d res=aa ps/\au ps
def dO.DZ{f:aK}{fn:Func}{args:List D}{σ':ι->List bm}(p:P.funcs[f]?=aa fn)(k:(fn.name== "runtime.NumGoroutine")=ae)(hb:fn.body=aa c)(g:bz args.length fn.ntmps=ab)(h:AW X fn.ntmps c (λe φ σ1=>∃j,W5 fn (res j) (σ' j) e φ σ1) (jh 0 args) σ):dO X f args σ res σ':=by
 refine⟨⟨fn,p,k,by grind⟩,λs vs hr hh S cs hS=>?_⟩;obtain⟨hl,I⟩:=cn.get hr;let b:aV:={fn:=f,tmps:=#[],todo:=[],defers:=[],mode:=.run,kind:=.normal,roundOf:=af}
 have a:Frame.enter P f vs.toArray .normal=b.aT {tmps:=vs.toArray++Array.replicate (fn.ntmps-vs.toArray.size) ah,defers:=[]} [.code c]:=by simp[Frame.enter,Frame.aT,p,hb,b]
 rw[a];have g:=dM g;refine h s {tmps:=vs.toArray++Array.replicate (fn.ntmps-vs.toArray.size) ah,defers:=[]} ⟨by grind,⟨[],ar⟩,λt=>?_⟩ hh b [] cs S (by simp[b]) ?_
 .rw[nS];simp only[iT,bY,kZ];have:=I t;rcases cG t vs.length with C|z
  .have e:(vs.toArray++Array.replicate (fn.ntmps-vs.toArray.size) ah).getD t ah=(vs[t]?).getD ah:=by simp only[dL];grind
   grind
  .rw[qQ (by omega)];trivial
 .rintro e φ' σ1 s1 a1 ⟨x,o,rfl,n,ds,d,ps,h1,h2,r,u⟩ y m st;have fin:∀(fr:aV) s2,b6 s1 s2->fr.fn=f->fr.tmps=a1.tmps->fr.defers=a1.defers->fr.mode=.returning->fr.kind=.normal->fy X S (G fr cs) s2:=by
   intro fr s2 sO e1 e2 e3 e4 e5;have q:=y.rely sO m;obtain⟨v,B,A,E⟩:=tR (P:=P) q h1 h2;obtain⟨ls,i⟩:=q.defers;have F:a1.defers=[]:=by
    cases ls with
    |nil=>cases H:a1.defers with
     |nil=>rfl
     |cons d ds=>rw[H]at i;exact i.elim
    |cons l ls=>exact absurd rfl (mZ n _ (bL (i.BV l (by simp))))
   refine hS x fr v _ ⟨e1,e4,by grind,e5,fn,by grind,λw _=>?_⟩ (qW r u A) (m.rely sO) (st.trans sO.stepW);rw[e2];exact⟨B w,λe o=>by rw[E w #[]]at o;grind⟩
  rcases o with rfl|rfl
  .intro pre;exact .ctl m rfl (λ_=>DD rfl) λs2 sO=>fin _ s2 sO rfl rfl (kK _) rfl rfl
  .exact .ctl m rfl (λ_=>DF rfl) λs2 sO=>fin _ s2 sO rfl rfl (kK _) rfl rfl
end
structure JR{P:aO}(X:Cx P)(N:Nat)(ops:Array aB)(φ:Fr)(σ:List bm)(x:Nat->D)(c:Nat->Fr)(idx:Nat->Option Nat)(last:Nat):Prop where
 back:∀i o,ops[i]?=aa o->∀e∈o.after,dh e=ab->e.on<i
 IT:∀i o d,ops[i]?=aa o->o.dst=aa d->idx d=aa i/\d<N
 xU:∀d i,idx d=aa i->∃o,ops[i]?=aa o/\o.dst=aa d
 one:∀i o,ops[i]?=aa o->i≠last->OA X N ops.toList o (c i) σ (x i) σ
 SJ:∀i o,ops[i]?=aa o->i≠last->∀t σ s v,dm σ s v (match idx t with|some j=>(if ∃e∈o.after,dh e=ab/\e.on=j then x j else .any)|none=>look φ t)->dm σ s v (look (c i) t)
 Y2:∀o,ops[last]?=aa o->∀j,j<ops.size->j≠last->∃e∈o.after,dh e=ab/\e.on=j
 has:last<ops.size
section
variable {X:Cx P}{x:Nat->D}{c:Nat->Fr}{idx:Nat->Option Nat}{last:Nat}
theorem B6{a t:Nat}(h:∀i,i<ops.size->L.getD i ab=ab):Region.linearise.go .any ops a t L []=[]:=by
 cases a with
 |zero=>exact vI t L
 |succ n =>
  have b:aY .any ops L=[]:=by
   cases b:aY .any ops L with
   |nil=>rfl
   |cons y d =>
    have e:y∈aY .any ops L:=by grind
    grind[mem_ready]
  grind[o8]
def JR.arr(h:JR X N ops φ σ x c idx last){W:aq->St->Prop}{b:aV}{kk:List Item}(hb:b.kind≠.early){s0:St}(hQ:∀s a,a.tmps.size=N->(∀t,dm σ s (a.tmps.getD t ah) (match idx t with|some j=>if j=last then .any else x j|none=>look φ t))->a.defers=[]->aD σ s->cR σ s0 σ s->fy X W (G (b.aT a (.inRegion ops [last]::kk)) cs) s):
  ∀(f:Nat) (L:Array Bool),L.size=ops.size->(L.toList.filter (λb=>!b)).length<=f->¬L.getD last ae=ab ->
   (∀i o,ops[i]?=aa o->L.getD i ae=ab->∀e∈o.after,dh e=ab->L.getD e.on ae=ab) ->
   ∀(s:St) (a:Act),Il N σ s (fX φ x idx L) a->a.defers=[]->aD σ s->cR σ s0 σ s ->
   ∀t,fy X W (G (b.aT a (.inRegion ops (Region.linearise.go .any ops f t L [])::kk)) cs) s:=by
 intro f;induction f with
 |zero =>
  intro L hs hf m K s a g H hh st t;exfalso;have hm:L[last]'(by have:=h.has;omega)∈L.toList:=by simp
  have R:=h.has;cases hb:L[last]'(by omega)with
  |true=>exact m (by simp[dL,fN (by omega:last<L.size),hb])
  |false =>
   have:L[last]'(by omega)∈L.toList.filter (λb=>!b):=hZ.2 ⟨hm,by grind⟩;grind
 |succ f ih =>
  intro L hs hf m K s a g H hh st t;rw[o8];cases F:(aY .any ops L)[t % (aY .any ops L).length]? with
  |none =>
   exfalso;have hr:aY .any ops L=[]:=by
    cases hr:aY .any ops L with
    |nil=>rfl
    |cons y ys =>
     grind[Nat.mod_lt]
   have J:∀i,i<ops.size->L.getD i ae=ab:=by
    intro i;induction i using Nat.strongRecOn with
    |_ i ihi =>
     intro hi;cases hb:L.getD i ae with
     |true=>rfl
     |false =>
      have hm:i∈aY .any ops L:=mem_ready.2 ⟨ops[i],fN hi,by
       grind,λe T A=>by
       have:=h.back i _ (fN hi) e T A
       grind⟩
      grind
   exact m (J last h.has)
  |some i =>
   have hi:=bL F;obtain⟨o,ho,Vz,M5⟩:=mem_ready.1 hi;have R:i<ops.size:=(fb.1 ho).1;have E:¬L.getD i ae=ab:=by grind
   by_cases z:i=last
   .subst z;have w:Region.linearise.go .any ops f (t / (aY .any ops L).length) (L.setIfInBounds i ab) []=[]:=by
     refine B6 λj hj=>?_;have hj2:(L.setIfInBounds i ab).getD j ae=ab:=by
      rw[eC (by omega)];by_cases e:j=i
      .grind
      .obtain⟨ed,T,A,rfl⟩:=h.Y2 o ho j hj e;grind
     grind
    simp only[w];refine hQ s a g.size (λt=>?_) H hh st;have:=g.slot t;unfold fX at this;cases k:idx t with
    |none=>grind
    |some j =>
     simp only[k]at this⊢;obtain⟨Y,B,_⟩:=h.xU _ _ k;by_cases e:j=i
     .rw[br e];trivial
     .rw[a9 e];obtain⟨ed,T,A,rfl⟩:=h.Y2 o ho j (fb.1 B).1 e;grind
   have r:(L.setIfInBounds i ab).size=ops.size:=by grind
   have q:((L.setIfInBounds i ab).toList.filter (λb=>!b)).length<=f:=by
    have h1:L.toList[i]?=aa ae:=by rw[zv,fN (by omega:i<L.size)];simpa[dL,fN (by omega:i<L.size)]using E
    grind[count_set]
   have I:∀j Z,ops[j]?=aa Z->(L.setIfInBounds i ab).getD j ae=ab->∀e∈Z.after,dh e=ab->(L.setIfInBounds i ab).getD e.on ae=ab:=by grind[eC]
   have p:¬(L.setIfInBounds i ab).getD last ae=ab:=by grind[eC]
   have U:cr N σ s (c i) a:=g.IS λt σ s v C=>h.SJ i o ho z t σ s v (by
    unfold fX at C;cases k:idx t with
    |none=>grind
    |some j =>
     simp only[k]at C⊢;split
     .grind
     .trivial)
   have u:∀(s':St) (v:aj),cR σ s σ s'->dm σ s' v (x i)->Il N σ s' (fX φ x idx (L.setIfInBounds i ab)) (a.put o.dst v):=by
    intro s' v l C;cases H:o.dst with
    |none =>
     refine⟨g.size,g.defers.imp λ_ h1=>h1.mono l.ext,λt=>?_⟩;have n:=(g.slot t).mono l.ext hh.len;simp only[Act.put];unfold fX at n⊢;cases k:idx t with
     |none=>grind
     |some j =>
      simp only[k]at n⊢;obtain⟨Y,B,M⟩:=h.xU _ _ k;grind[eC]
    |some d =>
     obtain⟨Q,O⟩:=h.IT i o d ho H;refine⟨by simp[Act.put,g.size],g.defers.imp λ_ h1=>h1.mono l.ext,λt=>?_⟩;simp only[Act.put];by_cases e:d=t
     .subst e;have S:d<a.tmps.size:=by rw[g.size];exact O
      simp only[dL,vm S,ga];unfold fX;simp only[Q];rw[br ((eC (by omega)).2 (.inl rfl))];exact C
     .have n:=(g.slot t).mono l.ext hh.len;simp only[dL]at n⊢;rw[nE e];unfold fX at n⊢;cases k:idx t with
      |none=>grind
      |some j =>
       simp only[k]at n⊢;obtain⟨Y,B,M⟩:=h.xU _ _ k;grind[eC]
   have:=h.one i o ho z s a U hh b kk cs W i (Region.linearise.go .any ops f (t / (aY .any ops L).length) (L.setIfInBounds i ab) []) hb (by grind);simp only[qR]at this;exact this λv s' C V l=>ih _ r q p I s' _ (u _ _ l C) (by cases o.dst<;>exact H) V (st.trans l) _
theorem JR.region(h:JR X N ops φ σ x c idx last)(v:P.follows Departure.mixedOrders=ab){r:aq->St->Prop}{b:aV}{kk:List Item}(hb:b.kind≠.early){s0:St}{a0:Act}{id:Nat}(f0:cr N σ s0 φ a0)(q:a0.defers=[])(l:aD σ s0)(y:∀s a,a.tmps.size=N->(∀t,dm σ s (a.tmps.getD t ah) (match idx t with|some j=>if j=last then .any else x j|none=>look φ t))->a.defers=[]->aD σ s->cR σ s0 σ s->fy X r (G (b.aT a (.inRegion ops [last]::kk)) cs) s):
  fy X r (G (b.aT a0 (.code (.region id ops ab)::kk)) cs) s0:=by
 refine .next rfl λg f=>?_;have f:=X.ij f;have e:=l.rely f;have m:=f0.rely f l;have k:Step σ g σ {g with w:={g.w with drawn:=g.w.drawn+1}}:=Step.same rfl rfl rfl rfl;have n:aD σ {g with w:={g.w with drawn:=g.w.drawn+1}}:=e.same rfl;have p:=f.stepW.trans (k.ow e);refine⟨_,{g with w:={g.w with drawn:=g.w.drawn+1}},#[],lE,⟨⟨σ,σ,e,n,k⟩,.nil⟩,?_⟩;simp only[Region.schedule,v,Bool.true_or,bY];refine h.arr hb (s0:=s0) y ops.size _ (by simp) (by simp) ?_ ?_ _ a0 ?_ q n p _
 .simp[dL,mF];split<;>simp
 .intro i o ho hi;simp[dL,mF]at hi;split at hi<;>simp at hi
 .have d:=m.mono (k.ow e) e.len;refine⟨d.size,d.defers,λt=>?_⟩;unfold fX;cases u:idx t with
  |none=>exact d.slot t
  |some j =>
   simp only;rw[a9]
   .exact d.slot t
   .simp[dL,mF];split<;>simp
end
def qj(X:Cx P)(N:Nat)(all:List aB)(o:aB)(φ:Fr)(σ:List bm)(x:ι->D)(σ':ι->List bm):Prop :=
 ∀s a,cr N σ s φ a->aD σ s->∀(b:aV) (k:List Item) (cs:List aV) (S:aq->St->Prop) (i:Nat) (rest:List Nat),b.kind≠.early->all.toArray[i]?=aa o ->
  (∀j v s',dm (σ' j) s' v (x j)->aD (σ' j) s'->cR σ s (σ' j) s'->fy X S (G (b.aT (a.put o.dst v) (.inRegion all.toArray rest::k)) cs) s')->fy X S (G (b.aT a (.inRegion all.toArray (i::rest)::k)) cs) s
def Ap:List aB->Nat->(Nat->D)->List (Option Nat×D)
 |[],_,_=>[]
 |o::r,i,x=>(o.dst,x i)::Ap r (i+1) x
def wi{x:Nat->D}:∀{l:List aB}{k j:Nat},(Ap l k x)[j]?=(l[j]?).map λo=>(o.dst,x (k+j))
 |[],k,j=>by simp[Ap]
 |o::r,k,0=>by simp[Ap]
 |o::r,k,j+1=>by simp only[Ap,nF];rw[wi,show k+1+j=k+(j+1) by omega]
def j8(all:List aB)(φ:Fr)(x:Nat->D)(i:Nat):Fr:=jb (λj=>g9 j (bU (all.getD i jo).after.toList)) 0 (Ap all 0 x) (uB all φ)
def Nn(all:List aB)(φ:Fr)(x:Nat->D):Fr:=jb (λ_=>ab) 0 (Ap all 0 x) (uB all φ)
def pe(N:Nat):List aB->Bool
 |[]=>ab
 |o::r=>match fE N o.dst with|true=>pe N r|false=>ae
def yA{N:Nat}:∀{l:List aB},pe N l=ab->∀(i:Nat)(o:aB),l[i]?=aa o->fE N o.dst=ab
 |[],_,i,o,h=>by grind
 |p::r,h,i,o,hi=>by
  simp only[pe]at h;split at h
  .rename_i a;cases i with
   |zero=>grind
   |succ i=>exact yA h i o (by grind)
  grind
def tV:List aB->Nat->Bool
 |[],_=>ab
 |o::r,i=>match SL i (bU o.after.toList)with|true=>tV r (i+1)|false=>ae
def BZ:∀{l:List aB}{k:Nat},tV l k=ab->∀(i:Nat)(o:aB),l[i]?=aa o->∀e∈bU o.after.toList,e<k+i
 |[],_,_,i,o,h=>by grind
 |p::r,k,h,i,o,hi=>by
  simp only[tV]at h;split at h
  .rename_i a;cases i with
   |zero=>simp at hi;subst hi;exact DO a
   |succ i=>intro e b;have:=BZ h i o (by grind) e b;omega
  grind
def Aq(pre:Nat->Bool):List Nat->Bool
 |[]=>ae
 |e::r=>match pre e with|true=>Aq pre r|false=>ab
theorem yB{pre:Nat->Bool}:∀{l:List Nat},Aq pre l=ab->∃e∈l,pre e=ae
 |[],h=>by cases h
 |e::r,h=>by
  simp only[Aq]at h;split at h
  .obtain⟨a,b,c⟩:=yB h;grind
  grind
def Ar(pre:Nat->Bool)(m:Nat):List aB->Nat->Bool
 |[],_=>ab
 |o::r,i=>match pre i with
  |true=>Ar pre m r (i+1)
  |false=>match av i m with
   |true=>Ar pre m r (i+1)
   |false=>match Aq pre (bU o.after.toList)with|true=>Ar pre m r (i+1)|false=>ae
theorem FZ{pre:Nat->Bool}{m:Nat}:∀{l:List aB}{k:Nat},Ar pre m l k=ab->∀(i:Nat)(o:aB),l[i]?=aa o->pre (k+i)=ae->k+i≠m->∃e∈bU o.after.toList,pre e=ae
 |[],_,_,i,o,h=>by grind
 |p::r,k,h,i,o,hi=>by
  intro a c;simp only[Ar]at h;cases i with
  |zero =>
   simp at hi;subst hi;simp only[ia]at a c;grind[Nat.eq_of_beq_eq_true,yB]
  |succ i =>
   have b:Ar pre m r (k+1)=ab:=by grind
   exact FZ b i o (by grind) (by grind) (by omega)
section
variable {X:Cx P}{idx:Nat->Option Nat}
def NA{x:Nat->D}{a:Act}(d:∀t σ s v,dm σ s v (match idx t with|some j=>(if ∃e∈o.after,dh e=ab/\e.on=j then x j else .any)|none=>look φ t)->dm σ s v (look (j8 ops.toList φ x i) t))(c:Il N σ s (fX φ x idx L) a)(g:∀e∈o.after,dh e=ab->L.getD e.on ae=ab):cr N σ s (j8 ops.toList φ x i) a:=c.IS λt σ s v f=>d t σ s v (by
 unfold fX at f;cases b:idx t with
 |none=>grind
 |some j =>
  simp only[b]at f⊢;split
  .grind
  .trivial)
def G9{x y:Nat->D}{σ2:List bm}{a:Act}(c:∀d,o.dst=aa d->idx d=aa i/\d<N)(p:∀d j,idx d=aa j->∃o,ops[j]?=aa o/\o.dst=aa d)(ho:ops[i]?=aa o)(w:i<L.size)(r:∀j,L.getD j ae=ab->y j=x j)(f:s.β.length=σ.length)(st:cR σ s σ2 s')(b:Il N σ s (fX φ x idx L) a)(q:dm σ2 s' v (y i)):Il N σ2 s' (fX φ y idx (L.setIfInBounds i ab)) (a.put o.dst v):=by
 have old:∀t,idx t≠aa i->dm σ2 s' (a.tmps.getD t ah) (fX φ y idx (L.setIfInBounds i ab) t):=by intro t z;have n:=(b.slot t).mono st.ext f;unfold fX at n⊢;grind[eC]
 cases u:o.dst with
 |none =>
  refine⟨b.size,b.defers.imp λ_ m=>m.mono st.ext,λt=>?_⟩;refine old t λh=>?_;grind
 |some d =>
  obtain⟨k,g⟩:=c d u;refine⟨by simp[Act.put,b.size],b.defers.imp λ_ m=>m.mono st.ext,λt=>?_⟩;simp only[Act.put];by_cases e:d=t
  .subst e;have l:d<a.tmps.size:=by rw[b.size];exact g
   simp only[dL,vm l,ga];unfold fX;simp only[k];rw[br ((eC w).2 (.inl rfl))];exact q
  .have:=old t (λh=>by grind)
   simp only[dL]at this⊢;grind
def JE{back:∀i o,ops[i]?=aa o->∀e∈o.after,dh e=ab->e.on<i}(f:L.size=ops.size)(h:aY .any ops L=[]):∀i,i<ops.size->L.getD i ae=ab:=by
 intro i;induction i using Nat.strongRecOn with
 |_ i b =>
  intro hi;cases c:L.getD i ae with
  |true=>rfl
  |false =>
   have d:i∈aY .any ops L:=mem_ready.2 ⟨ops[i],fN hi,by
    grind,λe g a=>by grind⟩
   grind
def D5{t:Nat}(a:(aY .any ops L)[t % (aY .any ops L).length]?=af):aY .any ops L=[]:=by
 cases b:aY .any ops L with
 |nil=>rfl
 |cons y c =>
  grind[Nat.mod_lt]
theorem As(e:L.size=ops.size)(d:(L.toList.filter (λb=>!b)).length<=0):∀i,i<ops.size->L.getD i ae=ab:=by
 intro i hi;have c:L[i]'(by omega)∈L.toList:=by simp
 cases a:L[i]'(by omega)with
 |true=>simp[dL,fN (by omega:i<L.size),a]
 |false =>
  have:L[i]'(by omega)∈L.toList.filter (λb=>!b):=hZ.2 ⟨c,by grind⟩;grind
end
def eu(i:Nat)(D:Nat->Bool):Nat->Bool:=λj=>match av j i with|true=>ab|false=>D j
section
variable {X:Cx P}{g:Type}{x:g->Nat->D}{idx:Nat->Option Nat}{S:g->(Nat->Bool)->List bm}{Inv:g->(Nat->Bool)->Prop}{c:Nat}
def kU(L:Array Bool):Nat->Bool:=λi=>L.getD i ae
def He(hi:i<L.size):kU (L.setIfInBounds i ab)=eu i (kU L):=by funext j;have h:=eC (L:=L) (i:=i) (j:=j) hi;simp only[kU,eu];grind[Nat.eq_of_beq_eq_true,Nat.beq_refl]
def Ra{c:Nat}(d:L.size=n)(h:∀k,c<=k->¬L.getD k ae=ab):n-c<=(L.toList.filter (λb=>!b)).length:=by
 have e:(L.toList.drop c).filter (λb=>!b)=L.toList.drop c:=by rw[oQ];intro b a;obtain⟨i,hi,rfl⟩:=dH a;have:=h (c+i) (by omega);simp only[rE,iY]at hi;simp only[dL,fN (by omega:c+i<L.size),ga]at this;grind
 grind[List.drop_sublist]
theorem Names.T9(all:List aB)(c:Nat):Names all (List.range' c (all.length-c)) (all.drop c):=by
 have key:∀(l:List aB) (n:Nat),(∀j o,l[j]?=aa o->all[n+j]?=aa o)->Names all (List.range' n l.length) l:=by
  intro l;induction l with
  |nil=>intro n _;trivial
  |cons o r b =>
   intro n h;rw[fQ,List.range'_succ];refine⟨by simpa using h 0 o rfl,b (n+1) λj a hj=>?_⟩;have:=h (j+1) a (by grind);grind
 have:=key (all.drop c) c λj o h=>by grind
 grind
structure Ua{P:aO}(X:Cx P)(N:Nat)(ops:Array aB)(φ:Fr){g:Type}(x:g->Nat->D)(S:g->(Nat->Bool)->List bm)(Inv:g->(Nat->Bool)->Prop)(idx:Nat->Option Nat)(c:Nat):Prop where
 back:∀i o,ops[i]?=aa o->∀e∈o.after,dh e=ab->e.on<i
 IT:∀i o d,ops[i]?=aa o->o.dst=aa d->idx d=aa i/\d<N
 xU:∀d i,idx d=aa i->∃o,ops[i]?=aa o/\o.dst=aa d
 one:∀κ (D:Nat->Bool) i o,Inv κ D->ops[i]?=aa o->i<c->D i=ae->(∀e∈o.after,dh e=ab->D e.on=ab)->(∀j o',ops[j]?=aa o'->D j=ab->∀e∈o'.after,dh e=ab->D e.on=ab)->qj X N ops.toList o (j8 ops.toList φ (x κ) i) (S κ D) (λq:{κ':g // (∀j,D j=ab->x κ' j=x κ j)/\Inv κ' (eu i D)}=>x q.1 i) (λq=>S q.1 (eu i D))
 SJ:∀(x:Nat->D) i o,ops[i]?=aa o->∀t σ s v,dm σ s v (match idx t with|some j=>(if ∃e∈o.after,dh e=ab/\e.on=j then x j else .any)|none=>look φ t)->dm σ s v (look (j8 ops.toList φ x i) t)
 fin:∀(x:Nat->D) t σ s v,dm σ s v (match idx t with|some j=>x j|none=>look φ t)->dm σ s v (look (Nn ops.toList φ x) t)
 SU:∀i o,ops[i]?=aa o->c<=i->∀L:Array Bool,(∀i o,ops[i]?=aa o->L.getD i ae=ab->∀e∈o.after,dh e=ab->L.getD e.on ae=ab)->(∀e∈o.after,dh e=ab->L.getD e.on ae=ab)->∀k,k<i->L.getD k ae=ab
 cc:c<=ops.size
 Rb:∀κ (D:Nat->Bool),Inv κ D->(∀i,i<c->D i=ab)->∀i,c<=i->i<ops.size->x κ i=.any
def F4(a:L.size=n)(hi:i<n):L.getD i ab=ae↔¬L.getD i ae=ab:=by grind
theorem Ua.seq(h:Ua X N ops φ x S Inv idx c):∀(a d:Nat)(L:Array Bool)(t:Nat),L.size=ops.size->c<=d->d<=ops.size->ops.size-d<=a->(∀k,k<ops.size->(L.getD k ae=ab↔k<d)) ->
  Region.linearise.go .any ops a t L []=List.range' d (ops.size-d):=by
 intro a;induction a with
 |zero =>
  grind[vI]
 |succ a v =>
  intro d L t u z C y s;by_cases E:d=ops.size
  .grind [B6]
  .rw[o8];have l:d<ops.size:=by omega
   have q:∀i o,ops[i]?=aa o->L.getD i ae=ab->∀e∈o.after,dh e=ab->L.getD e.on ae=ab:=λi o ho hi e j hb=>by have b:=(fb.1 ho).1;have h1:=(s i b).1 hi;have h2:=h.back i o ho e j hb;grind
   have p:∀i,i∈aY .any ops L->i=d:=λi hi=>by
    obtain⟨o,ho,hl,w⟩:=mem_ready.1 hi;have b:=(fb.1 ho).1;have B:¬i<d:=λn=>(F4 u b).1 hl ((s i b).2 n);rcases cG d i with h1|h1
    .have:=h.SU i o ho (by omega) L q w d h1;grind
    .omega
   have r:d∈aY .any ops L:=mem_ready.2 ⟨ops[d],fN l,(F4 u l).2 (λhh=>by grind),λe j hb=>by
    have:=h.back d _ (fN l) e j hb
    grind⟩
   have m:0<(aY .any ops L).length:=List.length_pos_of_mem r;have f:=iA t m;rw[bg f];have e1:=p _ (nH f);simp only[e1];rw[v (d+1) _ _ (by grind) (by omega) (by omega) (by omega) (λk A=>by grind[eC])]
   rw[show ops.size-d=(ops.size-(d+1))+1 by omega,List.range'_succ]
def Ua.arr(h:Ua X N ops φ x S Inv idx c){Q:aq->St->Prop}{b:aV}{kk:List Item}(hb:b.kind≠.early){σ0:List bm}{s0:St}(hQ:∀l D s a,Inv l D->(∀i,i<c->D i=ab)->cr N (S l D) s (Nn ops.toList φ (x l)) a->aD (S l D) s->cR σ0 s0 (S l D) s->fy X Q (G (b.aT a (.inRegion ops (List.range' c (ops.size-c))::kk)) cs) s):
  ∀(f:Nat) (l:g) (L:Array Bool),Inv l (kU L)->L.size=ops.size->(L.toList.filter (λb=>!b)).length<=f->(∀k,c<=k->¬L.getD k ae=ab) ->
   (∀i o,ops[i]?=aa o->L.getD i ae=ab->∀e∈o.after,dh e=ab->L.getD e.on ae=ab) ->
   ∀(s:St) (a:Act),Il N (S l (kU L)) s (fX φ (x l) idx L) a->aD (S l (kU L)) s->cR σ0 s0 (S l (kU L)) s ->
   ∀t,fy X Q (G (b.aT a (.inRegion ops (Region.linearise.go .any ops f t L [])::kk)) cs) s:=by
 have fin:∀(l:g) (L:Array Bool) (s:St) (a:Act) (f t:Nat),Inv l (kU L)->L.size=ops.size->(L.toList.filter (λb=>!b)).length<=f->(∀k,c<=k->¬L.getD k ae=ab)->(∀i,i<c->L.getD i ae=ab)->Il N (S l (kU L)) s (fX φ (x l) idx L) a->aD (S l (kU L)) s->cR σ0 s0 (S l (kU L)) s->fy X Q (G (b.aT a (.inRegion ops (Region.linearise.go .any ops f t L [])::kk)) cs) s:=by
  intro l L s a f t B C O w r m hh st;have R:=h.cc;rw[h.seq f c L t C (ba _) R (by
   have h2:=Ra (n:=ops.size) (c:=c) C w;omega) (λk Y=>⟨λM=>by grind,λM=>r k M⟩)]
  exact hQ l _ s a B r (m.IS λt σ s v H=>h.fin (x l) t σ s v (by
   unfold fX at H;cases hi:idx t with
   |none=>grind
   |some k =>
    simp only[hi]at H⊢;obtain⟨o,ho,_⟩:=h.xU _ _ hi;rcases cG k c with h1|h1
    .grind
    .rw[h.Rb l _ B r k h1 (fb.1 ho).1];trivial)) hh st
 intro f;induction f with
 |zero =>
  intro l L B C O w A s a m hh st t;have R:=h.cc;grind[As]
 |succ f ih =>
  intro l L B C O w A s a m hh st t;have R:=h.cc;cases p:(aY .any ops L)[t % (aY .any ops L).length]? with
  |none=>exact fin l L s a _ t B C O w (λi hi=>JE (back:=h.back) C (D5 p) i (by omega)) m hh st
  |some i =>
   have hi:=bL p;obtain⟨o,ho,Vz,u⟩:=mem_ready.1 hi;have sS:i<ops.size:=(fb.1 ho).1;rcases cG i c with E|E
   rotate_left
   .exact fin l L s a _ t B C O w (λk Y=>h.SU i o ho E L A u k (by omega)) m hh st
   rw[o8,p];have I:¬L.getD i ae=ab:=by grind
   have z:((L.setIfInBounds i ab).toList.filter (λb=>!b)).length<=f:=by
    have h1:L.toList[i]?=aa ae:=by rw[zv,fN (by omega:i<L.size)];simpa[dL,fN (by omega:i<L.size)]using I
    grind[count_set]
   have K:∀j Z,ops[j]?=aa Z->(L.setIfInBounds i ab).getD j ae=ab->∀e∈Z.after,dh e=ab->(L.setIfInBounds i ab).getD e.on ae=ab:=by grind[eC]
   have W:cr N (S l (kU L)) s (j8 ops.toList φ (x l) i) a:=NA (h.SJ (x l) i o ho) m u;have:=h.one l (kU L) i o B ho E (by unfold kU;grind) u A s a W hh b kk cs Q i (Region.linearise.go .any ops f (t / (aY .any ops L).length) (L.setIfInBounds i ab) []) hb (by grind);simp only[qR]at this;refine this λq v s' H F y=>?_;obtain⟨U,V,J⟩:=q;have T:=He (L:=L) (i:=i) (by omega);simp only at H F y;rw[<-T]at H F y J;exact ih U _ J (by grind) z (λk Y=>by grind[eC]) K s' _ (G9 (λd hd=>h.IT i o d ho hd) h.xU ho (by omega) (λj hj=>V j hj) hh.len y m H) F (st.trans y) _
def AW.reg(hf:P.follows Departure.mixedOrders=ab)(c:Nat)(x:g->Nat->D)(S:g->(Nat->Bool)->List bm)(Inv:g->(Nat->Bool)->Prop)(F:g)(hI0:Inv F λ_=>ae)(h0:S F (λ_=>ae)=σ)(W:m6 all=ab)(C:tV all 0=ab)(H:pe N all=ab)(hc:c<=all.length)(SU:∀i,c<=i->i<all.length->∀L:Nat->Prop,(∀i,i<all.length->L i->∀e∈bU (all.getD i jo).after.toList,L e)->(∀e∈bU (all.getD i jo).after.toList,L e)->∀k,k<i->L k)(Rb:∀n (D:Nat->Bool),Inv n D->(∀i,i<c->D i=ab)->∀i,c<=i->i<all.length->x n i=.any)(one:∀n (D:Nat->Bool) i o,Inv n D->all[i]?=aa o->i<c->D i=ae->(∀e∈bU o.after.toList,D e=ab)->(∀j o',all[j]?=aa o'->D j=ab->∀e∈bU o'.after.toList,D e=ab)->qj X N all o (j8 all φ (x n) i) (S n D) (λq:{G:g // (∀j,D j=ab->x G j=x n j)/\Inv G (eu i D)}=>x q.1 i) (λq=>S q.1 (eu i D))){Q:Post}(hQ:∀n D,Inv n D->(∀i,i<c->D i=ab)->jm X N all (all.drop c) (Q .normal) (Nn all φ (x n)) (S n D))(id:Nat):
  AW X N (.region id all.toArray ab) Q φ σ:=by
 have f:∀i:Nat,all.toArray[i]?=all[i]?:=λi=>by simp
 let idx:Nat->Option Nat:=λt=>(bk all.length).find? (λi=>decide ((all.getD i jo).dst=aa t));have M:∀t j,idx t=aa j->∃o,all[j]?=aa o/\o.dst=aa t:=by grind
 have u:∀i o d,all[i]?=aa o->o.dst=aa d->idx d=aa i:=by
  intro i o d ho hd;have hi:i<all.length:=(b8.1 ho).1;cases hx:idx d with
  |none =>
   have:=List.find?_eq_none.1 hx i (by grind);grind
  |some j =>
   grind[sY]
 have R:∀t,pb t all=ab↔∃j,idx t=aa j:=by grind[qf,rU]
 have I:∀i o,all[i]?=aa o->all.getD i jo=o:=λi o h=>by grind
 have hd:Ua X N all.toArray φ x S Inv idx c:=by
  refine⟨?_,?_,?_,?_,?_,?_,λi o ho WC L hLc hLp k hk=>?_,by grind,λn D J V i h1 h2=>Rb n D J V i h1 (by grind)⟩
  .intro i o ho e T hb;rw[f]at ho;have:=BZ C i o ho e.on (eE.2 ⟨e,by grind,hb,rfl⟩);omega
  .intro i o d ho hd;rw[f]at ho;exact⟨u i o d ho hd,gE (yA H i o ho) d hd⟩
  .grind
  .intro n D i o J ho Xf Xg M5 Mx;rw[f]at ho;exact one n D i o J ho Xf Xg (λe T=>by
    grind[eE]) λj o hj hDj e T=>by grind[eE]
  .intro x i o ho t σ s v O;rw[f]at ho;show dm σ s v (look (j8 all φ x i) t);unfold j8;rw[I i o ho];rcases m7 (m:=λj=>g9 j (bU o.after.toList)) (φ:=uB all φ) (t:=t) (l:=Ap all 0 x) (i:=0)with⟨j,y,h1,h2,B⟩|B
   .rw[B];rw[wi]at h1;cases hj:all[j]? with
    |none=>grind
    |some oj =>
     simp only[hj,mI,dq,lA,bA]at h1;rw[u j oj t hj h1.1]at O;simp only at O;rw[br]at O
     .grind
     .simp only[bA]at h2;obtain⟨e,a,b,c⟩:=eE.1 (IY h2);grind
   .rw[B,lr];split
    .trivial
    grind
  .intro x t σ s v O;show dm σ s v (look (Nn all φ x) t);unfold Nn;rcases m7 (m:=λ_=>ab) (φ:=uB all φ) (t:=t) (l:=Ap all 0 x) (i:=0)with⟨j,y,h1,h2,B⟩|B
   .rw[B];rw[wi]at h1;grind
   .rw[B,lr];split
    .trivial
    grind
  .rw[f]at ho;refine SU i WC (b8.1 ho).1 (λk=>L.getD k ae=ab) (λi' hi' hl e T=>?_) (λe T=>?_) k hk
   .grind [eE]
   grind[eE]
 intro s a Z hh b kk cs SS hb Wt;refine .next rfl λA r=>?_;have r:=X.ij r;have z:=hh.rely r;have K:=Z.rely r hh;have E:Step σ A σ {A with w:={A.w with drawn:=A.w.drawn+1}}:=Step.same rfl rfl rfl rfl;have Dq:aD σ {A with w:={A.w with drawn:=A.w.drawn+1}}:=z.same rfl;have Yv:=r.stepW.trans (E.ow z);refine⟨_,{A with w:={A.w with drawn:=A.w.drawn+1}},#[],lE,⟨⟨σ,σ,z,Dq,E⟩,.nil⟩,?_⟩;simp only[Region.schedule,hf,Bool.true_or,bY];have U:kU (Array.replicate all.toArray.size ae)=λ_=>ae:=by funext i;simp[kU,dL,mF];split<;>simp
 refine hd.arr hb (σ0:=σ) (s0:=s) (λn D s2 a2 J V f2 h2 oE=>?_) all.toArray.size F _ (by grind) (by simp) (by simp) ?_ ?_ _ a ?_ (by grind) (by grind) _
 .refine hQ n D J V s2 a2 f2 h2 b kk cs SS _ hb ?_ λφ3 σ3 s3 a3 q3 f3 B Y=>Wt .normal _ _ s3 a3 q3 f3 B (oE.trans Y);grind[Names.T9]
 .intro i _ hi;simp[dL,mF]at hi;split at hi<;>simp at hi
 .intro i o ho hi;simp[dL,mF]at hi;split at hi<;>simp at hi
 .rw[U,h0];have p:=K.mono (E.ow z) z.len;refine⟨p.size,p.defers,λt=>?_⟩;unfold fX;cases hix:idx t with
  |none=>exact p.slot t
  |some j =>
   simp only;rw[a9]
   .exact p.slot t
   .simp[dL,mF];split<;>simp
def qj.to{e:Type}{y:ι->D}{σ':ι->List bm}{z:e->D}{d:e->List bm}(h:qj X N all o φ σ y σ')(l:∀j,∃k,y j=z k/\σ' j=d k):qj X N all o φ σ z d:=by intro s a f hh b k cs S i rest hb hi hK;refine h s a f hh b k cs S i rest hb hi λj v s' r1 r2 r3=>?_;obtain⟨q,p2,p3⟩:=l j;grind
def OA.IJ{d:Type}{y:D}{z:d->D}{e:d->List bm}(h:OA X N all o φ σ y σ')(k:d)(h1:y=z k)(h2:σ'=e k):qj X N all o φ σ z e:=by subst h1 h2;exactλs a f hh b k' cs S i rest hb hi hK=>h s a f hh b k' cs S i rest hb hi λv s' r1 r2 r3=>hK k v s' r1 r2 r3
end
section
variable {X:Cx P}
theorem qj.mT{x:ι->D}{σ':ι->List bm}(n:o.guard=af)(h:∀s e,aD σ s->(∀y,dm σ s (e y) (bO φ y))->∃(j:ι)(s':St)(v:aj),(ak e o).run P s.w=.ok (.value v) s'.w/\dm (σ' j) s' v (x j)/\aD (σ' j) s'/\Step σ s (σ' j) s'/\eB s ((ak e o).events P s.w #[])):qj X N all o φ σ x σ':=by intro s a f hh b k cs S i rest hb hi hK;refine Af hb hi (dx n) λp d=>?_;have c:=hh.rely d;obtain⟨j,s',v,h1,h2,g,l,m⟩:=h p a.eval c (c8 (f.rely d hh));exact⟨_,s',v,h1,.inl rfl,⟨⟨σ,σ' j,c,g,l⟩,m⟩,hK j v s' h2 g (d.stepW.trans (l.ow c))⟩
def qj.An{x:D}(h:OA X N all o φ σ x σ'):qj X N all o φ σ (λ_:Unit=>x) (λ_=>σ') :=
 λs a f hh b k cs S i rest hb hi hK=>h s a f hh b k cs S i rest hb hi λv s'=>hK () v s'
def OA.law{x:D}(h:bE P o (bO φ) σ x σ')(a:o.guard=af):OA X N all o φ σ x σ':=.mT (λ_ _ _ _=>dx a) h
def OA.eval{x:D}(a:dg P T)(hC:bG X CT)(h:vJ T CT ds all φ σ o=aa (x,af,obs))(ho:au obs):OA X N all o φ σ x σ:=fJ a hC h ho
def OA.dw{x:D}(a:dg P T)(hC:bG X CT)(h:vJ T CT [] all φ σ o=aa (x,af,[])):OA X N all o φ σ x σ:=fJ a hC h ar
def tg(X:Cx P)(N:Nat)(all:List aB)(φ:Fr)(σ:List bm)(x:Nat->D)(pre:Nat->Bool):List aB->Nat->Prop
 |[],_=>True
 |o::r,i=>(match pre i with|true=>OA X N all o (j8 all φ x i) σ (x i) σ|false=>True)/\tg X N all φ σ x pre r (i+1)
def th(X:Cx P)(N:Nat)(all:List aB)(φ:Fr)(σ:List bm)(x:Nat->D)(m:Nat):List aB->Nat->Prop
 |[],_=>True
 |o::r,i=>(match av i m with|true=>True|false=>OA X N all o (j8 all φ x i) σ (x i) σ)/\th X N all φ σ x m r (i+1)
theorem tg.get{x:Nat->D}{pre:Nat->Bool}:∀{l:List aB}{k:Nat},tg X N all φ σ x pre l k->∀(i:Nat)(o:aB),l[i]?=aa o->pre (k+i)=ab->OA X N all o (j8 all φ x (k+i)) σ (x (k+i)) σ
 |[],_,_,i,o,h=>by grind
 |p::r,k,h,0,o,hi=>λa=>by simp at hi;subst hi;have h1:=h.1;grind
 |p::r,k,h,i+1,o,hi=>λa=>by have:=tg.get h.2 i o (by grind) (by grind);grind
theorem th.get{x:Nat->D}{m:Nat}:∀{l:List aB}{k:Nat},th X N all φ σ x m l k->∀(i:Nat)(o:aB),l[i]?=aa o->k+i≠m->OA X N all o (j8 all φ x (k+i)) σ (x (k+i)) σ
 |[],_,_,i,o,h=>by grind
 |p::r,k,h,0,o,hi=>λa=>by simp at hi;subst hi;have h1:=h.1;simp only[ia]at a;grind[Nat.eq_of_beq_eq_true]
 |p::r,k,h,i+1,o,hi=>λa=>by have:=th.get h.2 i o (by grind) (by omega);grind
def D6(pre:Nat->Bool)(x:Nat->D)(y:ι->Nat->D)(j:ι)(i:Nat):D:=match pre i with|true=>x i|false=>y j i
def F0{m c:Nat}{pre:Nat->Bool}{x:Nat->D}{b:ι->Nat->D}{σ':ι->List bm}{S:ι->(Nat->Bool)->List bm}(t:pre m=ae)(r:Ar pre m all 0=ab)(same:∀j i,pre i=ab->b j i=x i)(one:∀i o,all[i]?=aa o->pre i=ab->OA X N all o (j8 all φ x i) σ (x i) σ)(two:∀j (D:Nat->Bool) i o,all[i]?=aa o->i≠m->i<c->D i=ae->(∀k g,all[k]?=aa g->D k=ab->∀e∈bU g.after.toList,D e=ab)->OA X N all o (j8 all φ (b j) i) (S j D) (b j i) (S j (eu i D)))(MB:∀o,all[m]?=aa o->qj X N all o (j8 all φ x m) σ (λj=>b j m) σ')(s:∀j (D:Nat->Bool),(∀i,D i=ab->pre i=ab)->σ' j=S j (eu m D)):
  ∀(a:Option ι) (D:Nat->Bool) i o,(a.isSome=D m/\(a=af->∀i,D i=ab->pre i=ab))->all[i]?=aa o->i<c->D i=ae->(∀e∈bU o.after.toList,D e=ab)->(∀j g,all[j]?=aa g->D j=ab->∀e∈bU g.after.toList,D e=ab) ->
   qj X N all o (j8 all φ (a.elim x b) i) (a.elim σ λj=>S j D) (λq:{d:Option ι // (∀j,D j=ab->d.elim x b j=a.elim x b j)/\(d.isSome=eu i D m/\(d=af->∀k,eu i D k=ab->pre k=ab))}=>q.1.elim x b i) (λq=>q.1.elim σ λj=>S j (eu i D)):=by
 intro a D i o p ho Xf Xg M5 Xh;have v:∀{k},eu i D k=ab->k=i∨D k=ab:=λ{k} l=>by unfold eu at l;grind[Nat.eq_of_beq_eq_true]
 have u:∀{k},k≠i->eu i D k=D k:=λ{k} l=>by unfold eu;grind[Nat.eq_of_beq_eq_true]
 by_cases f:i=m
 .subst f;cases a with
  |some j=>grind
  |none =>
   refine(MB o ho).to λj=>⟨⟨aa j,λk l=>same j k (p.2 rfl k l),?_,λh=>by cases h⟩,rfl,s j D (p.2 rfl)⟩
   unfold eu;grind[Nat.beq_refl]
 .cases a with
  |none =>
   have n:pre i=ab:=by grind[FZ]
   exact(one i o ho n).IJ ⟨af,λ_ _=>rfl,by grind,λ_ k l=>by grind⟩ rfl rfl
  |some j=>exact(two j D i o ho f Xf Xg Xh).IJ ⟨aa j,λ_ _=>rfl,by grind,λh=>by cases h⟩ rfl rfl
def wj{m c:Nat}{pre:Nat->Bool}{a:Option ι}{D:Nat->Bool}(d:a.isSome=D m/\(a=af->∀i,D i=ab->pre i=ab))(e:m<c)(b:∀i,i<c->D i=ab):∃j,a=aa j:=by
 cases a with
 |some j=>grind
 |none=>grind
def AK.MB(l:P.follows Departure.mixedOrders=ab)(m:Nat)(pre:Nat->Bool)(x:Nat->D)(y:ι->Nat->D)(σ':ι->List bm){id:Nat}(c:m6 ops.toList=ab)(b:tV ops.toList 0=ab)(d:pe N ops.toList=ab)(hm:Nat.blt m ops.toList.length=ab)(f:pre m=ae)(e:Ar pre m ops.toList 0=ab)(one:tg X N ops.toList φ σ x pre ops.toList 0)(two:∀j,th X N ops.toList φ (σ' j) (D6 pre x y j) m ops.toList 0)(MB:qj X N ops.toList (ops.toList.getD m jo) (j8 ops.toList φ x m) σ (λj=>D6 pre x y j m) σ')(k:∀j,AK X N Qf K .normal (Nn ops.toList φ (D6 pre x y j)) (σ' j)):AK X N Qf (.code (.region id ops ab)::K) .normal φ σ:=by
 have hm:=dM hm;have:=AW.reg (X:=X) (N:=N) (φ:=φ) (σ:=σ) l (all:=ops.toList) ops.toList.length (λa:Option ι=>a.elim x (D6 pre x y)) (λa _=>a.elim σ σ') (λa D=>a.isSome=D m/\(a=af->∀i,D i=ab->pre i=ab)) af ⟨rfl,λ_ _ h=>by cases h⟩ rfl c b d (ba _)
  (λi h1 h2=>absurd h2 (ma.2 h1)) (λa D _ _ i h1 h2=>absurd h2 (ma.2 h1))
  (F0 (S:=λj _=>σ' j) f e (λj i g=>by simp only[D6,g]) (λi o hi g=>by have:=one.get i o hi (by grind);grind) (λj D i o hi Bf _ _ _=>by have:=(two j).get i o hi (by grind);grind)
   (λo ho=>by grind) (λ_ _ _=>rfl))
  (Q:=AK X N Qf K) (λa D n p=>by obtain⟨j,rfl⟩:=wj n hm p;rw[rF];exact .nil (k j)) id
 rw[qR]at this;exact this
end
def Iu(p:Bs):aj:=.string ⟨p.toArray⟩
def Sa{a:ByteArray}{p:Bs}(h:a.data.toList=p):Value.string a=Iu p:=by subst h;simp[Iu]
theorem str_val{p:Bs}(h:Rd M v (.str p)):v=Iu p/\cZ v=ab:=by
 cases h with
 |str e _=>exact⟨Sa e,rfl⟩
section
variable {X:Cx P}{x:Nat->D}{S:(Nat->Bool)->List bm}
def pf:List aB->List (List Bool)->List (List Bool)
 |[],a=>a
 |o::r,a=>qk (FE a (bU o.after.toList)) λc=>pf r (a++[c])
 where qk:List Bool->(List Bool->List (List Bool))->List (List Bool)
 |[],q=>q []
 |true::r,q=>qk r λr=>q (ab::r)
 |false::r,q=>qk r λr=>q (ae::r)
theorem nY:∀(l:List Bool)(q:List Bool->List (List Bool)),pf.qk l q=q l
 |[],q=>rfl
 |true::r,q=>by simp only[pf.qk];rw[nY r]
 |false::r,q=>by simp only[pf.qk];rw[nY r]
def BL{all:List aB}{D:Nat->Bool}(b:∀(j:Nat)(o:aB),all[j]?=aa o->D j=ab->∀e∈bU o.after.toList,D e=ab):
  ∀(r:List aB) (a:List (List Bool)),(∀k,r[k]?=all[a.length+k]?)->(∀(j:Nat) (c:List Bool),a[j]?=aa c->∀o,all[j]?=aa o->(∀e∈bU o.after.toList,D e=ab)->∀q,bit c q=ab->D q=ab) ->
   ∀(j:Nat) (c:List Bool),(pf r a)[j]?=aa c->∀o,all[j]?=aa o->(∀e∈bU o.after.toList,D e=ab)->∀q,bit c q=ab->D q=ab
 |[],a,_,h=>h
 |o::r,a,d,h=>by
  simp only[pf];rw[nY];refine BL b r _ (λk=>?_) ?_
  .have:=d (k+1);grind
  .intro j c f;have g:=d 0;simp only[ju,ia]at g;rcases Nat.lt_trichotomy j a.length with i|rfl|l
   .grind
   .rw[fA (ba _)]at f;grind[zZ]
   grind
def fT(all:List aB)(i j:Nat):Bool:=match(pf all [])[i]? with|some c=>bit c j|none=>ae
def vV{D:Nat->Bool}(a:∀(j:Nat)(o:aB),all[j]?=aa o->D j=ab->∀e∈bU o.after.toList,D e=ab):∀(i:Nat) o,all[i]?=aa o->(∀e∈bU o.after.toList,D e=ab)->∀j,fT all i j=ab->D j=ab:=by
 intro i o ho hp j b;unfold fT at b;split at b
 .rename_i c d;exact BL a all [] (by simp) (by simp) i c d o ho hp j b
 grind
def FL{D:Nat->Bool}(c:∀(j:Nat)(o:aB),all[j]?=aa o->D j=ab->∀e∈bU o.after.toList,D e=ab)(g:D i=ae):∀j,(j=i∨fT all j i=ab)->D j=ae:=by
 intro j f;rcases f with rfl|f
 .exact g
 .cases h:D j with
  |false=>rfl
  |true =>
   have a:∃d,all[j]?=aa d:=by
    cases a:all[j]? with
    |some d=>grind
    |none =>
     exfalso;have k:(pf all []).length=all.length:=by
      have:∀(r:List aB) (b:List (List Bool)),(pf r b).length=b.length+r.length:=by
       intro r;induction r with
       |nil=>intro b;simp[pf]
       |cons o r l=>intro b;simp only[pf];grind[nY]
      grind
     unfold fT at f;grind
   obtain⟨d,a⟩:=a;have:=vV c j d a (c j d a h) i f;grind
def eG(X:Cx P)(N:Nat)(all:List aB)(φ:Fr)(x:Nat->D)(S:(Nat->Bool)->List bm)(i:Nat)(o:aB):Prop :=
 ∀D:Nat->Bool,(∀j,fT all i j=ab->D j=ab)->(∀j,(j=i∨fT all j i=ab)->D j=ae)->OA X N all o (j8 all φ x i) (S D) (x i) (S (eu i D))
def Jc{P:aO}(X:Cx P)(N:Nat)(all:List aB)(φ:Fr)(x:Nat->D)(S:(Nat->Bool)->List bm):List aB->Nat->Prop
 |[],_=>True
 |o::r,i=>eG X N all φ x S i o/\Jc X N all φ x S r (i+1)
theorem Jc.get{all:List aB}:∀{l:List aB}{k:Nat},Jc X N all φ x S l k->∀i o,l[i]?=aa o->eG X N all φ x S (k+i) o
 |[],_,_,i,o,h=>by grind
 |p::r,k,h,0,o,ho=>by simp at ho;subst ho;exact h.1
 |p::r,k,h,i+1,o,ho=>by have:=Jc.get h.2 i o (by grind);grind
def AK.flags{id:Nat}(j:P.follows Departure.mixedOrders=ab)(x:Nat->D)(S:(Nat->Bool)->List bm)(h:S (λ_=>ae)=σ)(b:m6 ops.toList=ab)(a:tV ops.toList 0=ab)(c:pe N ops.toList=ab)(one:Jc X N ops.toList φ x S ops.toList 0)(k:∀D,(∀i,i<ops.toList.length->D i=ab)->AK X N Qf K .normal (Nn ops.toList φ x) (S D)):AK X N Qf (.code (.region id ops ab)::K) .normal φ σ:=by
 have:=AW.reg (X:=X) (N:=N) (φ:=φ) (σ:=σ) j (all:=ops.toList) ops.toList.length (λ_:Unit=>x) (λ_=>S) (λ_ _=>True) () ar h b a c (ba _)
  (λi h1 h2=>absurd h2 (ma.2 h1)) (λg D _ _ i h1 h2=>absurd h2 (ma.2 h1))
  (λg D i o _ ho _ f e d=>by have h1:=one.get i o ho;rw[bA]at h1;exact(h1 D (vV d i o ho e) (FL d f)).IJ ⟨(),λ_ _=>rfl,ar⟩ rfl rfl)
  (Q:=AK X N Qf K) (λg D _ l=>by rw[rF];exact .nil (k D l)) id
 rw[qR]at this;exact this
end
section
variable {X:Cx P}{x:Nat->D}{k:Bool->Bool->Bool->List bm}{g b f:Nat}
abbrev vU(k:Bool->Bool->Bool->List bm)(g b f:Nat):(Nat->Bool)->List bm:=λD=>k (D g) (D b) (D f)
def k9{D:Nat->Bool}(h:av j i=ae):eu i D j=D j:=by simp only[eu,h]
def Ac{D:Nat->Bool}:eu i D i=ab:=by simp only[eu,jB]
def eG.q3(h1:av g i=ae)(h2:av b i=ae)(e:av f i=ae)(h:∀a c d,OA X N all o (j8 all φ x i) (k a c d) (x i) (k a c d)):eG X N all φ x (vU k g b f) i o:=by intro D _ _;show OA X N all o _ (k (D g) (D b) (D f)) _ (k (eu i D g) (eu i D b) (eu i D f));rw[k9 h1,k9 h2,k9 e];exact h _ _ _
def eG.Yw(e:dg P T)(hC:bG X CT)(ho:au obs)(h:∀a c d,vJ T CT [] all (j8 all φ x i) (k a c d) o=aa (x i,af,obs):=by intro a c d;cases a<;>cases c<;>cases d<;>rfl)(h1:av g i=ae:=by rfl)(h2:av b i=ae:=by rfl)(j:av f i=ae:=by rfl):eG X N all φ x (vU k g b f) i o:=.q3 h1 h2 j λa c d=>OA.eval e hC (h a c d) ho
def eG.QN(e:dg P T)(hC:bG X CT)(h:∀a c d,vJ T CT [] all (j8 all φ x i) (k a c d) o=aa (x i,af,[]):=by intro a c d;cases a<;>cases c<;>cases d<;>rfl)(h1:av g i=ae:=by rfl)(h2:av b i=ae:=by rfl)(j:av f i=ae:=by rfl):eG X N all φ x (vU k g b f) i o:=.Yw (obs:=[]) e hC ar h h1 h2 j
def eG.e1(hi:av g i=ab)(h1:av g i=ab)(h2:av b i=ae)(j:av f i=ae)(h:∀c d,OA X N all o (j8 all φ x i) (k ae c d) (x i) (k ab c d)):eG X N all φ x (vU k g b f) i o:=by intro D _ a;have e:=b7 hi;subst e;show OA X N all o _ (k (D g) (D b) (D f)) _ (k (eu g D g) (eu g D b) (eu g D f));rw[Ac,k9 h2,k9 j,a g (.inl rfl)];exact h _ _
def eG.e2(hi:av b i=ab)(h1:av g i=ae)(j:av f i=ae)(hb:fT all f i=ab)(d:av b i=ab)(h:∀a,OA X N all o (j8 all φ x i) (k a ae ae) (x i) (k a ab ae)):eG X N all φ x (vU k g b f) i o:=by intro D _ c;have e:=b7 hi;subst e;show OA X N all o _ (k (D g) (D b) (D f)) _ (k (eu b D g) (eu b D b) (eu b D f));rw[Ac,k9 h1,k9 j,c b (.inl rfl),c f (.inr hb)];exact h _
def eG.e3(hi:av f i=ab)(h1:av g i=ae)(h2:av b i=ae)(hb:fT all i b=ab)(d:av f i=ab)(h:∀a,OA X N all o (j8 all φ x i) (k a ab ae) (x i) (k a ab ab)):eG X N all φ x (vU k g b f) i o:=by intro D j c;have e:=b7 hi;subst e;show OA X N all o _ (k (D g) (D b) (D f)) _ (k (eu f D g) (eu f D b) (eu f D f));rw[Ac,k9 h1,k9 h2,c f (.inl rfl),j b hb];exact h _
end
def oN(f:aj)(l:List Int):aj->(Nat->Option Obj)->Prop:=λv a=>v=f/\∃r es c,f=.map (aa r)/\(∀b,a b=if b=r then aa (.map es c)else af)/\MapKept.Stamped es c /\
 (∀e∈es.toList,∃n,e.key=.int .i64 n/\e.val=.bool ab/\bx .i64 n)/\∀n,n∈l↔∃e∈es.toList,e.key=.int .i64 n
structure UX(σ:List bm)(s:St)(b:Nat)(f:aj)(l:List Int)(L:Loc)(r:Nat)(es:Array MapEntry)(c:Nat):Prop where
 at':s.β[b]?=aa L
 v:L.v=f
 m:f=.map (aa r)
 st:MapKept.Stamped es c
 kv:∀e∈es.toList,∃n,e.key=.int .i64 n/\e.val=.bool ab/\bx .i64 n
 mem:∀n,n∈l↔∃e∈es.toList,e.key=.int .i64 n
 heap:s.w.heap[r]?=aa (.map es c)
 bs:∀b,b∈L.bs↔b=r
def oN.open{f:aj}{l:List Int}(hh:aD σ s)(hl:σ[b]?=aa (.cq (oN f l))):∃L r es c,UX σ s b f l L r es c:=by
 have hb:b<s.β.length:=by rw[hh.len];grind
 obtain⟨ch,⟨h1,r,es,c,h2,i,d,e,a⟩,g,h,_⟩:=hh.box b _ _ hl (bg hb);exact⟨_,r,es,c,bg hb,h1,h2,d,e,a,g r _ (by grind),λb=>by grind⟩
section
variable {T p q:aw}{z:aC}{f:aj}{l:List Int}{n:Int}
def UY{es:Array MapEntry}(h:∀e∈es.toList,∃n,e.key=.int .i64 n/\e.val=.bool ab/\bx .i64 n):∀e∈es.toList,MapKept.IsKey (.int .i64) e.key:=λe b=>by obtain⟨n,a,_⟩:=h e b;rw[a];rfl
def SI{f:aj}{d:D}(h:dm σ s v d)(e:d=.e (.one (.v f))):v=f:=by subst e;exact Rd.fu h
def Vy{n:Int}{d:D}(h:dm σ s v d)(e:d=.e (.one (.c (.int .i64 n)))):v=.int .i64 n/\bx .i64 n:=by subst e;have:=fI h;generalize v=w at this;cases this;exact⟨rfl,by assumption⟩
def bE.Oq(h:o.op=.lookup T x y ae)(C:P.underlying T=aa (.map p q))(A:P.underlying p=aa (.int .i64))(E:∀w,(zeroValue q).run P w=.ok (.bool ae) w)(hl:σ[b]?=aa (.cq (oN f l)))(G:η x=.e (.one (.v f)))(J:η y=.e (.one (.c (.int .i64 n)))):bE P o η σ (.e (.one (.c (.bool (l.contains n))))) σ:=by
 refine bE.nP λs I hh hr=>?_;obtain⟨L,r,es,c,g⟩:=oN.open hh hl;have ex:I x=.map (aa r):=(SI (hr x) G).trans g.m;obtain⟨B,K⟩:=Vy (hr y) J;obtain⟨a,u⟩:=yy (d:=.int .i64) (k:=.int .i64 n) rfl (UY g.kv);have F:oG s ⟨.obj r,ae,ae⟩:=gH (bL g.at') ((g.bs r).2 rfl);have key:∃v:Bool,(Instr.lookup T (.map (aa r)) (.int .i64 n) ae).run P s.w=.ok (.bool v) s.w/\(Instr.lookup T (.map (aa r)) (.int .i64 n) ae).events P s.w #[]=#[⟨.obj r,ae,ae⟩]/\v=l.contains n:=by
  cases a with
  |none =>
   obtain⟨i,t⟩:=tY (ok:=ae) C A g.heap u (λ_=>E s.w)
   exact⟨ae,i,t,by
    symm;rw[<-l8,zu,g.mem]
    rintro⟨e,H,A⟩;exact u.no rfl e H A⟩
  |some jv =>
   obtain⟨j,v⟩:=jv;obtain⟨i,t⟩:=tY (ok:=ae) (z:=ah) C A g.heap u (λh=>by cases h);obtain⟨e,h1,h2,M⟩:=u.yes j v rfl;have hm:e∈es.toList:=by grind
   obtain⟨_,_,N,_⟩:=g.kv e hm;exact⟨ab,i.trans (show Result.ok v s.w=_ by grind),t,by symm;rw[zu,g.mem];grind⟩
 obtain⟨v,i,t,D⟩:=key;refine⟨.bool v,?_,by rw[<-D];exact Rd.bool,?_⟩
 .simp only[ak,h,ex,B,bT,i,cm,cV]
 .simp only[ak,h,ex,B,aP,i,t,aU,Sem.events_pure];exact .one F
def bE.R2(h:o.op=.mapUpdate T x y z)(E:P.underlying T=aa (.map p q))(F:P.underlying p=aa (.int .i64))(hl:σ[b]?=aa (.cq (oN f l)))(M:η x=.e (.one (.v f)))(V:η y=.e (.one (.c (.int .i64 n))))(Q:η z=.e (.one (.c (.bool ab)))):bE P o η σ .any (σ.set b (.cq (oN f (l++[n])))):=by
 intro s D hh hr;obtain⟨L,r,es,c,g⟩:=oN.open hh hl;have ex:D x=.map (aa r):=(SI (hr x) M).trans g.m;obtain⟨I,Y⟩:=Vy (hr y) V;have G:D z=.bool ab:=by have:=hr z;rw[Q]at this;have:=fI this;generalize D z=w at this;cases this;rfl
 obtain⟨a,B⟩:=yy (d:=.int .i64) (k:=.int .i64 n) rfl (UY g.kv);have J:∀w,oG s ⟨.obj r,w,ae⟩:=λw=>gH (bL g.at') ((g.bs r).2 rfl);have R:r<s.w.heap.size:=(fb.1 g.heap).1;have key:∃es' c',(Instr.mapUpdate T (.map (aa r)) (.int .i64 n) (.bool ab)).run P s.w=.ok () {s.w with heap:=s.w.heap.setIfInBounds r (.map es' c')}/\(Instr.mapUpdate T (.map (aa r)) (.int .i64 n) (.bool ab)).events P s.w #[]=#[⟨.obj r,ae,ae⟩,⟨.obj r,ab,ae⟩] /\
   MapKept.Stamped es' c'/\(∀e∈es'.toList,∃n,e.key=.int .i64 n/\e.val=.bool ab/\bx .i64 n)/\∀m,m∈l++[n]↔∃e∈es'.toList,e.key=.int .i64 m:=by
  cases a with
  |none =>
   obtain⟨t,u⟩:=tZ (x:=.bool ab) E F g.heap B;refine⟨_,_,t,u,MapKept.stamped_push g.st (B.no rfl),λe A=>?_,λm=>?_⟩
   .rw[Array.toList_push,eJ]at A;rcases A with A|A
    .exact g.kv e A
    grind
   .rw[eJ,g.mem,Array.toList_push];constructor
    .rintro(⟨e,h1,h2⟩|h1)
     .grind
     .simp at h1;subst h1;exact⟨_,List.mem_append_right _ (gN.2 rfl),rfl⟩
    grind
  |some jv =>
   obtain⟨j,v⟩:=jv;obtain⟨e,h1,h2,W⟩:=B.yes j v rfl;have hm:e∈es.toList:=by grind
   obtain⟨_,_,K,_⟩:=g.kv e hm;have N:es.modify j (λe=>{key:=.int .i64 n,val:=.bool ab,born:=e.born})=es:=by
    apply Array.ext_getElem?;intro i;rw[zw];split
    .rename_i hi;subst hi;rw[h1,<-h2,<-K];rfl
    .rfl
   obtain⟨t,u⟩:=tZ (x:=.bool ab) E F g.heap B;refine⟨es,c,t.trans (show Result.ok () {s.w with heap:=s.w.heap.setIfInBounds r (.map (es.modify j λe=>{key:=.int .i64 n,val:=.bool ab,born:=e.born}) c)}=_ by grind),u,g.st,g.kv,λm=>?_⟩;rw[eJ,g.mem];constructor
   .rintro(H|H)
    .exact H
    grind
   grind
 obtain⟨es',c',t,u,O,U,S⟩:=key;have C:=hh.iJ (H':=oN f (l++[n])) (L':=L) (w':={s.w with heap:=s.w.heap.setIfInBounds r (.map es' c')}) hl g.at' rfl (by simp) (λb _ hb=>by show(s.w.heap.setIfInBounds r _)[b]?=_;rw[nE (by rintro rfl;exact hb ((g.bs r).2 rfl))]) (λb hb=>.inl hb)
  ⟨λb=>if b=r then aa (.map es' c')else af,⟨g.v,r,es',c',g.m,λ_=>rfl,O,U,S⟩,λb Z hb=>by grind,λb=>by rw[g.bs];by_cases e:b=r<;>simp[e]⟩ rfl rfl rfl
 have e1:s.β.set b L=s.β:=by
  apply gQ;intro i;by_cases e:b=i
  .subst e;rw[fO (b8.1 g.at').1,g.at']
  grind
 rw[e1]at C;refine⟨.skip,_,?_,rfl,C.1,C.2,?_⟩
 .simp only[ak,h,ex,I,G,bT,t,cm,cV]
 .simp only[ak,h,ex,I,G,aP,t,u,aU,Sem.events_pure];exact .two (J _) (J _)
end
section
variable {X:Cx P}{T:aw}
def AK.KX(h:o.op=.makeMap T af)(r:o.guard=af)(d:fE N o.dst=ab)(k:∀f,AK X N Qf (.ops all rest::K) .normal (kp o.dst (.e (.one (.v f))) φ) (σ++[.cq (oN f [])])):AK X N Qf (.ops all (o::rest)::K) .normal φ σ:=by
 refine AK.hand (ι:=aj) (λf=>.e (.one (.v f))) (λf=>σ++[.cq (oN f [])]) r d (λs a t hh=>?_) k;let w':aA:={s.w with heap:=s.w.heap.push (.map #[] 0)}
 have c:w'.heap[s.w.heap.size]?=aa (.map #[] 0):=by grind
 have i:w'.heap.size=s.w.heap.size+1:=by grind
 obtain⟨j,g2⟩:=hh.grow (M':=s.M) (w':=w') (by grind) (λb hb=>by grind) (λ_ _ _=>rfl) (λb hb o v hm=>by have:=hh.block hm;omega) rfl rfl rfl;obtain⟨g,m⟩:=j.gz g2 rfl hh (B:=.cq (oN (.map (aa s.w.heap.size)) [])) (L:=⟨.map (aa s.w.heap.size),[s.w.heap.size]⟩)
  ⟨λb=>if b=s.w.heap.size then aa (.map #[] 0)else af,⟨rfl,_,#[],0,rfl,λ_=>rfl,MapKept.stamped_empty 0,λe u=>by grind,λn=>by simp⟩,λb o hb=>by
   grind,λb=>by by_cases e:b=s.w.heap.size<;>simp[e],λb hb o=>by
   simp at hb;subst hb;show s.M _ _=af;cases hm:s.M s.w.heap.size o with
   |none=>rfl
   |some v=>have:=hh.block hm;omega⟩ (λb hb=>by grind)
 refine⟨.map (aa s.w.heap.size),.value (.map (aa s.w.heap.size)),_,.map (aa s.w.heap.size),?_,.inl rfl,Rd.val rfl,g,m,?_⟩
 .simp[ak,h,Instr.makeMap,run_newObj,w']
 .simp[ak,h,Instr.makeMap];exact .nil
end
def NB(p:Nat->Bool):List Nat->Bool
 |[]=>ae
 |e::r=>match p e with|true=>ab|false=>NB p r
def F1{p:Nat->Bool}:∀{l:List Nat},NB p l=ab->∃e∈l,p e=ab
 |[],h=>by cases h
 |e::r,h=>by
  simp only[NB]at h;split at h
  .grind
  .obtain⟨a,b,c⟩:=F1 h;grind
def wm(all:List aB)(k:Nat):Nat->List Nat->Bool
 |0,l=>g9 k l
 |f+1,l=>match g9 k l with|true=>ab|false=>NB (λe=>wm all k f (bU (all.getD e jo).after.toList)) l
def tj{all:List aB}{k:Nat}{L:Nat->Prop}(b:∀i,i<all.length->L i->∀e∈bU (all.getD i jo).after.toList,L e):∀{f:Nat}{l:List Nat},wm all k f l=ab->(∀e∈l,L e)->L k
 |0,l,h,c=>c k (IY h)
 |f+1,l,h,c=>by
  simp only[wm]at h;split at h
  .grind [IY]
  .obtain⟨e,j,a⟩:=F1 h;rcases cG e all.length with g|g
   .exact tj b a (b e g (c e j))
   .have:all.getD e jo=jo:=by grind
    rw[this]at a;exact tj b a (λm d=>by simp[jo,bU]at d)
def wo(all:List aB)(f:Nat)(l:List Nat):Nat->Bool
 |0=>ab
 |n+1=>match wm all n f l with|true=>wo all f l n|false=>ae
def yC{all:List aB}{f:Nat}{l:List Nat}:∀{n:Nat},wo all f l n=ab->∀k,k<n->wm all k f l=ab
 |0,_,k,a=>by omega
 |n+1,h,k,a=>by
  simp only[wo]at h;split at h
  .rename_i b;by_cases e:k=n
   .grind
   .exact yC h k (by omega)
  grind
def Au(all:List aB)(f:Nat):Nat->Nat->Bool
 |_,0=>ab
 |i,r+1=>match wo all f (bU (all.getD i jo).after.toList) i with|true=>Au all f (i+1) r|false=>ae
def yD{all:List aB}{f:Nat}:∀{i r:Nat},Au all f i r=ab->∀q,i<=q->q<i+r->wo all f (bU (all.getD q jo).after.toList) q=ab
 |i,0,_,q,a,b=>by omega
 |i,r+1,h,q,a,b=>by
  simp only[Au]at h;split at h
  .rename_i c;by_cases e:q=i
   .grind
   .exact yD h q (by omega) (by omega)
  grind
section
variable {X:Cx P}
def Ha(c:Nat)(pre:Nat->Bool)(x:Nat->D)(y:ι->Nat->D)(j:ι)(i:Nat):D:=match Nat.blt i c with|true=>D6 pre x y j i|false=>.any
def AK.Q6(v:P.follows Departure.mixedOrders=ab)(m c g:Nat)(pre:Nat->Bool)(x:Nat->D)(y:ι->Nat->D)(σ':ι->List bm){id:Nat}(d:m6 ops.toList=ab)(b:tV ops.toList 0=ab)(e:pe N ops.toList=ab)(s:pre m=ae)(n:Ar pre m ops.toList 0=ab)(t:Nat.blt c ops.toList.length=ab)(hm:Nat.blt m c=ab)(f:∀i,pre i=ab->i<c)(SU:Au ops.toList g c (ops.toList.length-c)=ab)(one:tg X N ops.toList φ σ x pre ops.toList 0)(two:∀j,th X N ops.toList φ (σ' j) (Ha c pre x y j) m (ops.toList.take c) 0)(MB:qj X N ops.toList (ops.toList.getD m jo) (j8 ops.toList φ x m) σ (λj=>Ha c pre x y j m) σ')(k:∀j,AK X N Qf (.ops ops.toList (ops.toList.drop c)::K) .normal (Nn ops.toList φ (Ha c pre x y j)) (σ' j)):AK X N Qf (.code (.region id ops ab)::K) .normal φ σ:=by
 have t:=dM t;have hm:=dM hm;have:=AW.reg (X:=X) (N:=N) (φ:=φ) (σ:=σ) v (all:=ops.toList) c (λa:Option ι=>a.elim x (Ha c pre x y)) (λa _=>a.elim σ σ') (λa D=>a.isSome=D m/\(a=af->∀i,D i=ab->pre i=ab)) af ⟨rfl,λ_ _ h=>by cases h⟩ rfl d b e (by omega)
  (λi h1 h2 L u l k w=>tj u (yC (yD SU i h1 (by omega)) k w) l)
  (λa D p r i h1 h2=>by
   obtain⟨j,rfl⟩:=wj p hm r;have:Nat.blt i c=ae:=by
    cases hb:Nat.blt i c with
    |false=>rfl
    |true=>have:=dM hb;omega
   simp only[Option.elim,Ha,this])
  (F0 (S:=λj _=>σ' j) s n (λj i l=>by have:Nat.blt i c=ab:=rA (f i l);simp only[Ha,this,D6,l])
   (λi o hi l=>by have:=one.get i o hi (by grind);grind)
   (λj D i o hi Bf sS _ _=>by
    have q:(ops.toList.take c)[i]?=aa o:=by grind
    have:=(two j).get i o q (by grind);grind)
   (λo ho=>by grind) (λ_ _ _=>rfl))
  (Q:=AK X N Qf K) (λa D p r=>by obtain⟨j,rfl⟩:=wj p hm r;exact k j) id
 rw[qR]at this;exact this
end
section
variable {X:Cx P}{x:Nat->D}{l:Bool->Bool->Bool->Bool->List bm}{g e f k:Nat}
abbrev r7(l:Bool->Bool->Bool->Bool->List bm)(g e f k:Nat):(Nat->Bool)->List bm:=λD=>l (D g) (D e) (D f) (D k)
theorem ra{D:Nat->Bool}(h:av j i=ae):eu i D j=D j:=by simp only[eu,h]
theorem BK{D:Nat->Bool}:eu i D i=ab:=by simp only[eu,jB]
def eG.q4(h1:av g i=ae)(h2:av e i=ae)(m:av f i=ae)(j:av k i=ae)(h:∀a b c d,OA X N all o (j8 all φ x i) (l a b c d) (x i) (l a b c d)):eG X N all φ x (r7 l g e f k) i o:=by intro D _ _;grind[ra]
def eG.VF(j:dg P T)(hC:bG X CT)(ho:au obs)(h:∀a b c d,vJ T CT [] all (j8 all φ x i) (l a b c d) o=aa (x i,af,obs):=by intro a b c d;cases a<;>cases b<;>cases c<;>cases d<;>rfl)(h1:av g i=ae:=by rfl)(h2:av e i=ae:=by rfl)(n:av f i=ae:=by rfl)(m:av k i=ae:=by rfl):eG X N all φ x (r7 l g e f k) i o:=.q4 h1 h2 n m λa b c d=>OA.eval j hC (h a b c d) ho
def eG.TC(j:dg P T)(hC:bG X CT)(h:∀a b c d,vJ T CT [] all (j8 all φ x i) (l a b c d) o=aa (x i,af,[]):=by intro a b c d;cases a<;>cases b<;>cases c<;>cases d<;>rfl)(h1:av g i=ae:=by rfl)(h2:av e i=ae:=by rfl)(n:av f i=ae:=by rfl)(m:av k i=ae:=by rfl):eG X N all φ x (r7 l g e f k) i o:=.VF (obs:=[]) j hC ar h h1 h2 n m
def eG.c1(h2:av e g=ae)(c:av f g=ae)(d:av k g=ae)(m:fT all e g=ab)(b:fT all f g=ab)(i:fT all k g=ab)(h:OA X N all o (j8 all φ x g) (l ae ae ae ae) (x g) (l ab ae ae ae)):eG X N all φ x (r7 l g e f k) g o:=by intro D j a;grind[BK,ra]
def eG.c2(h1:av g e=ae)(c:av f e=ae)(j:av k e=ae)(d:fT all e g=ab)(b:fT all f e=ab)(i:fT all k e=ab)(h:OA X N all o (j8 all φ x e) (l ab ae ae ae) (x e) (l ab ab ae ae)):eG X N all φ x (r7 l g e f k) e o:=by intro D m a;grind[BK,ra]
def eG.c3(h1:av g f=ae)(h2:av e f=ae)(d:av k f=ae)(b:fT all f g=ab)(j:fT all f e=ab)(c:fT all k f=ab)(h:OA X N all o (j8 all φ x f) (l ab ab ae ae) (x f) (l ab ab ab ae)):eG X N all φ x (r7 l g e f k) f o:=by intro D i a;grind[BK,ra]
def eG.c4(h1:av g k=ae)(h2:av e k=ae)(c:av f k=ae)(d:fT all k g=ab)(j:fT all k e=ab)(b:fT all k f=ab)(h:OA X N all o (j8 all φ x k) (l ab ab ab ae) (x k) (l ab ab ab ab)):eG X N all φ x (r7 l g e f k) k o:=by intro D i a;grind[BK,ra]
end
section
variable {T:List (Nat×TI)}
def bE.NI(K:dg P T){w:aC}(h:o.op=.slice t x (aa w) (aa y) af){F ie:TI}(D:bH T t=aa F)(Y:F.desc=.slice E)(Q:bH T E=aa ie){g q:Nat}{r p:IntKind}{i j:Int}(R:η x=.e (.one (.bp l (.sl g k q n))))(S:ie.size=k){W k':Nat}(hl:σ[l]?=aa (.buf W k' g es))(X:η w=.e (.one (.c (.int r i))))(hy:η y=.e (.one (.c (.int p j))))(h0:0<=i)(h1:i<=j)(h2:q+j<=g):bE P o η σ (.e (.one (.bp l (.sl g k (q+i.toNat) (j.toNat-i.toNat))))) σ:=by
 subst S;refine .quiet λst ρ hh hr=>?_;have s:=hr x;rw[R]at s;have C:=s;change gb σ st (ρ x) (.bp l _)at C;obtain⟨lv,⟨a,a0,cap,N,J,To,Z,I,v,H⟩,G,A⟩:=C;have O:g<=N:=by
  obtain⟨L,U,B⟩:=(A _ _ _ _ hl).2 rfl;rcases hh.box l _ L hl U with⟨rfl,rfl⟩|⟨b,c1,vs,zs,rfl,_,_,V,_⟩
  .exact iT _
  .rw[v]at B;cases B;exact V
 have m:=hr w;rw[X]at m;replace m:=fI m;generalize u:ρ w=vw at m;cases m;have f:=hr y;rw[hy]at f;replace f:=fI f;generalize z:ρ y=vy at f;cases f;have d:=(K t F D).run_underlying (w:=st.w);rw[Y]at d;have hb:(bh ab n cap (aa (.int r i)) (aa (.int p j)) af).run P st.w=.ok (i.toNat,j.toNat,cap) st.w:=by simp[bh,run_sliceBound (P:=P) st.w p j cap _ (by omega) (by omega),run_sliceBound (P:=P) st.w r i j.toNat _ (by omega) (by omega)]
 have he:(bh ab n cap (aa (.int r i)) (aa (.int p j)) af).events P st.w #[]=#[]:=by
  simp[bh,run_sliceBound (P:=P) st.w p j cap _ (by omega) (by omega),run_sliceBound (P:=P) st.w r i j.toNat _ (by omega) (by omega),
   dX (P:=P) st.w p j cap _ (by omega) (by omega),dX (P:=P) st.w r i j.toNat _ (by omega) (by omega)]
 refine⟨.slice (if cap=i.toNat then a else a.map (·.add (i.toNat*ie.size))) (j.toNat-i.toNat) (cap-i.toNat),?_,⟨lv,⟨_,a0,_,N,rfl,by omega,by omega,I,v,λM=>?_⟩,G,A⟩,by simp[ak,h,J,u,z,Instr.sliceAt,d,Instr.slice,hb,he]⟩
 .simp[ak,h,J,u,z,Instr.sliceAt,d,Instr.slice,hb,(K E ie Q).run_sizeOf]
 .obtain⟨b,rfl,rfl⟩:=H (by omega);refine⟨b,rfl,?_⟩;rw[a9 (by omega)];simp[dr,gT]
end
section
open Go.ChangeMaps (setBlock)
section
def Ea(w:aA)(ty:aw)(r b a d:Nat)(seen:Array Nat)(es:Array MapEntry)(clock:Nat)(p:w.heap[r]?=aa (.mapIter (aa b) a seen d))(s:w.heap[b]?=aa (.map es clock))(i:∀x∈es.toList,x.born<a)(m:a<=d):
    ∀e∈(Instr.next (.pointer (aa ⟨r,0,af⟩)) ae ty).events P w #[],e.sync=ae/\(e.loc=.obj r∨e.loc=.obj b):=by
  have B:(getObj r).run P w=.ok (.mapIter (aa b) a seen d) w:=by simp only[getObj,Sem.run,p]
  have C:(getObj b).run P w=.ok (.map es clock) w:=by simp only[getObj,Sem.run,s]
  have u:∀es,(getObj r).events P w es=es.push ⟨.obj r,ae,ae⟩:=λes=>by simp only[getObj,Sem.events,Sem.runT,p];rfl
  have v:∀es,(getObj b).events P w es=es.push ⟨.obj b,ae,ae⟩:=λes=>by simp only[getObj,Sem.events,Sem.runT,s];rfl
  have A:∀(w1:aA) (sn:Array Nat) (evs:Array Event),w1.heap[r]?=aa (.mapIter (aa b) a seen d)->(setObj r (.mapIter (aa b) a sn clock)).events P w1 evs=evs.push ⟨.obj r,ab,ae⟩:=λw1 sn evs h=>by simp only[setObj,Sem.events,Sem.runT,h];rfl
  have t:∀(w1:aA) (o:Obj),w1.heap[r]?=aa (.mapIter (aa b) a seen d)->∃w2,(setObj r o).run P w1=.ok () w2:=λw1 o h=>⟨{w1 with heap:=w1.heap.setIfInBounds r o},by simp only[setObj,Sem.run,h]⟩
  simp only[Instr.next,aP,B,C,u,v,aU,next_test_false seen es a d i m,gO,bS];generalize D:((if(Array.filter (λx=>decide (x.born<a)) (Array.filter (λe=>!seen.contains e.born) es)).isEmpty=ab then #[af]else #[])++Array.map aa (Array.filter (λx=>decide (x.born<a)) (Array.filter (λe=>!seen.contains e.born) es)++Array.filter (λx=>decide (x.born≥a)) (Array.filter (λe=>!seen.contains e.born) es)))=L;have y:∃j w1,(w1=w∨w1=w.drew)/\(choose (Question.mapNext L.size)).run P w=.ok j w1/\∀es,(choose (Question.mapNext L.size)).events P w es=es:=by
    by_cases k:L.size<=1
    · exact⟨0,w,Or.inl rfl,by simp[choose,Sem.run,Question.forced,k],λes=>by simp[choose,Sem.events,Sem.runT,Question.forced,k]⟩
    · exact⟨_,w.drew,Or.inr rfl,by
        simp only[choose,Sem.run,Question.forced,bq,k,bS,Question.cut];rfl,λes=>by simp only[choose,Sem.events,Sem.runT,Question.forced,bq,k,bS,Question.cut]⟩
  obtain⟨j,w1,l,f,n⟩:=y;have g:w1.heap[r]?=aa (.mapIter (aa b) a seen d):=by rcases l with rfl|rfl<;>exact p
  simp only[f,n,aU];intro e c;have fin:e∈(#[⟨.obj r,ae,ae⟩,⟨.obj b,ae,ae⟩,⟨.obj r,ab,ae⟩]:Array Event):=by
    cases q:L[j]? with
    | none=>rw[q]at c;simp[stuck,Sem.events,Sem.runT]at c;rcases c with h|h<;>simp[h]
    | some o =>
      rw[q]at c;cases o with
      | none=>simp at c;rcases c with h|h<;>simp[h]
      | some x =>
        obtain⟨w2,z⟩:=t w1 (.mapIter (aa b) a (seen.push x.born) clock) g;simp[A w1 _ _ g]at c;rcases c with h|h|h<;>simp[h]
  simp at fin;rcases fin with rfl|rfl|rfl<;>simp
def B5(w:aA)(r b a:Nat)(seen:Array Nat)(es:Array MapEntry)(clock:Nat)(e:MapEntry)(d:w.heap[r]?=aa (.mapIter (aa b) a (seen.push e.born) clock))(c:w.heap[b]?=aa (.map es clock))(k:e∈es.toList)(l:(es.toList.map (·.born)).Nodup):
    (Instr.entry (.pointer (aa ⟨r,0,af⟩))).events P w #[]=#[⟨.obj r,ae,ae⟩,⟨.obj b,ae,ae⟩]:=by
  have h:es.find? (·.born==e.born)=aa e:=by rw[<-Array.find?_toList];grind[find_born]
  have i:(getObj r).run P w=.ok (.mapIter (aa b) a (seen.push e.born) clock) w:=by simp only[getObj,Sem.run,d]
  have f:(getObj b).run P w=.ok (.map es clock) w:=by simp only[getObj,Sem.run,c]
  have g:∀es,(getObj r).events P w es=es.push ⟨.obj r,ae,ae⟩:=λes=>by simp only[getObj,Sem.events,Sem.runT,d];rfl
  have j:∀es,(getObj b).events P w es=es.push ⟨.obj b,ae,ae⟩:=λes=>by simp only[getObj,Sem.events,Sem.runT,c];rfl
  simp only[Instr.entry,aP,i,f,g,j,aU,Array.back?_push,mG,gO,bS,h];rfl
def F3(r c:Nat)(sn:Array Nat):aj->(Nat->Option Obj)->Prop:=λv d=>∃a:Nat,v=.pointer (aa ⟨a,0,af⟩)/\d=λb=>if b=a then aa (.mapIter (aa r) c sn c)else af
def JM(H:aj->(Nat->Option Obj)->Prop)(r:Nat)(es:Array MapEntry)(c:Nat):Prop:=∀v a,H v a->a r=aa (.map es c)
variable {X:Cx P}
def aD.has(hh:aD σ s)(a:σ[l]?=aa (.cq H)){r:Nat}{es:Array MapEntry}{c:Nat}(b:JM H r es c):s.w.heap[r]?=aa (.map es c)/\∃L∈s.β,r∈L.bs:=by
  have hl:l<s.β.length:=by rw[hh.len];grind
  obtain⟨ch,h1,h2,d,e⟩:=hh.box l _ s.β[l] a (bg hl);have:=b _ _ h1;grind
def aD.YR(hh:aD σ s){r c:Nat}{sn:Array Nat}(f:σ[l]?=aa (.cq (F3 r c sn))):∃a:Nat,s.β[l]?=aa ⟨.pointer (aa ⟨a,0,af⟩),((s.β[l]?).map (·.bs)).getD []⟩/\s.w.heap[a]?=aa (.mapIter (aa r) c sn c)/\∀L,s.β[l]?=aa L->∀b,b∈L.bs↔b=a:=by
  have hl:l<s.β.length:=by rw[hh.len];grind
  have d:=bg hl;obtain⟨ch,⟨a,e,h1⟩,h2,h,i⟩:=hh.box l _ s.β[l] f d;refine⟨a,?_,h2 a _ (by grind),λL g b=>?_⟩
  · rw[d];simp[<-e]
  grind
def AK.range{t x d:Nat}{m l:aw}(ho:o.op=.range t (.tmp x))(C:o.dst=aa d)(I:o.guard=af)(E:fE N o.dst=ab)(n:P.underlying t=aa (.map m l)){r:Nat}(u:∀s a,cr N σ s φ a->aD σ s->a.eval (.tmp x)=.map (aa r)){mb:Nat}{H:aj->(Nat->Option Obj)->Prop}{es:Array MapEntry}{c:Nat}(D:σ[mb]?=aa (.cq H))(F:JM H r es c)(k:AK X N Qf (.ops all rest::K) .normal ((d,.e (.one (.ref σ.length)))::φ) (σ++[.cq (F3 r c #[])])):AK X N Qf (.ops all (o::rest)::K) .normal φ σ:=by
  refine AK.hand (ι:=Unit) (λ_=>.e (.one (.ref σ.length))) (λ_=>σ++[.cq (F3 r c #[])]) I E ?_ λ_=>by rw[C];exact k
  intro s a p hh;have i:a.eval (.tmp x)=.map (aa r):=u s a p hh;obtain⟨h,L,y,f⟩:=hh.has D F;have h1:=run_range_map s.w t m l r es c n h;have h2:(Instr.range t (.map (aa r))).events P s.w #[]=#[⟨.obj r,ae,ae⟩]:=by
    have q:∀es,(getObj r).events P s.w es=es.push ⟨.obj r,ae,ae⟩:=λes=>by simp only[getObj,Sem.events,Sem.runT,h];rfl
    have A:∀(o:Obj) (w:aA) es,(newObj o).events P w es=es:=λo w es=>by simp only[newObj,Sem.events,Sem.runT]
    simp[Instr.range,run_underlying n,MapKept.run_getObj_map h,q,A]
  have J:∀b,s.w.heap.size<=b->∀o,s.M b o=af:=λb hb o=>by
    cases hm:s.M b o with
    | none=>rfl
    | some v=>have:=hh.block hm;omega
  let w':aA:=s.w.alloc (.mapIter (aa r) c #[] c);have z:w'.heap.size=s.w.heap.size+1:=by show(s.w.heap.push _).size=_;simp
  have j:w'.heap[s.w.heap.size]?=aa (.mapIter (aa r) c #[] c):=dG _ _;obtain⟨G,g2⟩:=hh.grow (M':=s.M) (w':=w') (by omega) (λb hb=>cO _ _ hb) (λ_ _ _=>rfl) (λb hb o v hm=>by grind) rfl rfl rfl;obtain⟨a1,a2⟩:=G.gz (B:=.cq (F3 r c #[])) (L:=⟨.pointer (aa ⟨s.w.heap.size,0,af⟩),[s.w.heap.size]⟩) g2 rfl hh
    ⟨λb=>if b=s.w.heap.size then aa (.mapIter (aa r) c #[] c)else af,⟨_,rfl,rfl⟩,λb o hb=>by grind,λb=>by by_cases e:b=s.w.heap.size<;>simp[e],λb hb o=>by grind⟩
    (λb hb=>by grind)
  refine⟨(),.value (.pointer (aa ⟨s.w.heap.size,0,af⟩)),_,.pointer (aa ⟨s.w.heap.size,0,af⟩),?_,.inl rfl,⟨λB g=>?_,⟨.pointer (aa ⟨s.w.heap.size,0,af⟩),[s.w.heap.size]⟩,?_,rfl,rfl⟩,a1,a2,?_⟩
  · simp only[ak,ho,i,bT,h1,cm,cV];rfl
  · rw[fA (ba _)]at g;simp at g;subst g;rfl
  · show(s.β++_)[σ.length]?=_
    rw[<-hh.len,fA (ba _)];simp
  · exact ql (eB.of_eq h2 (.one (gH y f))) (by simp only[ak,ho,i])
def cr.T8{x:Nat}(c:look φ x=.e (.one (.v v))):∀s a,cr N σ s φ a->aD σ s->a.eval (.tmp x)=v:=λs a b _=>by have:=b.slot x;rw[c]at this;exact Rd.fu this
inductive yH (es:Array MapEntry) (sn:Array Nat)
  | over (h:∀e∈es.toList,e.born∈sn)
  | one (e:MapEntry) (h:e∈es.toList) (hn:e.born∉sn)
def yH.d{es:Array MapEntry}{sn:Array Nat}:yH es sn->D
  | .over _=>.fz [.one (.c (.bool ae))]
  | .one e _ _=>.fz [.one (.c (.bool ab)),.one (.v e.key),.one (.v e.val)]
def yH.sn{es:Array MapEntry}{sn:Array Nat}:yH es sn->Array Nat
  | .over _=>sn
  | .one e _ _=>sn.push e.born
def AK.next{x d:Nat}{ty:aw}(ho:o.op=.next (.tmp x) ae)(Q:o.type=ty)(V:o.dst=aa d)(hg:o.guard=af)(Y:fE N o.dst=ab){mb ib:Nat}(O:look φ x=.e (.one (.ref ib))){r c:Nat}{sn:Array Nat}(E:σ[ib]?=aa (.cq (F3 r c sn))){H:aj->(Nat->Option Obj)->Prop}{es:Array MapEntry}(W:σ[mb]?=aa (.cq H))(hH:JM H r es c)(n:MapKept.Stamped es c)(B:∀e∈es.toList,cZ e.key=ab/\cZ e.val=ab)(k:∀i:yH es sn,AK X N Qf (.ops all rest::K) .normal ((d,i.d)::φ) (σ.set ib (.cq (F3 r c i.sn)))):AK X N Qf (.ops all (o::rest)::K) .normal φ σ:=by
  refine AK.hand (ι:=yH es sn) (λi=>i.d) (λi=>σ.set ib (.cq (F3 r c i.sn))) hg Y ?_ λi=>by rw[V];exact k i
  intro s a M hh;obtain⟨f,h1,h2,D⟩:=hh.YR E;have j:a.eval (.tmp x)=.pointer (aa ⟨f,0,af⟩):=by
    have:=M.slot x;rw[O]at this;obtain⟨_,L,v,j,_⟩:=(show gb _ s _ (.ref ib)from this)
    rw[h1]at v;cases v;exact j
  obtain⟨G,L,v,I⟩:=hh.has W hH;have C:=bL h1;have y:=(D _ h1 f).2 rfl;have p:eB s ((Instr.next (.pointer (aa ⟨f,0,af⟩)) ae o.type).events P s.w #[]):=by
    intro e t;obtain⟨q1,q2|q2⟩:=Ea s.w o.type f r c c sn es c h2 G n.1 (ba _) e t
    · obtain⟨z,wr,R⟩:=e;grind[gH]
    · obtain⟨z,wr,R⟩:=e;grind[gH]
  have m:σ.set ib (.cq (F3 r c sn))=σ:=by apply gQ;grind
  rcases run_next_at (P:=P) s.w o.type f r c c sn es c h2 G n.1 (ba _)with⟨Z,A⟩|⟨e,t,w1,u,A⟩
  · have q:∀e∈es.toList,e.born∈sn:=by intro e t;have:=Array.eq_empty_of_size_eq_zero Z;unfold leftOf at this;grind[Array.filter_eq_empty_iff]
    refine⟨.over q,.value (.tuple #[.bool ae]),s,_,?_,.inl rfl,⟨[.bool ae],rfl,Rd.bool,ar⟩,?_,?_,?_⟩
    · simp only[ak,ho,j,bT,A,cm,cV]
    · show aD (σ.set ib (.cq (F3 r c sn))) s
      grind
    · show Step σ s (σ.set ib (.cq (F3 r c sn))) s
      rw[m];exact .refl _ _
    · exact ql p (by simp only[ak,ho,j])
  · have h:e∈es.toList/\e.born∉sn:=by simp[leftOf]at t;grind
    have g:w1.heap=s.w.heap/\w1.os=s.w.os/\w1.tape=s.w.tape/\w1.output=s.w.output:=by rcases u with rfl|rfl<;>exact⟨rfl,rfl,rfl,rfl⟩
    have U:f<s.w.heap.size:=hh.lt _ C f y;have F:f<w1.heap.size:=by grind
    obtain⟨J,S⟩:=hh.iJ (l:=ib) (H':=F3 r c (sn.push e.born)) (L':=⟨.pointer (aa ⟨f,0,af⟩),((s.β[ib]?).map (·.bs)).getD []⟩) (w':=setBlock w1 f (.mapIter (aa r) c (sn.push e.born) c)) E h1 rfl
      (by simp[setBlock,g.1]) (λb hb hn=>by
        have T:f≠b:=by grind
        simp only[setBlock]
        grind) (λb hb=>.inl hb)
      ⟨λb=>if b=f then aa (.mapIter (aa r) c (sn.push e.born) c)else af,⟨f,rfl,rfl⟩,λb o hb=>by
        by_cases e1:b=f
        · subst e1
          simp only[bY]at hb;cases hb;simp only[setBlock];grind
        grind,λb=>by
        rw[D _ h1 b]
        by_cases e1:b=f<;>simp[e1]⟩ (by simp[setBlock,g.2.1]) (by simp[setBlock,g.2.2.1]) (by simp[setBlock,g.2.2.2])
    obtain⟨c1,c2⟩:=B e h.1;refine⟨.one e h.1 h.2,.value (.tuple #[.bool ab,e.key,e.val]),_,_,?_,.inl rfl,⟨[.bool ab,e.key,e.val],rfl,Rd.bool,Rd.val c1,Rd.val c2,ar⟩,J,S,?_⟩
    · simp only[ak,ho,j,bT,A,cm,cV]
    · exact ql p (by simp only[ak,ho,j])
def AK.entry{x d:Nat}(ho:o.op=.entry (.tmp x))(u:o.dst=aa d)(C:o.guard=af)(z:fE N o.dst=ab){mb ib:Nat}(p:look φ x=.e (.one (.ref ib))){r c:Nat}{sn:Array Nat}{e:MapEntry}(q:σ[ib]?=aa (.cq (F3 r c (sn.push e.born)))){es:Array MapEntry}(v:σ[mb]?=aa (.cq H))(B:JM H r es c)(b:MapKept.Stamped es c)(j:e∈es.toList){y:D}(E:∀s:St,dm σ s (.tuple #[e.key,e.val]) y)(k:AK X N Qf (.ops all rest::K) .normal ((d,y)::φ) σ):AK X N Qf (.ops all (o::rest)::K) .normal φ σ:=by
  refine AK.hand (ι:=Unit) (λ_=>y) (λ_=>σ) C z ?_ λ_=>by rw[u];exact k
  intro s a n hh;obtain⟨g,h1,h2,m⟩:=hh.YR q;have f:a.eval (.tmp x)=.pointer (aa ⟨g,0,af⟩):=by
    have:=n.slot x;rw[p]at this;obtain⟨_,L,h,f,_⟩:=(show gb _ s _ (.ref ib)from this)
    rw[h1]at h;cases h;exact f
  obtain⟨l,L,h,i⟩:=hh.has v B;have A:=run_entry_at (P:=P) s.w g r c sn es c e h2 l j b.2.1;have t:=B5 (P:=P) s.w g r c sn es c e h2 l j b.2.1;refine⟨(),.value (.tuple #[e.key,e.val]),s,_,?_,.inl rfl,E s,hh,.refl _ _,?_⟩
  · simp only[ak,ho,f,bT,A,cm,cV]
  · exact ql (eB.of_eq t (.two (gH (bL h1) ((m _ h1 g).2 rfl)) (gH h i))) (by simp only[ak,ho,f])
end
end
inductive uz where
 |nil (a:Option Addr)
 |row (b cap:Nat)
def sT(bf:uz)(n:Nat):aj:=match bf with
 |.nil a=>.slice a 0 0
 |.row b cap=>.slice (aa ⟨b,0,af⟩) n cap
def MV(xs:List aj):Nat->List C:=λi=>[.val (xs.getD i ah)]
section
variable {X:Cx P}
def AW.DH{Q:Post}{φ':ι->Fr}{σ':ι->List bm}(h:∀s a,cr N σ s φ a->aD σ s->∃(i:ι)(s':St),s'.w=s.w/\cr N (σ' i) s' (φ' i) a/\aD (σ' i) s'/\Step σ s (σ' i) s')(k:∀i,AW X N c Q (φ' i) (σ' i)):AW X N c Q φ σ:=by intro s a m hh b kk cs S hb hQ;obtain⟨i,s',n,j,d,st⟩:=h s a m hh;have f:=st.ow hh;refine .ghost (.of hh d n f) ?_;exact k i s' a j d b kk cs S hb λe g σ2 s2 a2 q l h2 oE=>hQ e g σ2 s2 a2 q l h2 (f.trans oE)
def AK.Ti(l:Nat){B:bm}(B':ι->bm)(hl:σ[l]?=aa B)(h:∀s L,eK σ s B L->∃i,(∀σ',eK σ' s (B' i) L)/\ic B L (B' i) L)(kk:∀i,AK X N Qf (.code c::K) .normal φ (σ.set l (B' i))):AK X N Qf (.code c::K) .normal φ σ:=by
 refine AW.DH (φ':=λ_=>φ) (σ':=λi=>σ.set l (B' i)) (λs a j hh=>?_) kk;have d:l<σ.length:=(b8.1 hl).1;have g:l<s.β.length:=by rw[hh.len];grind
 have f:=bg g;generalize s.β[l]=L at f;obtain⟨i,hi,k⟩:=h s L (hh.box l _ L hl f);have ex:Ext σ s (σ.set l (B' i)) s:=by
  refine⟨λ_ _ _ h=>h,λl' B2 L' mc gm=>?_⟩;by_cases e:l=l'
  .subst e;rw[hl]at mc;cases mc;rw[f]at gm;cases gm;exact⟨B' i,_,by grind,f,k⟩
  .exact⟨B2,L',by grind,gm,.refl _ _⟩
 have st:Step σ s (σ.set l (B' i)) s :=
  ⟨ba _,λ_ _ _=>rfl,λ_ _ _ h=>h,λ_ _ _ _=>rfl,λL h b hb=>.inr ⟨L,h,hb⟩,ex.box,rfl,rfl,rfl,rfl⟩
 refine⟨i,s,rfl,⟨j.size,j.defers.imp λ_ h1=>h1.mono st.ext,λu=>(j.slot u).mono st.ext hh.len⟩,⟨hh.mem,by simp[hh.len],?_,hh.eZ,hh.lt,hh.own⟩,st⟩;intro l' B2 L' mc gm;by_cases e:l=l'
 .subst e;rw[fO d]at mc;cases mc;rw[f]at gm;cases gm;exact hi _
 .rw[kJ e]at mc;exact(hh.box l' B2 L' mc gm).carry ex hh.len λ_ _=>⟨rfl,λ_=>rfl⟩
def AK.IG(l:Nat)(H':ι->aj->(Nat->Option Obj)->Prop)(hl:σ[l]?=aa (.cq H))(h:∀v ch,H v ch->∃i,H' i v ch)(kk:∀i,AK X N Qf (.code c::K) .normal φ (σ.set l (.cq (H' i)))):AK X N Qf (.code c::K) .normal φ σ :=
 AK.Ti l (λi=>.cq (H' i)) hl (λs L ⟨ch,b,a⟩=>let ⟨i,hi⟩:=h _ _ b;⟨i,λ_=>⟨ch,hi,a⟩,rfl⟩) kk
def AK.Tj(l:Nat){E:Nat}(es':Nat->List C)(hl:σ[l]?=aa (.buf E k n es))(o:∀i,i<n->(es' i).length=k)(h:∀(M:Mem) (i:Nat),i<n->∀(j:Nat) a,(es' i)[j]?=aa a->∃c,(es i)[j]?=aa c/\∀v,Rd M v c->Rd M v a)(kk:AK X N Qf (.code c::K) .normal φ (σ.set l (.buf E k n es'))):AK X N Qf (.code c::K) .normal φ σ:=by
 refine AK.Ti (ι:=Unit) l (λ_=>.buf E k n es') hl (λs L hb=>⟨(),λσ'=>?_,λ_=>rfl,ba _⟩) λ_=>kk;rcases hb with m|⟨b,w,vs,t,h1,h2,g,p,q,e,x⟩
 .exact .inl m
 .refine .inr ⟨b,w,vs,t,h1,h2,g,p,q,⟨e.len,o,λi hi j a hj=>?_⟩,x⟩;obtain⟨c,r,u⟩:=h s.M i hi j a hj;obtain⟨v,f,d⟩:=e.rd i hi j c r;exact⟨v,f,u v d⟩
end
def uy:C->Bool
 |.int _ _|.bool _|.str _|.oY|.o0|.zH|.val _=>ab
 |_=>ae
def vr:A->Bool
 |.c x=>uy x
 |.any=>ab
 |_=>ae
def MS:List A->Bool
 |[]=>ab
 |a::r=>match vr a with|true=>MS r|false=>ae
def IF:E1->Bool
 |.one a=>vr a
 |.agg cs=>MS cs
def Ft:List E1->Bool
 |[]=>ab
 |a::r=>match IF a with|true=>Ft r|false=>ae
def MT:D->Bool
 |.e x=>IF x
 |.fz xs=>Ft xs
 |.any=>ab
section
theorem qd{M':Mem}{c:C}(h:uy c=ab)(r:Rd M v c):Rd M' v c:=by
 cases r<;>first|(simp[uy]at h;done)|skip
 case int h1=>exact .int h1
 case bool=>exact .bool
 case str h1 h2=>exact .str h1 h2
 case oY=>exact .oY
 case o0=>exact .o0
 case zH=>exact .zH
 case val h1=>exact .val h1
def Fu{a:A}(h:vr a=ab)(r:gb σ s v a):gb σ' s' v a:=by
 cases a with
 |c x=>exact qd h r
 |any=>exact r
 |_=>simp[vr]at h
def Fv:∀{vs:List aj}{cs:List A},MS cs=ab->eb σ s vs cs->eb σ' s' vs cs
 |[],[],_,_=>trivial
 |[],_::_,_,r=>r.elim
 |_::_,[],_,r=>r.elim
 |v::vs,c::cs,h,r=>by
  simp only[MS]at h;cases a:vr c with
  |false=>grind
  |true=>simp only[a]at h;exact⟨Fu a r.1,Fv h r.2⟩
def zI{x:E1}(h:IF x=ab)(r:nD σ s v x):nD σ' s' v x:=by
 cases x with
 |one a=>exact Fu h r
 |agg cs=>obtain⟨vs,b,c⟩:=r;exact⟨vs,b,Fv h c⟩
def Bq:∀{vs:List aj}{cs:List E1},Ft cs=ab->gF σ s vs cs->gF σ' s' vs cs
 |[],[],_,_=>trivial
 |[],_::_,_,r=>r.elim
 |_::_,[],_,r=>r.elim
 |v::vs,c::cs,h,r=>by
  simp only[Ft]at h;cases a:IF c with
  |false=>grind
  |true=>simp only[a]at h;exact⟨zI a r.1,Bq h r.2⟩
def MU{d:D}(h:MT d=ab)(r:dm σ s v d):dm σ' s' v d:=by
 cases d with
 |e x=>exact zI h r
 |fz xs=>obtain⟨vs,a,b⟩:=r;exact⟨vs,a,Bq h b⟩
 |any=>trivial
end
def Br:List bm->Bool
 |[]=>ab
 |.cq _::r=>Br r
 |.dead::r=>Br r
 |_=>ae
def Bt:∀{l:List bm},Br l=ab->∀B∈l,(∃H,B=.cq H)∨B=.dead
 |[],_,B,a=>by grind
 |b::r,h,B,a=>by
  have c:((∃H,b=.cq H)∨b=.dead)/\Br r=ab:=by cases b<;>simp_all[Br]
  rcases dC.1 a with rfl|a
  .exact c.1
  .exact Bt c.2 B a
def im(σ:List bm)(a:Nat)(u:aj)(k n:Nat)(es:Nat->List C):Prop :=
 ∀s,aD σ s->∃(L:Loc) (M':Mem),s.β[a]?=aa L/\(∀b o v,s.M b o=aa v->M' b o=aa v)/\(∀b,b∉L.bs->∀o,M' b o=s.M b o)/\(∀b o v,M' b o=aa v->s.w.cell? ⟨b,o,af⟩=aa v) /\
  (∀b∈L.bs,∀o,s.M b o=af)/\Rd M' u (.sl ae k n es)
section
variable {X:Cx P}
def cn.setAt{σ:List bm}{s:St}{d:D}:∀{vs:List aj}{ds:List D}{p:Nat}{v:aj},cn σ s vs ds->vs[p]?=aa v->dm σ s v d->cn σ s vs (ds.set p d)
 |[],[],_,_,_,h,_=>by grind
 |[],_::_,_,_,h,_,_=>h.elim
 |_::_,[],_,_,h,_,_=>h.elim
 |u::vs,e::ds,0,v,h,b,a=>by simp at b;subst b;exact⟨a,h.2⟩
 |u::vs,e::ds,p+1,v,h,b,a=>⟨h.1,cn.setAt (p:=p) h.2 (by grind) a⟩
def jF(σ:List bm)(ds Fw:List D):Prop :=
 ∀s vs,aD σ s->cn σ s vs ds->∃(B:Nat->Prop) (M':Mem),(∀b,B b->∃L∈s.β,b∈L.bs)/\(∀b o v,s.M b o=aa v->M' b o=aa v)/\(∀b,¬B b->∀o,M' b o=s.M b o) /\
  (∀b o v,M' b o=aa v->s.w.cell? ⟨b,o,af⟩=aa v)/\(∀b,B b->∀o,s.M b o=af)/\cn σ {s with M:=M'} vs Fw
def jF.refl(σ:List bm)(ds:List D):jF σ ds ds:=λs vs hh hr=>⟨λ_=>False,s.M,λ_ h=>h.elim,λ_ _ _ h=>h,λ_ _ _=>rfl,hh.mem,λ_ h=>h.elim,hr⟩
def jF.step{ds Fw:List D}(h:jF σ ds Fw)(p q:Nat){u:aj}(y:Fw[p]?=aa (.e (.one (.v u))))(hl:im σ q u k n es):jF σ ds (Fw.set p (.e (.one (.c (.sl ae k n es))))):=by
 classical
 intro s vs hh hr;obtain⟨B,M1,C,w,F,E,A,m⟩:=h s vs hh hr;obtain⟨L,a,j,H,G,J,I,r⟩:=hl s hh;have h1:∀b o v,M1 b o=aa v->(M1 b o).or (a b o)=aa v:=λb o v d=>by grind
 have h2:∀b o v,a b o=aa v->(M1 b o).or (a b o)=aa v:=λb o v d=>by
  cases e:M1 b o with
  |none=>grind
  |some v' =>
   grind
 refine⟨λb=>B b∨b∈L.bs,λb o=>(M1 b o).or (a b o),?_,λb o v d=>h1 b o v (w b o v d),?_,?_,?_,?_⟩
 .grind
 .grind
 .intro b o v d;cases e:M1 b o with
  |none=>grind
  |some v'=>grind
 .grind
 .have e1:Ext σ {s with M:=M1} σ {s with M:=λb o=>(M1 b o).or (a b o)}:=⟨h1,λl B L z j=>⟨B,L,z,j,.refl _ _⟩⟩
  have x:=m.mono e1 hh.len;obtain⟨t,i⟩:=cn.get m;have g:p<vs.length:=by grind
  have f:vs[p]?=aa u:=by have:=i p;rw[y,bg g]at this;have:=Rd.fu (show Rd M1 vs[p] (.val u)from this);grind
  exact x.setAt f (show dm σ {s with M:=λb o=>(M1 b o).or (a b o)} u (.e (.one (.c (.sl ae k n es))))from Rd.mono h2 r)
end
def iR(E:aw)(k:Nat)(bf:uz)(n:Nat)(xs:List aj):aj->(Nat->Option Obj)->Prop:=λv a=>v=.nilFunc/\(∀x∈xs,cZ x=ab)/\xs.length=n*k/\match bf with
 |.nil _=>n=0/\a=λ_=>af
 |.row b cap=>n<=cap/\cap<=9223372036854775807/\∃c,(xs++c).length=cap*k/\a=λd=>if d=b then aa (.cells (xs++c).toArray E (0,0))else af
def sU(k:Nat)(xs:List aj):Nat->List C:=λi=>((xs.drop (i*k)).take k).map .val
def Bu{xs:List aj}(a:xs.length=n*k)(hi:i<n):(sU k xs i).length=k:=by
 have:i*k+k<=n*k:=by rw[<-kM];exact ez _ hi
 simp[sU,a];omega
def Bv{xs:List aj}{c:C}(h:(sU k xs i)[j]?=aa c):∃u,xs[i*k+j]?=aa u/\c=.val u:=by simp only[sU,nJ,eX,oS]at h;grind
def iR.lookup{cap:Nat}{xs:List aj}{ch:Nat->Option Obj}(h:iR E k (.row b cap) n xs v ch):∃a,(xs++a).length=cap*k/\ch b=aa (.cells (xs++a).toArray E (0,0))/\∀c,(ch c).isSome=ab↔c=b:=by obtain⟨_,_,_,_,_,a,h1,h2⟩:=h;grind
def Rd.Tk{cap:Nat}{xs:List aj}(e:∀x∈xs,cZ x=ab)(hl:xs.length=n*k)(f:n<=cap)(d:cap<=9223372036854775807)(g:∀o,M b o=xs[o]?):Rd M (.slice (aa ⟨b,0,af⟩) n cap) (.sl ae k n (sU k xs)):=by refine Rd.nN (M:=M) (k:=k) (n:=n) (es:=sU k xs) (vs:=xs) (a:=aa ⟨b,0,af⟩) (b:=b) (off:=0) (cap:=cap) (t:=ae) ⟨hl,λi hi=>Bu hl hi,λi hi j c hj=>?_⟩ (λ_=>rfl) f d (by simp) (λp u h=>by grind);obtain⟨u,h1,rfl⟩:=Bv hj;exact⟨u,h1,.val (e u (bL h1))⟩
section
variable {X:Cx P}
def iR.Fx{f:Nat}{bf:uz}{xs:List aj}(hl:σ[f]?=aa (.cq (iR E k bf n xs)))(es:Nat->List C)(g:∀i,i<n->(es i).length=k/\∀M j c x,(es i)[j]?=aa c->xs[i*k+j]?=aa x->Rd M x c):im σ f (sT bf n) k n es:=by
 intro s hh;have I:f<σ.length:=(b8.1 hl).1;have l:f<s.β.length:=by rw[hh.len];grind
 have z:=bg l;generalize s.β[f]=L at z;obtain⟨ch,F,e,H,d⟩:=hh.box f _ L hl z;cases bf with
 |nil a0 =>
  obtain⟨_,_,_,rfl,_⟩:=F;exact⟨L,s.M,z,λ_ _ _ h=>h,λ_ _ _=>rfl,hh.mem,d,Rd.il⟩
 |row b cap =>
  obtain⟨S,O,y,J⟩:=F.lookup;obtain⟨Q,G,w,m,D,_⟩:=F;have B:b∈L.bs:=(H b).2 (by grind)
  have q:=e b _ y;obtain⟨c1,c2⟩:=hh.zC (b:=b) (vs:=xs) (d b B) (λo v ho=>by
   simp only[aW,q]
   grind)
  refine⟨L,λA o=>if A=b then xs[o]? else s.M A o,z,c2,λA K o=>a9 (by grind),c1.mem,d,?_⟩;refine Rd.nN (k:=k) (n:=n) (es:=es) (vs:=xs) (a:=aa ⟨b,0,af⟩) (b:=b) (off:=0) (cap:=cap) (t:=ae) ⟨w,λi hi=>(g i hi).1,λi hi j c hj=>?_⟩ (λ_=>rfl) m D (by simp) (λp u R=>by grind);have N:j<k:=by grind
  have r:i*k+j<xs.length:=by
   rw[w];have:i*k+k<=n*k:=by rw[<-kM];exact ez _ hi
   omega
  exact⟨xs[i*k+j],bg r,(g i hi).2 _ j c _ hj (bg r)⟩
def jR.qV(h:lC P o x y E ie)(hs:ie.size=k){bf:uz}{xs:List aj}(hx:bO φ x=.e (.one (.v (sT bf n))))(hl:σ[l]?=aa (.cq (iR E k bf n xs))){tx:Bool}{es':Nat->List C}(hy:bO φ y=.e (.one (.c (.sl tx k 1 es')))){xv:List aj}(hxv:xv.length=k)(hcx:∀(M:Mem) (v:aj) (j:Nat) (c:C),(es' 0)[j]?=aa c->Rd M v c->xv[j]?=aa v/\cZ v=ab)(hb:(n+1)*ie.bytes<=140737488355328):
  jR P N o φ σ (λO:uz=>.e (.one (.v (sT O (n+1))))) λO=>σ.set l (.cq (iR E k O (n+1) (xs++xv))):=by
 intro s a hf hh;obtain⟨t,t2,i,i2,ho,hi,F,B,G⟩:=h.op;have Qe:l<σ.length:=(b8.1 hl).1;have W:l<s.β.length:=by rw[hh.len];grind
 have hL:=bg W;generalize s.β[l]=L at hL;obtain⟨ch,V,U,Qh,ZZ⟩:=hh.box l _ L hl hL;have T:=bL hL;have S:=c8 hf x;rw[hx]at S;have S:=Rd.fu S;have Z:=c8 hf y;rw[hy]at Z;have Z:=fI Z;have R:=V.2.1;have Q:=V.2.2.1;have nM:∀b,s.w.heap.size<=b->∀o,s.M b o=af:=λb hb o=>by
  cases hm:s.M b o with
  |none=>rfl
  |some v=>have:=hh.block hm;omega
 have mk:∀(M':Mem) (a0:Option Addr) (cap:Nat),sT bf n=.slice a0 n cap->cap<n+1->aD (σ.map λ_=>.dead) {s with M:=M'}->(∀f o v,s.M f o=aa v->M' f o=aa v) ->
   Rd M' (.slice a0 n cap) (.sl ae k n (sU k xs))->(∀{es},eB {s with M:=M'} es->eB s es) ->
   ∃i nx s' v,(ak a.eval o).run P s.w=.ok nx s'.w/\(nx=.value v∨(nx=.skip/\v=ah))/\dm (σ.set l (.cq (iR E k i (n+1) (xs++xv)))) s' v (.e (.one (.v (sT i (n+1)))))/\aD (σ.set l (.cq (iR E k i (n+1) (xs++xv)))) s'/\Step σ s (σ.set l (.cq (iR E k i (n+1) (xs++xv)))) s'/\eB s ((ak a.eval o).events P s.w #[]):=by
  intro M' a0 cap Z0 GN MM Z1 hR Vw;have D:Rd ({s with M:=M'}:St).M (a.eval y) (.sl tx ie.size 1 es'):=by rw[hs];exact Z.mono Z1
  have Yg:Rd ({s with M:=M'}:St).M (.slice a0 n cap) (.sl ae ie.size n (sU k xs)):=by grind
  obtain⟨vs,g,r,A,f2,f3,f4,f5⟩:=ik (P:=P) (s:={s with M:=M'}) (ty:=o.type) hi F B G h.elem MM Yg D GN hb h.bytes;have f6:=iP (P:=P) (s:={s with M:=M'}) (ty:=o.type) hi F B G h.elem MM Yg D GN hb h.bytes;rw[hs]at A f4;have Pc:vs.length=(n+1)*k:=A.len;have Mx:xs.length+k=(n+1)*k:=by grind
  have V7:0<k:=by have:=h.size;omega
  have SF:∀j,j<k->∃v,vs[n*k+j]?=aa v/\xv[j]?=aa v/\cZ v=ab:=λj hj=>by
   have Qm:=A.width n (by omega);have Z2:cT n (sU k xs) es' n=es' 0:=by simp[cT]
   rw[Z2]at Qm;obtain⟨v,v1,v2⟩:=A.rd n (by omega) j ((es' 0)[j]'(by omega)) (by grind);grind
  have SG:vs=xs++xv:=by
   apply gQ;intro q;by_cases e:q<xs.length
   .have hi:q / k<n:=pO (by grind);have S8:q / k*k+q % k=q:=pU q k;have Z3:=Bu (k:=k) Q hi;have hap:cT n (sU k xs) es' (q / k)=sU k xs (q / k):=by simp[cT,hi]
    have Z4:q % k<(sU k xs (q / k)).length:=by rw[Z3];exact iA _ V7
    obtain⟨v,v1,v2⟩:=A.rd (q / k) (by omega) (q % k) ((sU k xs (q / k))[q % k]) (by grind);obtain⟨u,u1,u2⟩:=Bv (bg Z4);grind[Rd.fu]
   grind
  subst SG;have V8:∀x∈xv,cZ x=ab:=λx hx=>by grind[List.getElem_of_mem]
  let w':aA:=s.w.drew.alloc (.cells (xs++xv++g).toArray E);have MP:w'.heap[s.w.heap.size]?=aa (.cells (xs++xv++g).toArray E (0,0)):=dG s.w.drew _;have MQ:w'.heap.size=s.w.heap.size+1:=by show(s.w.drew.heap.push _).size=_;simp
  obtain⟨t1,K⟩:=hh.iJ (l:=l) (H':=iR E k (.row s.w.heap.size r) (n+1) (xs++xv)) (L':=⟨L.v,[s.w.heap.size]⟩) (w':=w') hl hL rfl (by omega)
   (λb hb _=>cO s.w.drew _ hb) (λb hb=>by grind)
   ⟨λf=>if f=s.w.heap.size then aa (.cells (xs++xv++g).toArray E (0,0))else af,⟨V.1,λx hx=>by
    grind,by grind,f2,f3,g,by rw[f4],rfl⟩,λb o hb=>by grind,λb=>by by_cases e:b=s.w.heap.size<;>simp[e]⟩ rfl rfl rfl
  refine⟨.row s.w.heap.size r,.value (.slice (aa ⟨s.w.heap.size,0,af⟩) (n+1) r),_,_,?_,.inl rfl,Rd.val rfl,t1,K,?_⟩
  .rw[de ho,S,Z0];simp only[bT,cV];have Z5:(Builtin.append_ #[t,t2] o.type #[.slice a0 n cap,a.eval y]).run P s.w=_:=f5;rw[Z5];rfl
  grind[de,er]
 cases bf with
 |nil a0 =>
  obtain⟨_,_,_,rfl,_⟩:=V;refine mk s.M a0 0 rfl (by simp) (by have:=hh.k7;exact⟨this.mem,this.len,this.box,this.eZ,this.lt,this.own⟩) (λ_ _ _ h=>h) Rd.il (λh=>h)
 |row b cap =>
  obtain⟨g,V9,Qn,Tl⟩:=V.lookup;obtain⟨Qg,_,_,GN,MI,_⟩:=V;have H:b∈L.bs:=(Qh b).2 (by grind);have p:=U b _ Qn;have Y:=ZZ b H;have Wa:b<s.w.heap.size:=hh.lt L T b H;have Pb:∀o v,xs[o]?=aa v->s.w.cell? ⟨b,o,af⟩=aa v:=by intro o v ho;simp only[aW,p];grind
  obtain⟨c1,c2⟩:=hh.zC (b:=b) (vs:=xs) Y Pb;have Vw:∀{es:Array Event},eB {s with M:=λf o=>if f=b then xs[o]? else s.M f o} es->eB s es:=λhe =>
   he.vn (b:=b) T H c2 λf o v S=>by grind
  have hR:=Rd.Tk (M:=λf o=>if f=b then xs[o]? else s.M f o) (b:=b) (cap:=cap) (xs:=xs) R Q GN MI (λo=>by simp);by_cases m:n+1<=cap
  .have D:Rd ({s with M:=λf o=>if f=b then xs[o]? else s.M f o}:St).M (a.eval y) (.sl tx ie.size 1 es'):=by rw[hs];exact Z.mono c2
   obtain⟨d,A,f2⟩:=jX (P:=P) (s:={s with M:=λf o=>if f=b then xs[o]? else s.M f o}) (ty:=o.type) (n:=n) (b:=b) (cap:=cap) hi F B G h.elem c1 p (by grind) D m;have f6:=lD (P:=P) (s:=s) (ty:=o.type) (n:=n) (b:=b) (cap:=cap) hi F B G h.elem hh p (by grind) (x:=a.eval y) (tx:=tx) (es':=es') (by grind) m T H (λo _=>Y o);rw[hs]at A f2;have SE:d.length=k:=by have:=A.len;omega
   have Z6:=A.width 0 (by omega);have SF:∀j,j<k->∃v,d[j]?=aa v/\xv[j]?=aa v/\cZ v=ab:=λj hj=>by obtain⟨v,v1,v2⟩:=A.rd 0 (by omega) j ((es' 0)[j]'(by omega)) (bg (by omega));grind
   have J:d=xv:=by apply gQ;grind
   subst J;have V8:∀x∈d,cZ x=ab:=λx hx=>by grind[List.getElem_of_mem]
   have hfk:n*k+k<=cap*k:=by rw[<-kM];exact ez _ m
   have hzk:k<=g.length:=by grind
   have I:((xs++g).take (n*k)++d++(xs++g).drop (n*k+d.length))=xs++d++g.drop k:=by rw[<-Q,SE];simp[List.drop_append]
   rw[I]at f2;have Qb:(s.w.setRow b (xs++d++g.drop k).toArray).heap[b]?=aa (.cells (xs++d++g.drop k).toArray E (0,0)):=setRow_heap s.w b _ _ E _ p;have DI:∀f,f≠b->(s.w.setRow b (xs++d++g.drop k).toArray).heap[f]?=s.w.heap[f]?:=λf z=>setRow_other s.w b f _ z;obtain⟨t1,K⟩:=hh.iJ (l:=l) (H':=iR E k (.row b cap) (n+1) (xs++d)) (L':=L) (w':=s.w.setRow b (xs++d++g.drop k).toArray) hl hL rfl (by simp)
    (λf z hn=>DI f (by grind)) (λf z=>.inl z)
    ⟨λf=>if f=b then aa (.cells (xs++d++g.drop k).toArray E (0,0))else af,⟨Qg,λx hx=>by
     grind,by grind,m,MI,g.drop k,by grind,rfl⟩,λf o z=>by
     grind,λf=>by grind⟩ rfl rfl rfl
   refine⟨.row b cap,.value (.slice (aa ⟨b,0,af⟩) (n+1) cap),_,_,?_,.inl rfl,Rd.val rfl,t1,K,?_⟩
   .rw[de ho,S];simp only[bT,cV,sT];have Z7:(Builtin.append_ #[t,t2] o.type #[.slice (aa ⟨b,0,af⟩) n cap,a.eval y]).run P s.w=_:=f2;rw[Z7];rfl
   .rw[de ho,S];exact er f6
  .exact mk _ (aa ⟨b,0,af⟩) cap rfl (by omega) c1 c2 hR Vw
def AK.qV(h:lC P o x y E ie)(p:ie.size=k){d:Nat}(m:o.dst=aa d)(q:o.guard=af)(g:fE N o.dst=ab){bf:uz}{xs:List aj}(i:bO φ x=.e (.one (.v (sT bf n))))(hl:σ[l]?=aa (.cq (iR E k bf n xs))){tx:Bool}{es':Nat->List C}(r:bO φ y=.e (.one (.c (.sl tx k 1 es')))){xv:List aj}(b:xv.length=k)(f:∀(M:Mem) (v:aj) (j:Nat) (c:C),(es' 0)[j]?=aa c->Rd M v c->xv[j]?=aa v/\cZ v=ab)(hb:(n+1)*ie.bytes<=140737488355328)(kk:∀a:uz,AK X N Qf (.ops all rest::K) .normal ((d,.e (.one (.v (sT a (n+1)))))::φ) (σ.set l (.cq (iR E k a (n+1) (xs++xv))))):AK X N Qf (.ops all (o::rest)::K) .normal φ σ :=
 AK.hand (ι:=uz) (λa=>.e (.one (.v (sT a (n+1))))) (λa=>σ.set l (.cq (iR E k a (n+1) (xs++xv)))) q g (.qV h p i hl r b f hb) λa=>by rw[m];exact kk a
def AK.MW(t:Nat)(E:aw)(k:Nat){i:Nat}(g:look φ t=.e (.one (.c (.sl ab i 0 es))))(kk:∀bf:uz,AK X N Qf (.code c::K) .normal ((t,.e (.one (.v (sT bf 0))))::φ) (σ++[.cq (iR E k bf 0 [])])):AK X N Qf (.code c::K) .normal φ σ:=by
 refine AW.DH (λs a d hh=>?_) kk;have f:=d.slot t;rw[g]at f;obtain⟨a0,cap,vs,h,_,_,b,_,_⟩:=(fI f).flat;have b:=b rfl;subst b;obtain⟨j,g2⟩:=hh.gz (B:=.cq (iR E k (.nil a0) 0 [])) (L:=⟨.nilFunc,[]⟩) (.refl _ _) rfl hh ⟨λ_=>af,⟨rfl,by simp,by simp,rfl,rfl⟩,by simp,by simp,by simp⟩ (by simp);refine⟨.nil a0,{s with β:=s.β++[⟨.nilFunc,[]⟩]},rfl,⟨d.size,d.defers.imp λ_ h1=>h1.mono g2.ext,λu=>?_⟩,j,g2⟩;simp only[look];cases hb:av t u with
 |false=>exact(d.slot u).mono g2.ext hh.len
 |true =>
  have e:=b7 hb;subst e;show Rd _ _ _;rw[h];exact Rd.val rfl
def AK.vt(t l:Nat){bf:uz}{xs:List aj}(es:Nat->List C)(w:look φ t=.e (.one (.v (sT bf n))))(hl:σ[l]?=aa (.cq (iR E k bf n xs)))(g:∀i,i<n->(es i).length=k/\∀M j c x,(es i)[j]?=aa c->xs[i*k+j]?=aa x->Rd M x c)(kk:AK X N Qf (.code c::K) .normal ((t,.e (.one (.c (.sl ae k n es))))::φ) (σ.set l .dead)):AK X N Qf (.code c::K) .normal φ σ:=by
 refine AK.ghost (λs a f hh=>?_) kk;obtain⟨L,M',m,q,p,z,F,G⟩:=iR.Fx hl es g s hh;have d:l<σ.length:=(b8.1 hl).1;have r:=f.slot t;rw[w]at r;have D:=Rd.fu r;have ex:Ext σ s (σ.set l .dead) {s with M:=M'}:=by
  refine⟨q,λl' B L' mc gm=>?_⟩;by_cases e:l=l'
  .subst e;rw[hl]at mc;cases mc;exact⟨.dead,L',by grind,gm,rfl⟩
  .exact⟨B,L',by grind,gm,.refl _ _⟩
 have st:Step σ s (σ.set l .dead) {s with M:=M'}:=by refine⟨ba _,λ_ _ _=>rfl,q,λb _ A o=>p b (A L (bL m)) o,λL h b hb=>.inr ⟨L,h,hb⟩,ex.box,rfl,rfl,rfl,rfl⟩
 refine⟨{s with M:=M'},rfl,⟨f.size,f.defers.imp λ_ h1=>h1.mono st.ext,λu=>?_⟩,⟨z,by simp[hh.len],?_,hh.eZ,hh.lt,hh.own⟩,st⟩
 .simp only[look];cases hb:av t u with
  |false=>exact(f.slot u).mono st.ext hh.len
  |true =>
   have e:=b7 hb;subst e;show Rd _ _ _;grind
 .intro l' B L' mc gm;by_cases e:l=l'
  .subst e;rw[fO d]at mc;cases mc;trivial
  .rw[kJ e]at mc;exact(hh.box l' B L' mc gm).carry ex hh.len λb hb=>⟨rfl,p b λy=>e (hh.eZ l l' L L' m gm b y hb)⟩
end
structure iq(k n:Nat)(es:Nat->List C)(xs:List aj):Prop where
 len:xs.length=n*k
 wid:∀i,i<n->(es i).length=k
 at':∀i,i<n->∀j c,(es i)[j]?=aa c->∃x,xs[i*k+j]?=aa x/\∀M,Rd M x c
def iq.rd{xs:List aj}(h:iq k n es xs):∀i,i<n->(es i).length=k/\∀M j c x,(es i)[j]?=aa c->xs[i*k+j]?=aa x->Rd M x c:=λi hi =>
 ⟨h.wid i hi,λM j c x hj hx=>by obtain⟨y,h1,h2⟩:=h.at' i hi j c hj;grind⟩
def PD(v:aj):A->A
 |.vec 0 _ _ _=>.v v
 |a=>a
def JP(v:aj):E1->E1
 |.one a=>.one (PD v a)
 |e=>e
def Eb(v:aj):List E1->List E1
 |[]=>[]
 |a::r=>JP v a::Eb v r
def PE(v:aj):D->D
 |.e x=>.e (JP v x)
 |.fz xs=>.fz (Eb v xs)
 |.any=>.any
def mn(n:Nat):A->Bool
 |.vec 0 _ b _=>av b n
 |a=>vr a
def qt(n:Nat):E1->Bool
 |.one a=>mn n a
 |e=>IF e
def po(n:Nat):List E1->Bool
 |[]=>ab
 |a::r=>match qt n a with|true=>po n r|false=>ae
def va(n:Nat):D->Bool
 |.e x=>qt n x
 |.fz xs=>po n xs
 |.any=>ab
section
variable {L:Loc}
def JQ(g:s.β[0]?=aa L){a:A}(h:mn n a=ab)(r:gb [bm.vec E k n es] s v a):gb σ' s' v (PD L.v a):=by
 cases a with
 |c x=>exact qd h r
 |any=>exact r
 |vec l k' n' es' =>
  cases l with
  |zero =>
   obtain⟨i,_,b⟩:=r;have b:=b E k n es rfl;have e:=b7 h;obtain⟨L',f,d⟩:=b.2 e.symm;rw[g]at f;cases f;show Rd _ _ _;rw[d];exact .val (d▸i.cell)
  |succ l=>simp[mn,vr]at h
 |ptr=>simp[mn,vr]at h
 |ref=>simp[mn,vr]at h
 |bp=>simp[mn,vr]at h
def B8(b:s.β[0]?=aa L){x:E1}(h:qt n x=ab)(r:nD [bm.vec E k n es] s v x):nD σ' s' v (JP L.v x):=by
 cases x with
 |one a=>exact JQ b h r
 |agg cs=>exact zI (x:=.agg cs) h r
def yI(a:s.β[0]?=aa L):∀{vs:List aj}{cs:List E1},po n cs=ab->gF [bm.vec E k n es] s vs cs->gF σ' s' vs (Eb L.v cs)
 |[],[],_,_=>trivial
 |[],_::_,_,r=>r.elim
 |_::_,[],_,r=>r.elim
 |v::vs,c::cs,h,r=>by
  simp only[po]at h;cases b:qt n c with
  |false=>grind
  |true=>simp only[b]at h;exact⟨B8 a b r.1,yI a h r.2⟩
def B9(a:s.β[0]?=aa L){d:D}(h:va n d=ab)(r:dm [bm.vec E k n es] s v d):dm σ' s' v (PE L.v d):=by
 cases d with
 |e x=>exact B8 a h r
 |fz xs=>obtain⟨vs,b,c⟩:=r;exact⟨vs,b,yI a h c⟩
 |any=>trivial
end
def vb:List ResultVar->Bool
 |[]=>ab
 |.tmp _::r=>vb r
 |.cell _ _::_=>ae
def uc{P:aO}{a:Act}:∀{rs:List ResultVar},vb rs=ab->∃vs,(∀w,(rs.mapM (fS a)).run P w=Result.ok vs w)/\cX P (rs.mapM (fS a))
 |[],_=>⟨[],by simp,by rw[List.mapM_nil];exact .pure⟩
 |.tmp t::r,h=>by
  obtain⟨vs,b,c⟩:=uc (P:=P) (a:=a) (rs:=r) h;refine⟨a.tmps.getD t ah::vs,λw=>?_,?_⟩
  .simp only[kW,bT,fS,cV,cm,b]
  .rw[kW];exact .bind .pure λ_=>.bind c λ_=>.pure
def uw.tmp{f:aK}{fn:Func}{fr:aV}(h:uw P f fr v s)(p:P.funcs[f]?=aa fn)(i:vb fn.results.toList=ab)(hm:∀b o u,s.M b o=aa u->s.w.cell? ⟨b,o,af⟩=aa u):uw P f fr v s':=by
 obtain⟨h1,h2,k,l,c,m,g⟩:=h;have e:c=fn:=by grind
 subst e;let a:Act:={tmps:=fr.tmps,defers:=[]}
 obtain⟨vs,k1,j⟩:=uc (P:=P) (a:=a) i;have e1:∀w,(c.results.mapM (fS a)).run P w=Result.ok vs.toArray w:=λw=>by grind[Array.mapM_eq_mapM_toList,Sem.run_map,Go.Result.andThen_ok]
 have e2:∀w,(results c fr.tmps).run P w=.ok (if h:vs.toArray.size=1 then vs.toArray[0]else .tuple vs.toArray) w:=λw=>by unfold results;rw[bT];refine(dy (λr=>Result.andThen r _) (e1 w)).trans ?_;simp
 have e3:cX P (results c fr.tmps):=by
  unfold results;have e:cX P (c.results.mapM (fS a)):=by rw[qP];exact .map j
  exact .bind e λ_=>.pure
 have d:=(g s.w hm).1;rw[e2]at d;cases d;exact⟨h1,h2,k,l,c,m,λw _=>⟨e2 w,λe n=>by rw[e3 w #[]]at n;grind⟩⟩
def Ev.thaw{X:Cx P}[X.im]{f:aK}{args:List D}{res:D}(h:Ev X f args [] res [.vec E k n es]){fn:Func}(hf:P.funcs[f]?=aa fn)(ht:vb fn.results.toList=ab)(I:va n res=ab)(J:∀i,i<n->(es i).length=k/\∀c∈es i,uy c=ab):
  dO (ι:={q:uz×List aj // iq k n es q.2}) X f args [] (λq=>PE (sT q.1.1 n) res) (λq=>[.cq (iR E k q.1.1 n q.1.2)]):=by
 refine⟨h.1,λs vs hr hh S cs hS=>h.2 s vs hr hh S cs λfr v s' hl lX jq st=>?_⟩;have hβ0:s.β=[]:=jr hh.len;have hlen:s'.β.length=1:=jq.len;obtain⟨L,O⟩:∃L,s'.β=[L]:=by
  match hq:s'.β with
  |[L]=>grind
  |[]=>grind
  |_::_::_=>grind
 have Y:s'.β[0]?=aa L:=by grind
 obtain⟨Yx,Yu⟩:=jq.box 0 _ L rfl Y;rcases Yu with⟨⟨Qh,V3⟩,z⟩|⟨b,cap,cells,Ts,C,T,FI⟩
 .subst V3;obtain⟨a,cap,vs0,hv,GN,MI,htc,_⟩:=z.flat;have G:cap=0:=htc rfl;subst G;let y:St:={s' with β:=[⟨.nilFunc,[]⟩]}
  have hg:eO s' y:=⟨rfl,λ_ _ _ h=>h,λ_ _ _=>rfl,jq.mem,λb hb=>by grind⟩
  have t:iq k 0 es []:=⟨by simp,λi hi=>by omega,λi hi=>by omega⟩
  refine .ghost hg (hS ⟨(.nil a,[]),t⟩ fr v y (hl.tmp hf ht jq.mem) ?_ ?_ ?_)
  .have:=B9 (σ':=[bm.cq (iR E k (.nil a) 0 [])]) (s':=y) Y I lX;rw[hv]at this;exact this
  .refine⟨jq.mem,rfl,λl B L' hB gm=>?_,?_,by grind,λb hb=>⟨(jq.own b hb).1,by grind⟩⟩
   .cases l with
    |zero=>cases hB;cases gm;exact⟨λ_=>af,⟨rfl,by simp,by simp,rfl,rfl⟩,by simp,by simp,by simp⟩
    |succ l=>grind
   grind
  .refine⟨st.size,st.keep,st.mem,st.iO,λL' gm b hb=>?_,λl B L' hB=>by grind,st.os,st.tape,st.output,st.own⟩;grind
 .subst Ts;have Q:b∈(⟨.slice (aa ⟨b,0,af⟩) n cap,[b]⟩:Loc).bs:=by simp
  have U:s.w.heap.size<=b:=by
   rcases st.uW _ (by grind) b Q with h1|⟨L0,h1,_⟩
   .exact h1
   grind
  have Wa:b<s'.w.heap.size:=jq.lt _ (by grind) b Q;obtain⟨a1,abx,m,hv1,r,R,_,hF,hm⟩:=Yx.flat;cases hv1;have N:m.length=n*k:=hF.len;have abz:∀p u,m[p]?=aa u->cells[p]?=aa u:=λp u hp=>by obtain⟨b1,abA,e,Xk⟩:=hm p u hp;cases e;have:=jq.mem _ _ _ Xk;simp only[aW,C]at this;simpa using this
  have hnk:n*k<=cells.length:=by rw[T];exact ez _ r
  have Pw:cells.take (n*k)=m:=by apply gQ;grind
  have Qc:m++cells.drop (n*k)=cells:=by grind[List.take_append_drop]
  have t:iq k n es m:=by refine⟨N,λi hi=>(J i hi).1,λi hi j c hj=>?_⟩;obtain⟨u,u1,u2⟩:=hF.rd i hi j c hj;grind[qd]
  have H:∀x∈m,cZ x=ab:=λx hx=>by
   obtain⟨p,hp,rfl⟩:=dH hx;have hk:0<k:=by grind
   have hi:p / k<n:=pO (by grind);have S8:p / k*k+p % k=p:=pU p k;have hj:p % k<(es (p / k)).length:=by rw[(J _ hi).1];exact iA _ hk
   obtain⟨u,u1,u2⟩:=t.at' _ hi _ _ (bg hj);rw[S8,bg hp]at u1;cases u1;exact(u2 s.M).cell
  have A:∀d o v',s.M d o=aa v'->d≠b:=λd o v' hm' e=>by have:=hh.block hm';omega
  let K:Mem:=λd o=>if d=b then af else s'.M d o;let V:St:={s' with β:=[],own:=λx=>s'.own x∨x=b}
  let s2:St:={V with M:=K}
  let y:St:={s' with β:=[⟨.nilFunc,[b]⟩],M:=K}
  have F:∀d o v',K d o=aa v'->s'.M d o=aa v':=λd o v' h'=>by grind
  have Xc:eO s' V:=⟨rfl,λ_ _ _ h=>h,λ_ _ _=>rfl,jq.mem,λd g=>by
   rcases g with(g|g)|⟨L',gm,_⟩
   .grind
   .exact .inr ⟨_,by rw[O];simp;rfl,by grind⟩
   grind⟩
  have W:mL V s2:=⟨rfl,rfl,rfl,F,λd o v' h'=>by grind⟩
  have Z:eO s2 y:=⟨rfl,λ_ _ _ h=>h,λ_ _ _=>rfl,λd o v' h'=>jq.mem _ _ _ (F _ _ _ h'),λd g=>by grind⟩
  refine .ghost Xc (.forget Cx.im.ok W (.ghost Z (hS ⟨(.row b cap,m),t⟩ fr v y (hl.tmp hf ht jq.mem) ?_ ?_ ?_)))
  .exact B9 (L:=⟨.slice (aa ⟨b,0,af⟩) n cap,[b]⟩) Y I lX
  .refine⟨λd o v' h'=>jq.mem _ _ _ (F _ _ _ h'),rfl,λl B L' hB gm=>?_,?_,λL' gm d g=>?_,λd g=>⟨(jq.own d g).1,λL' gm=>?_⟩⟩
   .cases l with
    |zero =>
     cases hB;cases gm;refine⟨λd=>if d=b then aa (.cells (m++cells.drop (n*k)).toArray E (0,0))else af,⟨rfl,H,N,r,R,cells.drop (n*k),?_,rfl⟩,λd o g=>?_,λd=>?_,λd g o=>?_⟩
     .grind
     .grind
     .by_cases e:d=b<;>simp[e]
     grind
    |succ l=>grind
   .grind
   .grind
   .simp[y]at gm;subst gm;have:=(jq.own d g).2 _ (by rw[O];simp;rfl);grind
  .refine⟨st.size,st.keep,λd o v' h'=>?_,λd g hn o=>?_,λL' gm d g=>?_,λl B L' hB=>by grind,st.os,st.tape,st.output,st.own⟩
   .simp only[y,K,a9 (A d o v' h')];exact st.mem _ _ _ h'
   .have:d≠b:=by omega
    simp only[y,K,a9 this];exact st.iO d g hn o
   grind
section
variable {X:Cx P}
def AK.fact{p:Prop}(h:∀s,aD σ s->p)(k:p->AK X N Qf (.code c::K) .normal φ σ):AK X N Qf (.code c::K) .normal φ σ :=
 λs a b hh=>k (h s hh) s a b hh
def AK.Pe{p:Prop}(h:∀s,aD σ s->p)(k:p->AK X N Qf (.ops all rest::K) .normal φ σ):AK X N Qf (.ops all rest::K) .normal φ σ :=
 λs a b hh=>k (h s hh) s a b hh
def iR.len{E:aw}{k n l:Nat}{bf:uz}{xs:List aj}(hl:σ[l]?=aa (.cq (iR E k bf n xs)))(s:St)(hh:aD σ s):xs.length=n*k/\n<=9223372036854775807/\(0<n->∃b cap,bf=.row b cap)/\∀a,bf=.nil a->n=0:=by
 have c:l<s.β.length:=by rw[hh.len];grind
 obtain⟨ch,e,_⟩:=hh.box l _ _ hl (bg c);cases bf with
 |nil a=>obtain⟨_,_,f,rfl,_⟩:=e;grind
 |row b cap=>obtain⟨_,_,f,g,h,_⟩:=e;grind
def qF:List A->Bool
 |[]=>ab
 |.c x::r=>match uy x with|true=>qF r|false=>ae
 |_=>ae
def nR(vs:List aj)(cs:List A):Prop:=vs.length=cs.length/\∀(j:Nat)(c:C),cs[j]?=aa (A.c c)->∃v,vs[j]?=aa v/\∀M,Rd M v c
theorem nR.of{σ:List bm}{s:St}:∀{vs:List aj}{cs:List A},qF cs=ab->eb σ s vs cs->nR vs cs
 |[],[],_,_=>⟨rfl,λj c h=>by grind⟩
 |[],_::_,_,r=>r.elim
 |_::_,[],_,r=>r.elim
 |v::vs,.c x::cs,h,r=>by
  simp only[qF]at h;cases a:uy x with
  |false=>grind
  |true =>
   simp only[a]at h;obtain⟨h1,h2⟩:=nR.of h r.2;refine⟨by grind,λj c hj=>?_⟩;cases j with
   |zero=>simp at hj;subst hj;exact⟨v,rfl,λM=>qd a r.1⟩
   |succ j=>grind
 |_::_,.ptr _ _::_,h,_=>by simp[qF]at h
 |_::_,.vec _ _ _ _::_,h,_=>by simp[qF]at h
 |_::_,.ref _::_,h,_=>by simp[qF]at h
 |_::_,.bp _ _::_,h,_=>by simp[qF]at h
 |_::_,.any::_,h,_=>by simp[qF]at h
theorem eb.cZ{σ:List bm}{s:St}:∀{vs:List aj}{cs:List A},eb σ s vs cs->∀v∈vs,AM.cZ v=ab
 |[],[],_,v,h=>by grind
 |[],_::_,r,_,_=>r.elim
 |_::_,[],r,_,_=>r.elim
 |u::vs,c::cs,r,v,h=>by
  rcases dC.1 h with rfl|h
  .exact gb.cell r.1
  .exact eb.cZ r.2 v h
def jR.DJ(hT:dg P T)(l:Nat){cap:Nat}{xs:List aj}{new:List A}{i:TI}(h:o.op=.store t x y)(hi:bH T t=aa i)(hx:bO φ x=.e (.one (.v (.pointer (aa ⟨b,off,af⟩)))))(hy:kN (bO φ y)=aa new)(MP:new.length=i.size)(W:qF new=ab)(hl:σ[l]?=aa (.cq (iR E k (.row b cap) n xs)))(Tm:off+new.length<=xs.length):
  jR P N o φ σ (ι:={vs:List aj // nR vs new}) (λ_=>.any) (λvs=>σ.set l (.cq (iR E k (.row b cap) n (xs.take off++vs.1++xs.drop (off+vs.1.length))))):=by
 intro s a hf hh;have F:=c8 hf x;rw[hx]at F;have F:=Rd.fu F;have B:=lq hy (c8 hf y);have Qe:l<σ.length:=(b8.1 hl).1;have J:l<s.β.length:=by rw[hh.len];grind
 have S:=bg J;generalize s.β[l]=L at S;obtain⟨ch,hH,C,Qh,U⟩:=hh.box l _ L hl S;obtain⟨f,V9,R,Tl⟩:=iR.lookup hH;obtain⟨Y,Z,Z8,M,V,_⟩:=hH;have G:b∈L.bs:=(Qh b).2 (by grind);have m:=C b _ R;let vs:=(a.eval y).cells.toList;have H:nR vs new:=nR.of W B;have Pc:vs.length=new.length:=H.1;have q:off+0+vs.length<=(xs++f).toArray.size:=by grind
 have D:=run_storeCells_at P b off E vs 0 (xs++f).toArray s.w m q B.cell;simp only[ia]at D;have z:(xs++f).take off++vs++(xs++f).drop (off+vs.length)=(xs.take off++vs++xs.drop (off+vs.length))++f:=by grind
 rw[z]at D;have Z9:(xs.take off++vs++xs.drop (off+vs.length)).length=xs.length:=by grind
 have Qb:=setRow_heap s.w b (xs++f).toArray ((xs.take off++vs++xs.drop (off+vs.length))++f).toArray E (0,0) m;have I:∀c,c≠b->(s.w.setRow b ((xs.take off++vs++xs.drop (off+vs.length))++f).toArray).heap[c]?=s.w.heap[c]?:=λc g=>setRow_other s.w b c _ g;obtain⟨t1,t2⟩:=hh.iJ (l:=l) (H':=iR E k (.row b cap) n (xs.take off++vs++xs.drop (off+vs.length))) (L':=L) (w':=s.w.setRow b ((xs.take off++vs++xs.drop (off+vs.length))++f).toArray) hl S rfl (by simp)
  (λc g hn=>I c (by grind)) (λc g=>.inl g)
  ⟨λc=>if c=b then aa (.cells ((xs.take off++vs++xs.drop (off+vs.length))++f).toArray E (0,0))else af,⟨Y,λx hx=>by
   grind[eb.cZ],by grind,M,V,f,by grind,rfl⟩,λc o g=>by
   simp_all,λc=>by simp_all⟩ rfl rfl rfl
 have K:(a.eval y).cells.size=i.size:=by grind
 refine⟨⟨vs,H⟩,.skip,_,ah,?_,.inr ⟨rfl,rfl⟩,ar,t1,t2,?_⟩
 .have O:(storeCells ⟨b,off,af⟩ (a.eval y).cells.toList).run P s.w=_:=D;simp[ak,h,F,Instr.storeAt,Instr.sureAddr,storeVar,(hT t i hi).run_sizeOf,K,O]
 .intro ev p;have e:ak a.eval o=(do storeVar t ⟨b,off,af⟩ (a.eval y);pure .skip):=by simp[ak,h,F,Instr.storeAt,Instr.sureAddr]
  rw[e]at p;have Q:ev∈(storeCells ⟨b,off,af⟩ (a.eval y).cells.toList).events P s.w #[]:=by
   simp only[storeVar,aP,(hT t i hi).run_sizeOf,K,aU,events_sizeOf,cU,fe,bS,bT,cm,Sem.events_pure]at p;generalize(storeCells ⟨b,off,af⟩ (a.eval y).cells.toList).run P s.w=r at p;cases r with
   |ok v w'=>simpa using p
   |halt x w'=>simpa using p
  rcases ek (a.eval y).cells.toList 0 (xs++f).toArray s.w #[] m q B.cell ev Q with MM|⟨j,_,_,rfl⟩
  .grind
  .exact k6 (bL S) G (U b G _)
def AK.DJ{T:List (Nat×TI)}(j:dg P T)(l:Nat){t:aw}{x y:aC}{E:aw}{k n b cap off:Nat}{xs:List aj}{new:List A}{i:TI}(h:o.op=.store t x y)(hi:bH T t=aa i)(m:bO φ x=.e (.one (.v (.pointer (aa ⟨b,off,af⟩)))))(q:kN (bO φ y)=aa new)(c:new.length=i.size)(f:qF new=ab)(hl:σ[l]?=aa (.cq (iR E k (.row b cap) n xs)))(a:off+new.length<=xs.length)(p:o.guard=af)(g:fE N o.dst=ab)(kk:∀vs,nR vs new->AK X N Qf (.ops all rest::K) .normal (kp o.dst .any φ) (σ.set l (.cq (iR E k (.row b cap) n (xs.take off++vs++xs.drop (off+vs.length)))))):AK X N Qf (.ops all (o::rest)::K) .normal φ σ :=
 AK.hand _ _ p g (jR.DJ j l h hi m q c f hl a) λvs=>kk vs.1 vs.2
def AK.swap(i j:Nat){H1 H2:aj->(Nat->Option Obj)->Prop}(F:i≠j)(hi:σ[i]?=aa (.cq H1))(hj:σ[j]?=aa (.cq H2))(h1:∀v ch,H1 v ch->v=.nilFunc)(h2:∀v ch,H2 v ch->v=.nilFunc)(kk:AK X N Qf (.code c::K) .normal φ ((σ.set i (.cq H2)).set j (.cq H1))):AK X N Qf (.code c::K) .normal φ σ:=by
 refine AK.ghost (λs a y hh=>?_) kk;have C:i<σ.length:=(b8.1 hi).1;have A:j<σ.length:=(b8.1 hj).1;have r:i<s.β.length:=by rw[hh.len];grind
 have w:j<s.β.length:=by rw[hh.len];grind
 obtain⟨k,x⟩:∃L,s.β[i]?=aa L:=⟨_,bg r⟩;obtain⟨m,t⟩:∃L,s.β[j]?=aa L:=⟨_,bg w⟩;have D:=hh.box i _ k hi x;have E:=hh.box j _ m hj t;have I:k.v=.nilFunc:=by obtain⟨ch,G,_⟩:=D;grind
 have H:m.v=.nilFunc:=by obtain⟨ch,G,_⟩:=E;grind
 let s':St:={s with β:=(s.β.set i m).set j k}
 have o:∀l,((σ.set i (.cq H2)).set j (.cq H1))[l]?=if l=j then aa (.cq H1)else if l=i then aa (.cq H2)else σ[l]?:=λl=>by grind
 have n:∀l,s'.β[l]?=if l=j then aa k else if l=i then aa m else s.β[l]?:=λl=>by grind
 have z:∀L∈s'.β,L∈s.β:=λL f=>by grind
 have ex:Ext σ s ((σ.set i (.cq H2)).set j (.cq H1)) s':=by
  refine⟨λ_ _ _ h=>h,λl B L g f=>?_⟩;rw[o,n];by_cases e:l=j
  .subst e;rw[hj]at g;cases g;rw[t]at f;cases f;exact⟨.cq H1,k,by simp,by simp,by show k.v=_;grind⟩
  .by_cases p:l=i
   .subst p;rw[hi]at g;cases g;rw[x]at f;cases f;exact⟨.cq H2,m,by simp[e],by simp[e],by show m.v=_;grind⟩
   .exact⟨B,L,by grind,by grind,.refl _ _⟩
 have st:Step σ s ((σ.set i (.cq H2)).set j (.cq H1)) s':=by exact⟨ba _,λ_ _ _=>rfl,λ_ _ _ h=>h,λ_ _ _ _=>rfl,λL h b hb=>.inr ⟨L,z L h,hb⟩,ex.box,rfl,rfl,rfl,rfl⟩
 refine⟨s',rfl,⟨y.size,y.defers.imp λ_ h1=>h1.mono ex,λu=>(y.slot u).mono ex hh.len⟩,⟨hh.mem,by simp[s',hh.len],?_,?_,λL f b hb=>hh.lt L (z L f) b hb,λb hb=>⟨(hh.own b hb).1,λL f=>(hh.own b hb).2 L (z L f)⟩⟩,st⟩
 .intro l B L g f;rw[o]at g;rw[n]at f;split at g
  .rename_i e;rw[br e]at f;cases g;cases f;exact D
  .rename_i e;rw[a9 e]at f;split at g
   .rename_i p;rw[br p]at f;cases g;cases f;exact E
   .rename_i p;rw[a9 p]at f;exact(hh.box l B L g f).carry ex hh.len λb hb=>⟨rfl,λ_=>rfl⟩
 .intro l l' L1 L2 q1 q2 b hb ov;rw[n]at q1 q2;have key:∀l L,(if l=j then aa k else if l=i then aa m else s.β[l]?)=aa L->s.β[if l=j then i else if l=i then j else l]?=aa L:=λl L q=>by grind
  have:=hh.eZ _ _ L1 L2 (key l L1 q1) (key l' L2 q2) b hb ov;by_cases e1:l=j<;>by_cases e2:l'=j<;>by_cases e3:l=i<;>by_cases J:l'=i<;>simp_all
def AK.IH(R:dg P T){i:TI}{L H:IntKind}(h:o.op=.makeSlice t x y)(hi:bH T t=aa i)(hd:i.desc=.slice E)(W:bH T E=aa ie)(Z:bO φ x=.e (.one (.c (.int L n))))(hy:bO φ y=.e (.one (.c (.int H n))))(hb:n*ie.bytes<=140737488355328)(V:n<=140737488355328)(hg:o.guard=af)(hN:fE N o.dst=ab)(kk:∀b xs,AK X N Qf (.ops all rest::K) .normal (kp o.dst (.e (.one (.v (sT (.row b n) n)))) φ) (σ++[.cq (iR E ie.size (.row b n) n xs)])):AK X N Qf (.ops all (o::rest)::K) .normal φ σ:=by
 refine AK.hand (ι:=Nat×List aj) (λq=>.e (.one (.v (sT (.row q.1 n) n)))) (λq=>σ++[.cq (iR E ie.size (.row q.1 n) n q.2)]) hg hN (λs a Q hh=>?_) λq=>kk q.1 q.2;have l:=c8 Q x;rw[Z]at l;have l:=fI l;generalize A:a.eval x=vx at l;cases l;have k:=c8 Q y;rw[hy]at k;have k:=fI k;generalize B:a.eval y=vy at k;cases k;have j:=(R t i hi).SH;rw[hd]at j;obtain⟨g,z,D,z2,z3,S,U,z6,z7⟩:=(R E ie W).info;have f:(g.bytes:Int)*(n:Int)<=281474976710656:=by grind
 have m:=run_make (P:=P) (w:=s.w) t E g z j D S L H n n (by omega) (rJ _) f (by omega);simp only[bM]at m;let xs:=(madeCells z.cells (n*g.size)).toList;have J:xs.length=n*ie.size:=by grind[size_madeCells]
 have hzc:∀v∈z.cells.toList,cZ v=ab:=eb.cZ (kr (σ:=σ) (s:=s) U);have V9:z.cells.toList.length=ie.size:=by have:=dy List.length U;grind
 have O:∀v∈xs,cZ v=ab:=by intro v Y;simp only[xs,madeCells,Array.toList_map,jC]at Y;grind[Nat.mod_lt]
 have hB:eK (σ++[.cq (iR E ie.size (.row s.w.heap.size n) n xs)]) {s with w:=s.w.alloc (.cells xs.toArray E),β:=s.β++[⟨.nilFunc,[s.w.heap.size]⟩]} (.cq (iR E ie.size (.row s.w.heap.size n) n xs)) ⟨.nilFunc,[s.w.heap.size]⟩:=by
  refine⟨λr=>if r=s.w.heap.size then aa (.cells (xs++[]).toArray E (0,0))else af,⟨rfl,O,J,ba _,by omega,[],by grind,rfl⟩,λr o f=>?_,λr=>?_,λr f o=>?_⟩
  .by_cases e:r=s.w.heap.size
   .subst e;simp only[bY]at f;grind[dG]
   grind
  .by_cases e:r=s.w.heap.size<;>simp[e]
  .simp at f;subst f;cases hm:s.M s.w.heap.size o with
   |none=>rfl
   |some v=>have:=hh.block hm;omega
 have C:aD σ {s with w:=s.w.alloc (.cells xs.toArray E)}/\Step σ s σ {s with w:=s.w.alloc (.cells xs.toArray E)} :=
  hh.grow (by simp) (λb hb=>cO s.w _ hb) (λb hb o=>rfl) (λb hb o v hm=>by have:=hh.block hm;omega) rfl rfl rfl
 obtain⟨g1,g2⟩:=C.1.gz C.2 rfl hh hB (λb hb=>by simp_all)
 refine⟨(s.w.heap.size,xs),.value (.slice (aa ⟨s.w.heap.size,0,af⟩) n n),_,_,?_,.inl rfl,Rd.val rfl,g1,g2,?_⟩
 .simp[ak,h,A,B,m,xs]
 .have e:ak a.eval o=(do pure (.value (<-Instr.makeSlice t (.int L n) (.int H n)))):=by simp[ak,h,A,B]
  rw[e];refine er ?_;intro e p;have hu:∀u,(underlying t).run P u=.ok (.slice E) u:=λu=>by simp[underlying,j]
  have F:∀u,(typeInfo E).run P u=.ok g u:=λu=>by simp[typeInfo,D]
  have I:∀u,(zeroValue E).run P u=.ok z u:=λu=>by simp[zeroValue,typeInfo,D,S]
  have G:∀u,(sizeOf E).run P u=.ok g.size u:=λu=>by simp[sizeOf,typeInfo,D]
  have wl:IntKind.i64.wrap (n:Int)=n:=by grind[IntKind.wrap_i64]
  have n1:¬(n:Int)<0:=by omega
  have n2:¬(281474976710656<(g.bytes:Int)*n):=by omega
  simp[Instr.makeSlice,hu,F,G,asInt,asIntOf,wl,n1,n2]at p;rw[I]at p;simp only[aU,(cX.newRow (P:=P)) _ _,ite_self]at p;unfold askRoom at p;split at p
  .have:e=⟨.mark .noRoom,ae,ab⟩:=by simpa using p
   rw[this];exact .inl rfl
  .simp at p
end
section
variable {d:Nat}{u:aj}
end
def uA{xs vs:List α}{a:Nat}(h:a+vs.length<=xs.length)(p:Nat):(xs.take a++vs++xs.drop (a+vs.length))[p]?=if a<=p/\p<a+vs.length then vs[p-a]? else xs[p]?:=by
 have b:(xs.take a).length=a:=by grind
 grind
def iq.fg{es':Nat->List C}{xs:List aj}{new:List A}(h:iq k n es xs)(i j:Nat)(hi:i<n)(o:nR vs new)(p:j+new.length<=k)(x:∀a,a<n->a≠i->es' a=es a)(hl:(es' i).length=k)(y:∀(q:Nat) (c:C),(es' i)[q]?=aa c->(j<=q/\q<j+new.length/\new[q-j]?=aa (A.c c))∨(¬(j<=q/\q<j+new.length)/\(es i)[q]?=aa c)):iq k n es' (xs.take (i*k+j)++vs++xs.drop (i*k+j+vs.length)):=by
 have r:i*k+k<=n*k:=by rw[<-kM];exact ez _ hi
 have w:=o.1;have v:=h.len;have f:i*k+j+vs.length<=xs.length:=by omega
 refine⟨by grind,λa b=>?_,λa b q c z=>?_⟩
 .by_cases e:a=i
  .grind
  .rw[x a b e];exact h.wid a b
 .rw[uA f];by_cases e:a=i
  .subst e;rcases y q c z with⟨h1,h2,t⟩|⟨h1,h2⟩
   .rw[br (by omega),show a*k+q-(a*k+j)=q-j by omega];exact o.2 _ c t
   .rw[a9 (by omega)];exact h.at' a b q c h2
  .have g:(es a)[q]?=aa c:=by grind
   have s:q<k:=by rw[<-h.wid a b];grind
   rw[a9 ?_]
   .exact h.at' a b q c g
   .rcases Nat.lt_or_gt_of_ne e with l|m
    .have:a*k+k<=i*k:=by rw[<-kM];exact ez _ l
     omega
    .have:i*k+k<=a*k:=by rw[<-kM];exact ez _ m
     omega
def iq.snoc{es':Nat->List C}{xs:List aj}(h:iq k n es xs)(j:∀i,i<n->es' i=es i)(hl:(es' n).length=k)(g:vs.length=k)(m:∀(q:Nat)(c:C),(es' n)[q]?=aa c->∃v,vs[q]?=aa v/\∀M,Rd M v c):iq k (n+1) es' (xs++vs):=by
 have f:=h.len;refine⟨by grind,λi hi=>?_,λi hi q c o=>?_⟩
 .by_cases e:i=n
  .grind
  .rw[j i (by omega)];exact h.wid i (by omega)
 .by_cases e:i=n
  .grind
  .have a:i<n:=by omega
   have b:(es i)[q]?=aa c:=by grind
   have l:q<k:=by rw[<-h.wid i a];grind
   have:i*k+k<=n*k:=by rw[<-kM];exact ez _ a
   rw[js (by omega)];exact h.at' i a q c b
def zP(T:List (Nat×TI))(φ:Fr):List ResultVar->Option (List D)
 |[]=>aa []
 |.tmp t::r=>match zP T φ r with
  |some q=>aa (look φ t::q)
  |none=>af
 |.cell ad t::r=>match zP T φ r with
  |some q=>match look φ ad with
   |.e (.one (.c (.rp cs)))=>match bH T t with
    |some i=>match mM i (cs.map A.c)with
     |some e=>aa (.e e::q)
     |none=>af
    |none=>af
   |_=>af
  |none=>af
def zQ{P:aO}{T:List (Nat×TI)}(O:dg P T){N:Nat}{σ:List bm}{s:St}{φ:Fr}{a:Act}(f:cr N σ s φ a):∀{rs:List ResultVar}{ds:List D},zP T φ rs=aa ds ->
  ∃vs,cn σ s vs ds/\∀w,(∀b o u,s.M b o=aa u->w.cell? ⟨b,o,af⟩=aa u)->(rs.mapM (fS a)).run P w=Result.ok vs w/\∀es,∀e∈(rs.mapM (fS a)).events P w es,e∈es∨∃b o u,e=⟨.cell ⟨b,o,af⟩,ae,ae⟩/\s.M b o=aa u
 |[],ds,h=>by cases h;exact⟨[],ar,λw _=>⟨by simp,λes e l=>.inl (by simpa using l)⟩⟩
 |.tmp t::r,ds,h=>by
  simp only[zP]at h;cases K:zP T φ r with
  |none=>grind
  |some q =>
   simp[K]at h;subst h;obtain⟨vs,U,h2⟩:=zQ O f K;refine⟨a.tmps.getD t ah::vs,⟨f.slot t,U⟩,λw p=>?_⟩;obtain⟨k1,Q⟩:=h2 w p;refine⟨by simp only[kW,bT,fS,cV,cm,k1],λes e l=>Q es e ?_⟩;simpa[kW,fS,k1]using l
 |.cell ad t::r,ds,h=>by
  simp only[zP]at h;cases K:zP T φ r with
  |none=>grind
  |some q =>
   simp only[K]at h;have hs:=f.slot ad;generalize look φ ad=x at h hs;split at h
   case h_2=>cases h
   rename_i cs;cases hi:bH T t with
   |none=>grind
   |some i =>
    simp only[hi]at h;cases k:mM i (cs.map A.c)with
    |none=>grind
    |some e0 =>
     simp[k]at h;subst h;obtain⟨vs,U,h2⟩:=zQ O f K;have G:=fI hs;generalize Z:a.tmps.getD ad ah=vx at G;cases G;rename_i b off g V My;let y:=(bk cs.length).map g;have I:eb σ s y (cs.map A.c):=by
      have key:∀(n:Nat) (ds:List C),(∀j c,ds[j]?=aa c->Rd s.M (g (n+j)) c)->eb σ s ((bk ds.length).map λj=>g (n+j)) (ds.map A.c):=by
       intro n ds;induction ds generalizing n with
       |nil=>intro _;trivial
       |cons d ds ih =>
        intro hd;rw[fQ,zr];refine⟨hd 0 d rfl,?_⟩;have:=ih (n+1) (λj c m=>by have:=hd (j+1) c (by grind);grind);grind[Function.comp_def]
      have:=key 0 cs (by grind);grind
     have F:∀(j:Nat) (v:aj),y[j]?=aa v->s.M b (off+j)=aa v:=λj v m=>by
      simp only[y,nJ]at m;by_cases H:j<cs.length
      .simp[H]at m;subst m;exact V j cs[j] (bg H)
      grind
     let w0:aA:={s.w with heap:=s.w.heap}
     have L:∃v,nD σ s v e0/\∀w,(∀b o u,s.M b o=aa u->w.cell? ⟨b,o,af⟩=aa u)->(loadVar t ⟨b,off,af⟩).run P w=.ok v w:=by
      have hg:=O t i hi;cases S:i.agg<;>simp only[mM,S]at k
      .cases B:eD 0 (cs.map A.c)with
       |none=>grind
       |some a0 =>
        simp[B]at k;subst k;obtain⟨v,hv,W⟩:=I.get (c7 B);refine⟨v,W,λw p=>?_⟩;have:=p _ _ _ (F 0 v hv);simp only[loadVar,bT,hg.jY,cm,S];grind[run_load]
      .cases B:oy i.size (cs.map A.c)with
       |none=>grind
       |some r0 =>
        simp[B]at k;subst k;obtain⟨q1,q2⟩:=mW B;have E:=I.take i.size;rw[<-q1]at E;have hl:(y.take i.size).length=i.size:=by grind
        refine⟨.agg (y.take i.size).toArray,⟨y.take i.size,rfl,E⟩,λw p=>?_⟩
        have z:=run_loadCells_list (P:=P) w ⟨b,off,af⟩ (y.take i.size) (λj v m=>by grind[dr])
        rw[hl]at z;simp only[loadVar,bT,hg.jY,cm,S];simp[hg.run_sizeOf,z]
     obtain⟨v,Y,R⟩:=L;refine⟨v::vs,⟨Y,U⟩,λw p=>?_⟩;obtain⟨k1,Q⟩:=h2 w p;have J:(fS a (.cell ad t))=loadVar t ⟨b,off,af⟩:=by simp[fS,Z,asAddr]
     refine⟨by grind[Go.Sem.run_bind,Go.Sem.run_pure,Go.Result.andThen_ok],λes e l=>?_⟩;rw[kW,J]at l;simp only[aP,R w p,aU,k1,Sem.events_pure]at l;rcases Q _ e l with l|l
     .rcases DC l with l|l
      .grind
      .obtain⟨j,m,rfl⟩:=ja (O t i hi) (w:=w) (n:=cs.length) (λj m=>⟨g j,p _ _ _ (V j cs[j] (bg m))⟩) (by have:=o7 k;grind) e l;exact .inr ⟨b,off+j,g j,rfl,V j cs[j] (bg m)⟩
     grind
theorem BC.Vx(j:dg P T){fn:Func}{ds:List D}{d:D}(h:zP T φ fn.results.toList=aa ds)(hj:rS ds=aa d):BC P fn φ d:=by
 intro N σ s a f;obtain⟨vs,h1,h2⟩:=zQ j f h;refine⟨_,BA hj h1,λw i=>?_⟩;obtain⟨k1,g⟩:=h2 w i;have e1:(fn.results.mapM (fS a)).run P w=Result.ok vs.toArray w:=by grind[Array.mapM_eq_mapM_toList,Sem.run_map,Go.Result.andThen_ok]
 have e2:∀es,∀e∈(fn.results.mapM (fS a)).events P w es,e∈es∨∃b o u,e=⟨.cell ⟨b,o,af⟩,ae,ae⟩/\s.M b o=aa u:=by rw[qP];intro es e c;exact g es e (by simpa using c)
 constructor
 .unfold results;rw[bT];refine(dy (λr=>Result.andThen r _) (Eq.trans ?_ e1)).trans ?_
  .congr 2
  .simp
 .intro e c;have k:e∈(fn.results.mapM (fS a)).events P w #[]:=by unfold results at c;rw[aP]at c;change e∈((fn.results.mapM (fS a)).run P w).evThen ((fn.results.mapM (fS a)).events P w #[]) _ at c;rw[e1]at c;simpa using c
  grind
section
variable {X:Cx P}
def MY(T:List (Nat×TI))(rs:List ResultVar)(ks:List Nat)(φ:Fr)(res:D):Option (List Prop) :=
 match zP T φ rs with
 |some ds=>match rS ds with
  |some d=>match vA ks.length res with
   |true=>Ds d (iK ks res)
   |false=>af
  |none=>af
 |none=>af
def AK.zR(c:dg P T){fn:Func}{a:Nat}{res:D}(ks:List Nat)(h:MY T fn.results.toList ks φ res=aa ps)(e:au ps)(f:jZ ks σ=aa σ')(b:kO σ'=ab)(g:dY ks=ab)(d:∀j,j<a->ks[j]?=aa j):
  AK X N (BD P fn a res σ') (.code .ret::K) .normal φ σ:=by refine AK.ret ⟨.inl rfl,ks,?_⟩;unfold MY at h;grind[BC.Vx]
def Ev.oz{f:aK}{fn:Func}{args:List D}{res:D}(d:P.funcs[f]?=aa fn)(a:(fn.name== "runtime.NumGoroutine")=ae)(hb:fn.body=aa c)(b:bz args.length fn.ntmps=ab)(h:Fits args σ->AK X fn.ntmps (BD P fn σ.length res σ') [.code c] .normal (jh 0 args) σ):Ev X f args σ res σ':=by refine⟨⟨fn,d,a,by grind⟩,λs vs hr hh=>?_⟩;have:=dO.IL (X:=X) (ι:=Unit) (σ':=λ_=>σ') (res:=λ_=>res) d a hb (dM b) (AW.mono (AK.of_code (h ⟨s,vs,hr,hh⟩)) λ_ _ _ q=>⟨(),q⟩);exact this.GP.2 s vs hr hh
def ck.mk{fn:Func}{a:Nat}{res:D}(ks:List Nat)(h:zT fn.results.toList ks φ res=aa ps)(d:au ps)(e:jZ ks σ=aa σ')(b:kO σ'=ab)(f:dY ks=ab)(c:∀j,j<a->ks[j]?=aa j):ck fn a res σ' .ret φ σ:=by refine⟨.inl rfl,ks,?_⟩;unfold zT at h;grind
end
def GI{X:Cx P}{b:aV}{k:List Item}{a:Act}{rest:List Nat}{f:aK}(A:b.kind≠.early)(ho:ops[i]?=aa o)(z:aZ o (yielded ops a.tmps)=ab)(y:aD σ s)(p:∀w,(ak a.eval o).run P w=.ok (.enter f vs.toArray) w)(n:∀w,(ak a.eval o).events P w #[]=#[])(r:dO X f cu σ res σ1)(e:cn σ s vs cu)(h:∀j v s',dm (σ1 j) s' v (res j)->aD (σ1 j) s'->cR σ s (σ1 j) s'->fy X S (G (b.aT (a.put o.dst v) (.inRegion ops rest::k)) cs) s'):
  fy X S (G (b.aT a (.inRegion ops (i::rest)::k)) cs) s:=by
 obtain⟨_,m⟩:=r;refine .next rfl λx t=>?_;have u:=X.ij t;have g:=y.rely u;have d:cn σ x vs cu:=e.mono u.stepW.ext y.len;refine⟨_,x,_,oT ho z A (p x.w),?_,m _ vs d g S _ λj C v s2 hl lX Dq oE=>?_⟩
 .refine⟨⟨σ,σ,g,g,.refl _ _⟩,eB.seen ?_⟩;rw[n];exact .nil
 refine pZ (cs:=cs) (c:=b.aT a (.inRegion ops (i::rest)::k)) Dq hl λB l=>?_;have q:=jg (b:=b) (a:=a) (k:=k) ops i rest v;rw[ho]at q;simp only[mH]at q;rw[q];exact h j v B (lX.mono l.stepW.ext Dq.len) (Dq.rely l) (u.stepW.trans (oE.trans l.stepW))
def AK.MG{X:Cx P}{f:aK}(r:dO X f cu σ res σ1)(A:o.guard=af)(ho:o.op=.call {callee:=.value fo,args:=xs,argTypes:=jP})(x:en (bO φ fo)=aa (f,cap))(l:uv (xs.toList.map (bO φ)++fD cap) cu=aa ps)(z:au ps)(L:fE N o.dst=ab)(k:∀j,AK X N Qf (.ops all rest::K) .normal (kp o.dst (res j) φ) (σ1 j)):AK X N Qf (.ops all (o::rest)::K) .normal φ σ:=by
 intro s a e hh b kk cs S idx hb iI hQ;cases idx with
 |nil=>exact iI.elim
 |cons i idx =>
 obtain⟨hi,iI⟩:=iI;have p:=c8 e fo;unfold en at x;split at x
 case h_2=>cases x
 case h_1 f' Iw he =>
  cases x;rw[he]at p;have h:=fI p;generalize G:a.eval fo=fv at h;cases h with
  |fn fs lY hl Dr f1 f2 h1 h2 r1 r2 =>
   have C:fs=[]:=jr hl;subst C;have m:cn σ s lY (fD cap):=lB (λj c hj=>⟨f2 j,h2 j (by grind),r2 j c hj⟩) Dr;have u:cn σ s (xs.toList.map a.eval++lY) cu:=rL l z ((nL (c8 e) xs.toList).append m);obtain⟨fn,n,g,d⟩:=r.1;refine GI hb hi (dx A) hh (λw=>(gK ho n g d G w).1) (λw=>(gK ho n g d G w).2) r u λj v s' hr jq st=>?_;refine k j s' _ ?_ jq b kk cs S idx hb iI λF y J a3 q H I D=>hQ F y J a3 q H I (st.trans D);have E:=gE L;cases B:o.dst with
   |none=>exact e.mono st hh.len
   |some t=>exact(e.mono st hh.len).put (E t B) hr
def F5{α:Type}{l:Nat}{x:α}:∀{ks:List Nat}{a r:List α},jZ ks a=aa r->l∉ks->jZ ks (a.set l x)=aa r
 |[],a,r,h,_=>h
 |k::ks,a,r,h,b=>by
  simp only[dC,not_or]at b;simp only[jZ,e9]at h⊢;rw[kJ b.1];cases d:a[k]? with
  |none=>simp[d]at h
  |some y =>
   simp only[d]at h⊢;cases c:jZ ks a with
   |none=>simp[c]at h
   |some q=>rw[F5 c b.2];simp only[c]at h;exact h
def B7{l:List Nat}(h:g9 k l=ae):k∉l:=λa=>by rw[uZ a]at h;cases h
def oR:Option (Tmp×E1)->List ResultVar
 |none=>[]
 |some q=>[.tmp q.1]
def oD(cs:List A):Option (Tmp×E1)->D
 |none=>.e (.agg cs)
 |some q=>.fz [.agg cs,q.2]
def JN(T:List (Nat×TI))(fn:Func)(a:Nat)(res:D)(σ':List bm):Post:=λe φ σ1 =>
 (e=.ret∨e=.normal)/\∃ks l E cs t ty it ps,∃o:Option (Tmp×E1),(∀q,o=aa q->look φ q.1=.e q.2)/\fn.results.toList=.cell t ty::oR o/\bH T ty=aa it/\it.agg=ab/\cs.length=it.size/\look φ t=.e (.one (.ptr l 0))/\σ1[l]?=aa (.cells E cs)/\l∉ks /\
  Ds (oD cs o) (iK ks res)=aa ps/\au ps/\vA ks.length res=ab/\jZ ks σ1=aa σ'/\kO σ'=ab/\dY ks=ab/\(∀j,j<a->ks[j]?=aa j)
def dO.Rc{X:Cx P}(hT:dg P T){f:aK}{fn:Func}{args:List D}{σ':ι->List bm}(hf:P.funcs[f]?=aa fn)(Jt:(fn.name== "runtime.NumGoroutine")=ae)(hb:fn.body=aa c)(hlen:args.length<=fn.ntmps)(h:∀s a,cr fn.ntmps σ s (jh 0 args) a->aD σ s->∀(b:aV) (k:List Item) (cs:List aV) (S:aq->St->Prop),b.kind≠.early->b.roundOf=af ->
  (∀e φ' σ1 s' a',(∃j,JN T fn σ.length (res j) (σ' j) e φ' σ1)->cr fn.ntmps σ1 s' φ' a'->aD σ1 s'->cR σ s σ1 s'->ends X S b k cs e a' s')->fy X S (G (b.aT a (.code c::k)) cs) s):dO X f args σ res σ':=by
 refine⟨⟨fn,hf,Jt,by rw[hb];rfl⟩,λs vs hr hh S cs hS=>?_⟩;obtain⟨hl,hg⟩:=cn.get hr;let b:aV:={fn:=f,tmps:=#[],todo:=[],defers:=[],mode:=.run,kind:=.normal,roundOf:=af}
 have H:Frame.enter P f vs.toArray .normal=b.aT {tmps:=vs.toArray++Array.replicate (fn.ntmps-vs.toArray.size) ah,defers:=[]} [.code c]:=by simp[Frame.enter,Frame.aT,hf,hb,b]
 rw[H];refine h s {tmps:=vs.toArray++Array.replicate (fn.ntmps-vs.toArray.size) ah,defers:=[]} ⟨by simp;omega,⟨[],ar⟩,λt=>?_⟩ hh b [] cs S (by simp[b]) rfl ?_
 .rw[nS];simp only[iT,bY,kZ];have:=hg t;rcases cG t vs.length with sS|SN
  .have e:(vs.toArray++Array.replicate (fn.ntmps-vs.toArray.size) ah).getD t ah=(vs[t]?).getD ah:=by simp only[dL];grind
   rw[e];exact this
  .rw[qQ (by omega)];trivial
 .rintro e φ' σ0 s0 a1 ⟨jj,he,ks,l,E,YT,t,ty,it,ps,o,q0,q1,q2,q3,q4,q5,q6,q7,h3,h4,h5,h6',h7',h8,h9⟩ f0 h0 WN;obtain⟨h7,h7n⟩:=yx h7';have A:=f0.slot t;rw[q5]at A;obtain⟨_,L,bb,p,VN,Y⟩:=A;obtain⟨b2,d,Ts,Q,YU,hM⟩:=h0.box l _ L q6 p;subst Ts;cases VN;let M':Mem:=λm o=>if m=bb then d[o]? else s0.M m o;have YV:∀o v,d[o]?=aa v->s0.w.cell? ⟨bb,o,af⟩=aa v:=λo v ho=>by simpa[aW,Q]using ho
  have S9:∀m o v,s0.M m o=aa v->M' m o=aa v:=λm o v hv=>by grind
  have YW:∀m o v,M' m o=aa v->s0.w.cell? ⟨m,o,af⟩=aa v:=λm o v hv=>by
   by_cases e:m=bb
   .grind
   .simp only[M',e,bS]at hv;exact h0.mem m o v hv
  obtain⟨U,I⟩:=h0.ig (M':=M') (w':=s0.w) (B':=.dead) (L':=⟨.pointer (aa ⟨bb,0,af⟩),[]⟩) q6 p rfl (ba _) (λ_ _ _=>rfl) (λm _ O o=>by grind) S9 YW (by simp) rfl rfl rfl ar
  have VK:eO s0 ⟨s0.β.set l ⟨.pointer (aa ⟨bb,0,af⟩),[]⟩,M',s0.w,s0.own⟩:=⟨rfl,S9,λm O o=>by
   have:m≠bb:=by rintro rfl;exact O _ (bL p) (by simp)
   simp only[M',this,bS],YW,λm O=>by grind⟩
  have f':cr fn.ntmps (σ0.set l .dead) ⟨s0.β.set l ⟨.pointer (aa ⟨bb,0,af⟩),[]⟩,M',s0.w,s0.own⟩ φ' a1:=⟨f0.size,f0.defers.imp λ_ h1=>h1.mono I.ext,λu=>(f0.slot u).mono I.ext h0.len⟩
  have h6:=F5 (x:=bm.dead) h6' q7;have Z:eb (σ0.set l .dead) ⟨s0.β.set l ⟨.pointer (aa ⟨bb,0,af⟩),[]⟩,M',s0.w,s0.own⟩ d YT:=YU.mono I.ext h0.len;have st:=WN.trans (I.ow h0);let V:aj:=match o with|none=>.agg d.toArray|some q=>.tuple #[.agg d.toArray,a1.tmps.getD q.1 ah]
  have K:∀w,(∀b o u,M' b o=aa u->w.cell? ⟨b,o,af⟩=aa u)->(results fn a1.tmps).run P w=.ok V w/\∀e∈(results fn a1.tmps).events P w #[],∃b o u,e=⟨.cell ⟨b,o,af⟩,ae,ae⟩/\M' b o=aa u:=by
   intro w hw;have R:=hT ty it q2;have YX:d.length=it.size:=by rw[YU.length,q4]
   have SF:∀j v,d[j]?=aa v->w.cell? ⟨bb,0+j,af⟩=aa v:=λj v hj=>hw _ _ _ (by grind);have VB:=run_loadCells_list (P:=P) w ⟨bb,0,af⟩ d (λj v hj=>by rw[dr];exact SF j v hj);rw[YX]at VB;have W:(loadVar ty ⟨bb,0,af⟩).run P w=.ok (.agg d.toArray) w:=by simp only[loadVar,bT,R.jY,cm,q3];simp[R.run_sizeOf,VB]
   have YY:fn.results=(ResultVar.cell t ty::oR o).toArray:=by apply Array.ext';simpa using q1
   have J:asAddr (a1.tmps[t]?.getD ah)=(pure ⟨bb,0,af⟩:Sem Addr):=by rw[<-dL,Y];rfl
   refine⟨by cases o<;>simp[results,YY,J,W,V,oR],λe he=>?_⟩;have Tt:e∈(loadVar ty ⟨bb,0,af⟩).events P w #[]:=by cases o<;>simpa[results,YY,J,W,oR]using he
   obtain⟨j,hj,rfl⟩:=ja R (w:=w) (n:=d.length) (λj hj=>⟨_,SF j d[j] (bg hj)⟩) (by rw[q3,YX];simp) e Tt;exact⟨bb,0+j,d[j],rfl,by grind⟩
  have fin:∀(fr:aV) s2,b6 (⟨s0.β.set l ⟨.pointer (aa ⟨bb,0,af⟩),[]⟩,M',s0.w,s0.own⟩:St) s2->fr.fn=f->fr.tmps=a1.tmps->fr.defers=a1.defers->fr.mode=.returning->fr.kind=.normal->fy X S (G fr cs) s2:=by
   intro fr s2 sO e1 e2 e3 e4 e5;have f2:=f'.rely sO U;have z:=U.rely sO;have g:=st.trans sO.stepW;have r2:dm (σ0.set l .dead) s2 V (oD YT o):=by
    have YZ:=Z.mono sO.stepW.ext U.len;cases o with
    |none=>exact⟨d,rfl,YZ⟩
    |some q =>
     have hx:=f2.slot q.1;rw[q0 q rfl]at hx;exact⟨[.agg d.toArray,a1.tmps.getD q.1 ah],rfl,⟨d,rfl,YZ⟩,hx,ar⟩
   obtain⟨i,F⟩:=zJ (l':=s2.β) h6 z.len;have r4:=(qW h3 h4 r2).sub h6 F h5;obtain⟨c1,c2⟩:=iB h6;obtain⟨d1,d2⟩:=iB F;have N:∀L∈i,L∈s2.β:=zN F;have SW:aD (σ' jj) {s2 with β:=i}:=by obtain⟨g1,_⟩:=z.sub h6 F h7 h8;refine⟨g1.mem,g1.len,λj B L hB p=>?_,g1.eZ,g1.lt,λb hb=>⟨(z.own b hb).1,λL p=>(z.own b hb).2 L (N L p)⟩⟩;exact eK.plain (σ:=σ' jj) (s:={s2 with β:=i,own:=zM s2 i}) (s':={s2 with β:=i}) rfl rfl (kt h7 B (bL hB)) (g1.box j B L hB p)
   have QY:cR σ s (σ' jj) {s2 with β:=i}:=by refine⟨g.size,g.keep,g.mem,g.iO,λL p b hb=>g.uW _ (N L p) b hb,λl B L hB p=>?_,g.os,g.tape,g.output,g.own⟩;have hl:l<σ.length:=(b8.1 hB).1;obtain⟨B',L',p1,p2,p3⟩:=g.box l B L hB p;grind
   obtain⟨ls,Q0⟩:=f2.defers;refine q8 ls fr s2 _ z.k7 (by grind) e4 (by rw[e3];exact Q0.taken z) λs3 r=>?_;have C:b6 {s2 with β:=i} {s3 with β:=i}:=by
    refine⟨rfl,r.M,r.own,r.size,λb hb=>r.keep b (hb.imp id ?_),r.mem,r.os,r.tape,r.output⟩;rintro⟨L,p,hb⟩;obtain⟨j,hj,rfl⟩:=dH p;have Y0:j<ks.length:=by rw[<-d1];exact hj
    obtain⟨y,y1,y2⟩:=d2 j _ (bg Y0);obtain⟨x,x1,x2⟩:=c2 j _ (bg Y0);rw[bg hj]at y1;cases y1;refine⟨_,_,y2,λhc=>?_,hb⟩;rw[Q0.BV _ hc]at x2;cases x2;exact mZ h7n _ (bL x1) rfl
   have hG:eO s3 {s3 with β:=i}:=⟨rfl,λ_ _ _ h=>h,λ_ _ _=>rfl,λb o v hv=>r.mem b o v (by rw[<-r.M];exact hv),λb hb=>hb.imp id λ⟨L,p,hb⟩=>⟨L,by rw[r.β];exact N L p,hb⟩⟩
   have Xj:s2.M=M':=sO.M;refine .ghost hG (hS jj _ V _ ⟨e1,e4,rfl,e5,fn,by grind,λw hw=>?_⟩ (r4.mono C.stepW.ext SW.len) (SW.rely C) (QY.trans C.stepW));show(results fn fr.tmps).run P w=_/\∀e∈(results fn fr.tmps).events P w #[],_;rw[e2];have Y1:∀b o u,M' b o=aa u->w.cell? ⟨b,o,af⟩=aa u:=λb o u h=>hw b o u (by show s3.M b o=aa u;rw[r.M,Xj];exact h);refine⟨(K w Y1).1,λe he=>?_⟩;obtain⟨b,o,u,q1,q2⟩:=(K w Y1).2 e he;exact⟨b,o,u,q1,by show s3.M b o=aa u;rw[r.M,Xj];exact q2⟩
  rcases he with rfl|rfl
  .intro pre;exact .ghost VK (.ctl U rfl (λ_=>DD rfl) λs2 sO=>fin _ s2 sO rfl rfl (kK _) rfl rfl)
  .exact .ghost VK (.ctl U rfl (λ_=>DF rfl) λs2 sO=>fin _ s2 sO rfl rfl (kK _) rfl rfl)
def dO.oz{X:Cx P}(l:dg P T){f:aK}{fn:Func}{args:List D}{σ':ι->List bm}(i:P.funcs[f]?=aa fn)(d:(fn.name== "runtime.NumGoroutine")=ae)(hb:fn.body=aa c)(g:bz args.length fn.ntmps=ab)(h:Fits args σ->AK X fn.ntmps (λe φ σ1=>∃j,JN T fn σ.length (res j) (σ' j) e φ σ1) [.code c] .normal (jh 0 args) σ):dO X f args σ res σ':=by refine⟨⟨fn,i,d,by rw[hb];rfl⟩,λs0 vs hr MM=>?_⟩;have:=dO.Rc (X:=X) (σ':=σ') (res:=res) l i d hb (dM g) λs a f hh b k cs S m _ n=>(show AW X fn.ntmps c _ (jh 0 args) σ from AK.of_code (h ⟨s0,vs,hr,MM⟩)) s a f hh b k cs S m n;exact this.2 s0 vs hr MM
def eb.set{σ:List bm}{s:St}{a:A}{v:aj}:∀{vs:List aj}{cs:List A}{j:Nat},eb σ s vs cs->vs[j]?=aa v->gb σ s v a->eb σ s vs (cs.set j a)
 |[],[],_,_,h,_=>by grind
 |[],_::_,_,h,_,_=>h.elim
 |_::_,[],_,h,_,_=>h.elim
 |u::vs,c::cs,0,h,d,b=>by simp at d;subst d;exact⟨b,h.2⟩
 |u::vs,c::cs,j+1,h,d,b=>⟨h.1,eb.set h.2 (by grind) b⟩
section
variable {X:Cx P}
def AK.gd(l j:Nat)(E k:Nat)(es':Nat->List C){E0:aw}{cs:List A}{k':Nat}{r:Nat->List C}(hl:eD l σ=aa (.cells E0 cs))(hj:eD j cs=aa (.c (.sl ab k' 0 r)))(kk:AK X N Qf (.code c::K) .normal φ ((σ++[bm.vec E k 0 es']).set l (.cells E0 (cs.set j (.vec σ.length k 0 es'))))):AK X N Qf (.code c::K) .normal φ σ:=by
 refine AK.ghost (λs a p hh=>?_) kk;have G:=c7 hl;have S:=c7 hj;have F:l<σ.length:=(b8.1 G).1;have g:l<s.β.length:=by rw[hh.len];grind
 have q:=bg g;generalize s.β[l]=L at q;obtain⟨b,vs,y,d,f,Q⟩:=hh.box l _ L G q;obtain⟨v,I,R⟩:=f.get S;have h1:Rd s.M v (.sl ab k 0 es'):=(Rd.uU (k:=k') (k':=k) (.inr rfl) R).Dy λi hi=>by omega
 have D:eK (σ++[bm.vec E k 0 es']) {s with β:=s.β++[⟨v,[]⟩]} (.vec E k 0 es') ⟨v,[]⟩:=⟨h1.loose,.inl ⟨⟨rfl,rfl⟩,h1⟩⟩;obtain⟨H,g2⟩:=hh.gz (.refl _ _) rfl hh D (by simp)
 have z:(σ++[bm.vec E k 0 es'])[l]?=aa (.cells E0 cs):=by grind
 have x:(s.β++[(⟨v,[]⟩:Loc)])[l]?=aa L:=by grind
 have m:(s.β++[(⟨v,[]⟩:Loc)]).set l L=s.β++[⟨v,[]⟩]:=by apply gQ;grind
 have t:ic (.cells E0 cs) L (.cells E0 (cs.set j (.vec σ.length k 0 es'))) L:=rfl;have J:σ.length≠l:=by omega
 have n:eK ((σ++[bm.vec E k 0 es']).set l (.cells E0 (cs.set j (.vec σ.length k 0 es')))) ⟨(s.β++[(⟨v,[]⟩:Loc)]).set l L,s.M,s.w,s.own⟩ (.cells E0 (cs.set j (.vec σ.length k 0 es'))) L:=by
  rw[m];refine⟨b,vs,y,d,?_,Q⟩;have ex:Ext (σ++[bm.vec E k 0 es']) {s with β:=s.β++[⟨v,[]⟩]} ((σ++[bm.vec E k 0 es']).set l (.cells E0 (cs.set j (.vec σ.length k 0 es')))) {s with β:=s.β++[⟨v,[]⟩]}:=by
   refine⟨λ_ _ _ h=>h,λi B L' mc gm=>?_⟩;by_cases e:l=i
   .grind
   .exact⟨B,L',by grind,gm,.refl _ _⟩
  have o:eb (σ++[bm.vec E k 0 es']) {s with β:=s.β++[⟨v,[]⟩]} vs cs:=f.mono g2.ext hh.len;refine eb.set (o.mono ex H.len) I ?_;refine⟨h1.loose,by simp,λE2 k2 n2 zB h=>?_⟩;rw[kJ (by omega),fA (by omega),Nat.sub_self]at h;cases h;refine⟨ba _,λ_=>⟨⟨v,[]⟩,?_,rfl⟩⟩;simp[<-hh.len]
 obtain⟨O,q2⟩:=H.ig (M':=s.M) (w':=s.w) (L':=L) z x t (ba _) (λ_ _ _=>rfl) (λ_ _ _ _=>rfl) (λ_ _ _ h=>h) hh.mem (λb hb=>⟨.inl hb,hh.lt L (bL q) b hb⟩) rfl rfl rfl n;have st:=g2.trans q2;exact⟨⟨(s.β++[(⟨v,[]⟩:Loc)]).set l L,s.M,s.w,s.own⟩,rfl,⟨p.size,p.defers.imp λ_ h1=>h1.mono st.ext,λu=>(p.slot u).mono st.ext hh.len⟩,O,st⟩
end
end Go.AM
