/- Part 2. No condition. -/
import Derived.Test.YtpddeenenibhjaaGreatDoorA1
import Derived.Test.YtpddeenenibhjaaGreatDoorProg
import Derived.MapKept
import Derived.Maps.RangeRun
import Derived.Laws.MakeOwn
set_option linter.all false
set_option maxHeartbeats 8000000
open Go.Proofs
open Go.Conc (G)
open Go renaming Value → ai, TypeId → aw, Frame → aU, FuncId → aJ, execOp → ak, undef → ah, Operand → aC, World → aA, Program → aM, Oper → aB, Goroutine → aq, stepG → aG
open Option renaming some → aa, none → af
open Bool renaming true → ab, false → ae
open Go.Region renaming wanted → aY, ready → aX
open Go.World renaming cell? → aV
open List renaming getD_eq_getElem?_getD → aj, range → bh
open Go.Sem renaming events_bind → aK
open Go.Result renaming evThen_ok → aP
open Go.Instr renaming sliceBounds → bg
open Nat renaming beq → av, ble → bu
open Go.Proofs.Tryz renaming prog → ag
namespace Go.AM
variable {n k l b i j:Nat}{E:aw}{H:ai->(Nat->Option Obj)->Prop}{L:Array Bool}{M:Mem}{N:Nat}{P:aM}{S:aq->St->Prop}{c:Code}{g:aq}{o:aB}{s:St}{t:aw}{v:ai}{w:aA}{x y:aC}{α:Type}{η:aC->D}{ι:Type}{σ:List bd}{φ:Fr}{all:List aB}{jJ:Array aw}{cap:List C}{cm:List D}{cs:List aU}{ds:List (Nat×Bool)}{es:Nat->List C}{fo:aC}{gs:Array aq}{obs:List Prop}{off:Nat}{op:BinOp}{ops:Array aB}{ps:List Prop}{rest:List aB}{s':St}{ty:aw}{val:Nat->Nat->ai}{vs:List ai}{w':aA}{xs:Array aC}{σ' σs:List bd}{res:ι->D}{σ1:ι->List bd}
section force
variable {p:Type}
def vc:C->(C->Option p)->Option p
 |.int k n,q=>q (.int k n)
 |.bool b,q=>q (.bool b)
 |.str s,q=>q (.str s)
 |.sl ab k n es,q=>q (.sl ab k n es)
 |.sl ae k n es,q=>q (.sl ae k n es)
 |.rp cs,q=>dn cs λcs=>q (.rp cs)
 |.Mh t cs,q=>dn cs λcs=>q (.Mh t cs)
 |.fn f a b,q=>dn a λa=>dn b λb=>q (.fn f a b)
 |c,q=>q c
def F4(c:C)(q:C->Option p):vc c q=q c:=by
 cases c with
 |sl t=>cases t<;>rfl
 |rp cs=>simp[vc,cU]
 |Mh t cs=>simp[vc,cU]
 |fn f a b=>simp[vc,cU]
 |_=>rfl
def vd:A->(A->Option p)->Option p
 |.c x,q=>vc x λx=>q (.c x)
 |.ptr l o,q=>q (.ptr l o)
 |.vec l k n es,q=>q (.vec l k n es)
 |.ref l,q=>q (.ref l)
 |.bp l (.sl g k o n),q=>q (.bp l (.sl g k o n))
 |.bp l (.el g k i f),q=>q (.bp l (.el g k i f))
 |.any,q=>q .any
def xQ(a:A)(q:A->Option p):vd a q=q a:=by
 cases a with
 |bp l w=>cases w<;>simp[vd]
 |_=>simp[vd,F4]
def uy:List A->(List A->Option p)->Option p
 |[],q=>q []
 |a::r,q=>vd a λa=>uy r λr=>q (a::r)
def C4(l:List A)(q:List A->Option p):uy l q=q l:=by
 induction l generalizing q with
 |nil=>rfl
 |cons a r b=>simp[uy,xQ,b]
def zp:E1->(E1->Option p)->Option p
 |.one a,q=>vd a λa=>q (.one a)
 |.agg cs,q=>uy cs λcs=>q (.agg cs)
def xR(a:E1)(q:E1->Option p):zp a q=q a:=by cases a<;>simp[zp,xQ,C4]
def uz:List E1->(List E1->Option p)->Option p
 |[],q=>q []
 |a::r,q=>zp a λa=>uz r λr=>q (a::r)
def C5(l:List E1)(q:List E1->Option p):uz l q=q l:=by
 induction l generalizing q with
 |nil=>rfl
 |cons a r b=>simp[uz,xR,b]
def nE:D->(D->Option p)->Option p
 |.e x,q=>zp x λx=>q (.e x)
 |.fw xs,q=>uz xs λxs=>q (.fw xs)
 |.any,q=>q .any
theorem mR(a:D)(q:D->Option p):nE a q=q a:=by cases a<;>simp[nE,xR,C5]
end force
def A4:D->Option (Bool×Nat×Nat×(Nat->List C))
 |.e (.one (.c (.sl t k n es)))=>aa (t,k,n,es)
 |.e (.one (.vec _ k n es))=>aa (ae,k,n,es)
 |_=>af
theorem pH{d:D}{t:Bool}(h:A4 d=aa (t,k,n,es))(σ:List bd)(s:St)(v:ai)(r:dk σ s v d):Rd s.M v (.sl t k n es):=by
 unfold A4 at h;split at h
 .cases h;exact r
 .cases h;exact r.1
 grind
def iG(l:List UInt8)(j:Int):UInt8:=l.getD j.toNat 0
def PK(T:List (Nat×TI))(t:aw)(d:D):Option D :=
 match bE T t with
 |none=>af
 |some i=>match i.desc with
  |.slice _=>match A4 d with
   |some (_,_,n,_)=>aa (.e (.one (.c (.int .i64 n))))
   |none=>af
  |.string=>match d with
   |.e (.one (.c (.str s)))=>aa (.e (.one (.c (.int .i64 s.length))))
   |_=>af
  |_=>af
def Ii(T:List (Nat×TI))(b a:aw)(d:D):Option (D×List Prop) :=
 match bE T b with
 |none=>af
 |some i1=>match bE T a with
  |none=>af
  |some i2=>match i2.desc with
   |.int k'=>match d with
    |.e (.one (.c (.int _ j)))=>aa (.e (.one (.c (.int k' j))),[bw k' j])
    |_=>af
   |.string=>match d with
    |.e (.one (.c (.str s)))=>aa (.e (.one (.c (.str s))),[])
    |d=>match i1.desc with
     |.slice E=>match bE T E with
      |some ie=>match ie.desc with
       |.int .u8=>match A4 d with
        |some (_,k,n,es)=>match av k 1 with
         |true=>match ve es 0 n with
          |some r=>aa (.e (.one (.c (.str r))),[])
          |none=>af
         |false=>af
        |none=>af
       |_=>af
      |none=>af
     |_=>af
   |_=>af
def C6(T:List (Nat×TI))(η:aC->D)(t:aw)(x:aC)(lo hi:Option aC):Option (D×List Prop) :=
 match bE T t with
 |none=>af
 |some i=>match tT η lo with
  |none=>af
  |some l=>match tT η hi with
   |none=>af
   |some u=>match i.desc with
    |.string=>match η x with
     |.e (.one (.c (.str s)))=>aa (.e (.one (.c (.str (rB s l u)))),fE s.length l u)
     |_=>af
    |.slice E=>match bE T E with
     |none=>af
     |some ie=>match A4 (η x)with
      |some (tt,k,n,es)=>match av k ie.size with
       |true=>aa (.e (.one (.c (.sl (PL tt u) ie.size (cq n u-cq 0 l) (kX (cq 0 l) es)))),fE n l u)
       |false=>af
      |none=>af
    |_=>af
def xS(op:BinOp)(k:IntKind)(a:Int)(k':IntKind)(b:Int):Option (D×List Prop) :=
 match AP op k a k' b with
 |some (c,obs)=>aa (.e (.one (.c (.int k c))),obs)
 |none=>af
theorem rC{k k':IntKind}{a b:Int}{d:D}(h:xS op k a k' b=aa (d,obs)):∃c,d=.e (.one (.c (.int k c)))/\AP op k a k' b=aa (c,obs):=by unfold xS at h;grind
def OB(T:List (Nat×TI))(op:BinOp)(t:aw)(x y:D):Option (D×List Prop) :=
 match x,y with
 |.e (.one (.c (.bool a))),.e (.one (.c (.bool b)))=>match bE T t with
  |some i=>match i.desc with
   |.bool=>match lA op (a==b)with
    |some c=>aa (.e (.one (.c (.bool c))),[])
    |none=>af
   |_=>af
  |none=>af
 |.e (.one (.c a)),.e (.one (.c b))=>match op with
  |.xor=>match a,b with
   |.int .i64 a,.int .i64 b=>aa (.e (.one (.c (.int .i64 ((a.toNat ^^^ b.toNat:Nat):Int)))),[0<=a,0<=b])
   |.int .u64 a,.int k' b=>xS .xor .u64 a k' b
   |_,_=>af
  |.shl=>match a,b with
   |.int k a,.int k' b=>xS .shl k a k' b
   |_,_=>af
  |.shr=>match a,b with
   |.int k a,.int k' b=>xS .shr k a k' b
   |_,_=>af
  |.and=>match a,b with
   |.int k a,.int k' b=>xS .and k a k' b
   |_,_=>af
  |_=>match Mn op a b with
   |some (c,obs)=>aa (.e (.one (.c c)),obs)
   |none=>af
 |.e (.agg cs),.e (.agg es)=>match bE T t with
  |some i=>match i.eq with
   |[]=>af
   |d::ds=>match OC (d::ds) cs es with
    |some b=>match lA op b with
     |some c=>aa (.e (.one (.c (.bool c))),[])
     |none=>af
    |none=>af
  |none=>af
 |_,_=>af
def Vd(T:List (Nat×TI))(CT:List (Nat×dy))(φ:Fr)(o:aB):Option (D×List Prop) :=
 match o.op with
 |.move x|.assign x=>aa (bJ φ x,[])
 |.index t x y=>match bE T t with
  |some i=>match i.desc with
   |.string=>match bJ φ x,bJ φ y with
    |.e (.one (.c (.str l))),.e (.one (.c (.int _ j)))=>aa (.e (.one (.c (.int .u8 (iG l j).toNat))),[0<=j,j<l.length])
    |_,_=>af
   |_=>af
  |none=>af
 |.indexAddr t x y=>match bE T t with
  |some i=>match i.desc with
   |.slice E=>match bE T E with
    |some ie=>match A4 (bJ φ x),bJ φ y with
     |some (_,k,n,es),.e (.one (.c (.int _ j)))=>match av k ie.size with
      |true=>aa (.e (.one (.c (.rp (es j.toNat)))),[0<=j,j<n])
      |false=>af
     |_,_=>af
    |none=>af
   |_=>af
  |none=>af
 |.slice t x lo hi af=>C6 T (bJ φ) t x lo hi
 |.convert src dst x=>Ii T src dst (bJ φ x)
 |.call c=>match c.callee with
  |.builtin .len=>match c.args.toList,c.argTypes[0]? with
   |[x],aa t=>match PK T t (bJ φ x)with
    |some d=>aa (d,[])
    |none=>af
   |_,_=>af
  |.value fo=>A5 CT φ fo c.args.toList
  |_=>af
 |.pick c a b=>match bJ φ c with
  |.e (.one (.c (.bool ab)))=>aa (bJ φ a,[])
  |.e (.one (.c (.bool ae)))=>aa (bJ φ b,[])
  |_=>af
 |.binOp op t x y _=>OB T op t (bJ φ x) (bJ φ y)
 |.unOp op _ x=>match bJ φ x with
  |.e (.one (.c a))=>match Vf op a with
   |some c=>aa (.e (.one (.c c)),[])
   |none=>af
  |_=>af
 |.extract x j=>match bJ φ x with
  |.fw xs=>match eB j xs with
   |some e=>aa (.e e,[])
   |none=>af
  |_=>af
 |.fieldAddr t x f=>match jw T t f with
  |some (k,_)=>match bJ φ x with
   |.e (.one (.ptr l off))=>aa (.e (.one (.ptr l (off+k))),[])
   |.e (.one (.c (.rp cs)))=>aa (.e (.one (.c (.rp (gT k cs)))),[])
   |_=>af
  |none=>af
 |.field t x f=>match jw T t f with
  |some (k,j)=>match bJ φ x with
   |.e (.agg cs)=>match mD j (gT k cs)with
    |some e=>aa (.e e,[])
    |none=>af
   |_=>af
  |none=>af
 |.nilCheck x=>match bJ φ x with
  |.e (.one (.ptr l off))=>aa (.e (.one (.ptr l off)),[])
  |.e (.one (.c (.rp cs)))=>aa (.e (.one (.c (.rp cs))),[])
  |_=>af
 |.build t parts=>match zq T (bJ φ) t parts.toList with
  |some cs=>aa (.e (.agg cs),[])
  |none=>af
 |.buildSlice t n parts=>match Mo T (bJ φ) t n parts.toList with
  |some (k,es)=>aa (.e (.one (.c (.sl ab k n λi=>es.getD i []))),[])
  |none=>af
 |.makeFunc fn a b=>match vf (bJ φ) a.toList with
  |some ca=>match vf (bJ φ) b.toList with
   |some cb=>aa (.e (.one (.c (.fn fn ca cb))),[])
   |none=>af
  |none=>af
 |.makeInterface t x=>match bE T t with
  |some i=>match A6 i.desc with
   |false=>match uA t (bJ φ x)with
    |some c=>aa (.e (.one (.c c)),[])
    |none=>af
   |true=>af
  |none=>af
 |_=>af
def H9(T:List (Nat×TI))(φ:Fr)(σ:List bd)(t:aw)(x:aC):Option D :=
 match bE T t with
 |some i=>match bJ φ x with
  |.e (.one (.ptr l off))=>match eB l σ with
   |some (.cells _ cs)=>match mD i (gT off cs)with
    |some e=>aa (.e e)
    |none=>af
   |_=>af
  |.e (.one (.c (.rp cs)))=>match mD i (cs.map A.c)with
   |some e=>aa (.e e)
   |none=>af
  |_=>af
 |none=>af
def Wd(T:List (Nat×TI))(φ:Fr)(o:aB):Option (D×List Prop) :=
 match o.op with
 |.indexAddr t x y=>match bE T t with
  |some i=>match i.desc with
   |.slice E=>match bE T E with
    |some ie=>match bJ φ x,bJ φ y with
     |.e (.one (.bp l (.sl g k q m))),.e (.one (.c (.int _ j)))=>match av k ie.size with
      |true=>aa (.e (.one (.bp l (.el g ie.size (q+j.toNat) 0))),[0<=j,j<m])
      |false=>af
     |.e (.one (.c (.val (.slice (aa ⟨b,off,af⟩) n _)))),.e (.one (.c (.int _ j)))=>aa (.e (.one (.c (.val (.pointer (aa ⟨b,off+j.toNat*ie.size,af⟩))))),[0<=j,j<n])
     |_,_=>af
    |none=>af
   |_=>af
  |none=>af
 |.fieldAddr t x f=>match jw T t f with
  |some (k,_)=>match bJ φ x with
   |.e (.one (.bp l (.el g a i q)))=>aa (.e (.one (.bp l (.el g a i (q+k)))),[])
   |.e (.one (.c (.val (.pointer (aa ⟨b,off,af⟩)))))=>aa (.e (.one (.c (.val (.pointer (aa ⟨b,off+k,af⟩))))),[])
   |_=>af
  |none=>af
 |.nilCheck x=>match bJ φ x with
  |.e (.one (.bp l (.el g a i q)))=>aa (.e (.one (.bp l (.el g a i q))),[])
  |_=>af
 |.slice t x lo hi af=>match bE T t with
  |none=>af
  |some i=>match tT (bJ φ) lo with
   |none=>af
   |some lw=>match tT (bJ φ) hi with
    |none=>af
    |some u=>match i.desc with
     |.slice E=>match bE T E with
      |none=>af
      |some ie=>match bJ φ x with
       |.e (.one (.bp l (.sl g k q m)))=>match av k ie.size with
        |true=>aa (.e (.one (.bp l (.sl g ie.size (q+cq 0 lw) (cq m u-cq 0 lw)))),fE m lw u)
        |false=>af
       |_=>af
     |_=>af
 |.slice t x af (aa y) (aa z)=>match bE T t with
  |none=>af
  |some i=>match i.desc with
   |.slice E=>match bE T E with
    |none=>af
    |some _=>match A4 (bJ φ x),bJ φ y,bJ φ z with
     |some (_,k,n,es),.e (.one (.c (.int _ j))),.e (.one (.c (.int _ m)))=>aa (.e (.one (.c (.sl ae k j.toNat es))),[0<=j,j<=m,m<=n])
     |_,_,_=>af
   |_=>af
 |.slice t x (aa w) (aa y) (aa z)=>match bE T t with
  |none=>af
  |some i=>match i.desc with
   |.slice E=>match bE T E with
    |none=>af
    |some _=>match bJ φ x,bJ φ w,bJ φ y,bJ φ z with
     |.e (.one (.bp _ (.sl _ _ _ n))),.e (.one (.c (.int _ i))),.e (.one (.c (.int _ j))),.e (.one (.c (.int _ m)))=>aa (.e (.one .any),[0<=i,i<=j,j<=m,m<=n])
     |_,_,_,_=>af
   |_=>af
 |.call c=>match c.callee with
  |.builtin .len=>match c.args.toList,c.argTypes[0]? with
   |[x],aa t=>match bE T t with
    |some i=>match i.desc with
     |.slice _=>match bJ φ x with
      |.e (.one (.bp _ (.sl _ _ _ m)))=>aa (.e (.one (.c (.int .i64 m))),[])
      |.e (.one (.c (.val (.slice _ n _))))=>aa (.e (.one (.c (.int .i64 n))),[n<=9223372036854775807])
      |_=>af
     |_=>af
    |none=>af
   |_,_=>af
  |_=>af
 |_=>af
def zm(T:List (Nat×TI))(φ:Fr)(σ:List bd)(t:aw)(x:aC):Option (D×List Prop) :=
 match bE T t with
 |some it=>match bJ φ x with
  |.e (.one (.bp l (.el g k i f)))=>match eB l σ with
   |some (.buf _ k' n es)=>match av k' k with
    |true=>match mD it ((gT f (es i)).map A.c)with
     |some e=>aa (.e e,[g=n,i<n])
     |none=>af
    |false=>af
   |_=>af
  |_=>af
 |none=>af
def Ij:Nat->List C->Nat->Bool
 |0,cc,k=>av cc.length k
 |_+1,_,_=>ae
def zr(T:List (Nat×TI))(φ:Fr)(σ:List bd)(t:aw)(x y:aC):Option (D×List bd×List Prop) :=
 match bE T t with
 |some it=>match bJ φ x with
  |.e (.one (.bp l (.el g k i f)))=>match eB l σ with
   |some (.buf E k' n es)=>match av k' k with
    |true=>match kI (bJ φ y)with
     |some new=>match av new.length it.size with
      |true=>match gN new with
       |some cc=>match Ij f cc k with
        |true=>dn (eb.si l (.buf E k' n (n8 i cc es)) σ) λσ'=>aa (.any,σ',[g=n,i<n])
        |false=>match fe f cc (es i)with
         |some ci=>dn (eb.si l (.buf E k' n (n8 i ci es)) σ) λσ'=>aa (.any,σ',[g=n,i<n])
         |none=>af
       |none=>af
      |false=>af
     |none=>af
    |false=>af
   |_=>af
  |_=>af
 |none=>af
def Mj(T:List (Nat×TI))(CT:List (Nat×dy))(φ:Fr)(σ:List bd)(o:aB):Option (D×List Prop) :=
 match o.op with
 |.load t x=>match H9 T φ σ t x with
  |some d=>aa (d,[])
  |none=>zm T φ σ t x
 |_=>match Vd T CT φ o with
  |some r=>aa r
  |none=>Wd T φ o
def Mp(T:List (Nat×TI))(t a:aw):Option (aw×TI) :=
 match bE T t with
 |none=>af
 |some i=>match bE T a with
  |none=>af
  |some i2=>match i.desc with
   |.slice E=>match i2.desc with
    |.slice E2=>match av E2 E with
     |false=>af
     |true=>match bE T E with
      |none=>af
      |some ie=>match bu 1 ie.bytes,bu 1 ie.size with
       |true,ab=>aa (E,ie)
       |_,_=>af
    |_=>af
   |_=>af
def Ik(T:List (Nat×TI))(η:aC->D)(y:aC)(t a:aw):Option (aw×TI×Nat×(Nat->List C)) :=
 match Mp T t a with
 |none=>af
 |some (E,ie)=>match A4 (η y)with
  |none=>af
  |some (_,k',m,es')=>match av k' ie.size with
   |false=>af
   |true=>aa (E,ie,m,es')
def PN(T:List (Nat×TI))(η:aC->D)(σ:List bd)(x y:aC)(t a:aw):Option (D×List bd×List Prop) :=
 match Ik T η y t a with
 |none=>af
 |some (E,ie,m,es')=>match η x with
  |.e (.one (.c (.sl ab k n es)))=>match av k ie.size with
   |true=>dn (σ++[.vec E ie.size (n+m) (cy n es es')]) λσ'=>aa (.e (.one (.vec σ.length ie.size (n+m) (cy n es es'))),σ',[(n+m)*ie.bytes<=140737488355328,n=0∨0<m])
   |false=>match av n 0 with
    |true=>dn (σ++[.vec E ie.size (n+m) (cy n es es')]) λσ'=>aa (.e (.one (.vec σ.length ie.size (n+m) (cy n es es'))),σ',[(n+m)*ie.bytes<=140737488355328,n=0∨0<m])
    |false=>af
  |.e (.one (.vec l k n es))=>match eB l σ with
   |some (.vec E' k2 n2 yZ)=>match av E' E,av k ie.size,av k2 ie.size with
    |true,ab,ab=>dn (eb.si l (.vec E ie.size (n+m) (cy n es es')) σ) λσ'=>aa (.e (.one (.vec l ie.size (n+m) (cy n es es'))),σ',[n2=n,yZ=es,(n+m)*ie.bytes<=140737488355328])
    |_,_,_=>af
   |_=>af
  |.e (.one (.bp l (.sl g k 0 n)))=>match eB l σ with
   |some (.buf E' k2 n2 yZ)=>match av E' E,av k ie.size,av k2 ie.size with
    |true,ab,ab=>dn (eb.si l (.buf E ie.size (n2+m) (cy n2 yZ es')) σ) λσ'=>aa (.e (.one (.bp l (.sl (n2+m) ie.size 0 (n2+m)))),σ',[g=n2,n=n2,(n2+m)*ie.bytes<=140737488355328])
    |_,_,_=>af
   |_=>af
  |_=>af
def We(T:List (Nat×TI))(CT:List (Nat×dy))(φ:Fr)(σ:List bd)(o:aB):Option (D×List bd×List Prop) :=
 match o.op with
 |.alloc _|.box _ _=>Vg T φ σ o
 |.store t x y=>match Vg T φ σ o with
  |some r=>aa r
  |none=>zr T φ σ t x y
 |.call c=>match c.callee with
  |.builtin .append=>match c.args.toList,c.argTypes.toList with
   |[x,y],[t,a]=>PN T (bJ φ) σ x y t a
   |_,_=>af
  |.value fo=>Il CT φ σ fo c.args.toList
  |_=>af
 |_=>af
def PO(T:List (Nat×TI))(η:aC->D)(x y:aC)(t a:aw):Option (D×List Prop) :=
 match Ik T η y t a with
 |none=>af
 |some (_,ie,m,es')=>match η x with
  |.e (.one (.c (.sl ab k n es)))=>match av n 0 with
   |true=>aa (.e (.one (.c (.sl ae ie.size (n+m) (cy n es es')))),[(n+m)*ie.bytes<=140737488355328,n=0∨0<m])
   |false=>af
  |_=>af
def Wf(T:List (Nat×TI))(φ:Fr)(o:aB):Option (D×List Prop) :=
 match o.op with
 |.call c=>match c.callee with
  |.builtin .append=>match c.args.toList,c.argTypes.toList with
   |[x,y],[t,a]=>PO T (bJ φ) x y t a
   |_,_=>af
  |_=>af
 |_=>af
def A7:List (Nat×Bool)->Nat->Option Bool
 |[],_=>af
 |(i,b)::r,t=>match av i t with|true=>aa b|false=>A7 r t
def V2(ds:List (Nat×Bool)):Option Nat->Bool
 |none=>ae
 |some t=>match A7 ds (2000000+t)with
  |some ab=>ab
  |_=>ae
def isW(ds:List (Nat×Bool)):Option Nat->Bool
 |none=>ae
 |some t=>match A7 ds (3000000+t)with
  |some ab=>ab
  |_=>ae
def PQ(E:aw)(ie:TI)(η:aC->D)(σ:List bd)(x y:aC):Option (D×List bd×List Prop) :=
 match η x,η y with
 |.e (.one (.bp l (.sl g k 0 i))),.e (.one (.bp l' (.sl g' k' j m)))=>match av l' l with
  |false=>af
  |true=>match eB l σ with
   |some (.buf E' k2 n es)=>match av E' E,av k ie.size,av k' ie.size,av k2 ie.size with
    |true,ab,ab,ab=>dn (eb.si l (.buf E ie.size n (AJ i j m es)) σ) λσ'=>aa (.e (.one (.bp l (.sl n ie.size 0 (i+m)))),σ',[g=n,g'=n,i+m<=n,j+m<=n])
    |_,_,_,_=>af
   |_=>af
 |_,_=>af
def appW(w:Bool)(T:List (Nat×TI))(η:aC->D)(σ:List bd)(x y:aC)(t a:aw):Option (D×List bd×List Prop) :=
 match w with
 |true=>match Ik T η y t a with
  |none=>af
  |some (E,ie,m,es')=>match η x with
   |.e (.one (.c (.sl ab _ n es)))=>match av n 0 with
    |true=>dn (σ++[.buf E ie.size (0+m) (cy 0 es es')]) λσ'=>aa (.e (.one (.bp σ.length (.sl (0+m) ie.size 0 (0+m)))),σ',[(0+m)*ie.bytes<=140737488355328])
    |false=>af
   |_=>af
 |false=>match Mp T t a with
  |none=>af
  |some (E,ie)=>PQ E ie η σ x y
def Vh(w:Bool)(T:List (Nat×TI))(φ:Fr)(σ:List bd)(o:aB):Option (D×List bd×List Prop) :=
 match o.op with
 |.call c=>match c.callee with
  |.builtin .append=>match c.args.toList,c.argTypes.toList with
   |[x,y],[t,a]=>appW w T (bJ φ) σ x y t a
   |_,_=>af
  |_=>af
 |_=>af
def SE(ds:List (Nat×Bool))(T:List (Nat×TI))(CT:List (Nat×dy))(φ:Fr)(σ:List bd)(o:aB):Option (D×List bd×List Prop) :=
 match isW ds o.dst with
 |true=>Vh ab T φ σ o
 |false=>match We T CT φ σ o with
  |some r=>aa r
  |none=>Vh ae T φ σ o
def Ig(ds:List (Nat×Bool))(d:Option Nat)(x:D)(obs:List Prop):Option (D×List Prop) :=
 match d with
 |none=>aa (x,obs)
 |some t=>match A7 ds t with
  |none=>aa (x,obs)
  |some b=>match x with
   |.e (.one (.c (.bool e)))=>aa (.e (.one (.c (.bool b))),iF obs [e=b])
   |_=>af
def Mq{d:Option Nat}{x y:D}{a:List Prop}(h:Ig ds d x obs=aa (y,a))(ho:au a):y=x/\au obs:=by
 unfold Ig at h;split at h
 .grind
 .split at h
  .grind
  .split at h
   .cases h;rw[au.cat]at ho;have:_=_:=ho.2;grind
   grind
def tR(T:List (Nat×TI))(CT:List (Nat×dy))(ds:List (Nat×Bool))(all:List aB)(φ:Fr)(σ:List bd)(o:aB):Option (D×Option (List bd)×List Prop) :=
 let go:Option (D×Option (List bd)×List Prop):=match Mj T CT φ σ o with
  |some (x,obs)=>match Ig ds o.dst x obs with
   |some (y,a)=>nE y λy=>aa (y,af,a)
   |none=>af
  |none=>match V2 ds o.dst with
   |true=>match Wf T φ o with
    |some (x,obs)=>nE x λx=>aa (x,af,obs)
    |none=>af
   |false=>match SE ds T CT φ σ o with
    |some (x,σ',obs)=>nE x λx=>aa (x,aa σ',obs)
    |none=>af
 match o.guard with
 |none=>go
 |some (j,b)=>match zt φ all j with
  |some (aa b')=>match b,b' with
   |true,ab=>go
   |false,ae=>go
   |_,_=>aa (.fw [],af,[])
  |some af=>aa (.fw [],af,[])
  |none=>af
section
variable {X:Cx P}{T:List (Nat×TI)}{CT:List (Nat×dy)}
def ER(c:c8 P T){a:aw}{ie:TI}(ho:o.op=.call {callee:=.builtin .append,args:=#[x,y],argTypes:=#[t,a]})(h:Mp T t a=aa (E,ie)):lr P o x y E ie:=by
 unfold Mp at h;split at h
 .cases h
 rename_i i hi;split at h
 .cases h
 rename_i i2 R4;split at h
 case h_2=>cases h
 rename_i E g;split at h
 case h_2=>cases h
 rename_i E2 hE2;split at h
 .cases h
 rename_i b;have f:=bX b;subst f;split at h
 .cases h
 rename_i ie hie;split at h
 case h_2=>cases h
 rename_i e d;cases h;exact⟨⟨t,a,i,i2,ho,c t i hi,g,c a i2 R4,hE2⟩,c _ _ hie,by have:=dJ e;omega,by have:=dJ d;omega⟩
def zu(c:c8 P T){b:aw}{ie:TI}{m:Nat}{es':Nat->List C}(ho:o.op=.call {callee:=.builtin .append,args:=#[x,y],argTypes:=#[t,b]})(h:Ik T η y t b=aa (E,ie,m,es')):
  lr P o x y E ie/\∃tx,∀σ s v,dk σ s v (η y)->Rd s.M v (.sl tx ie.size m es'):=by
 unfold Ik at h;split at h
 .cases h
 rename_i e;split at h
 .cases h
 rename_i tx k' m es' hy;split at h
 .cases h
 rename_i a;have d:=bX a;subst d;cases h;exact⟨ER c ho e,tx,λσ s v=>pH hy σ s v⟩
theorem Mr(g:c8 P T)(j:∀σ s a,ck N σ s φ a->aY o (yielded all.toArray a.tmps)=ab){f:aw}{d:D}(ho:o.op=.call {callee:=.builtin .append,args:=#[x,y],argTypes:=#[t,f]})(h:PO T (bJ φ) x y t f=aa (d,obs))(b:au obs):OA X N all o φ σ d σ:=by
 unfold PO at h;split at h
 .cases h
 rename_i E2 ie m es' hY;obtain⟨e,tx,c⟩:=zu g ho hY;have c:=λs v=>c σ s v;split at h
 .rename_i k n es hx;split at h
  .rename_i i;cases h;exact(OA.mK j (bD.oC e hx (.inr (bX i)) c b.1 b.2)).SK
  grind
 grind
theorem Ms(E:c8 P T){B:aw}{d:D}(ho:o.op=.call {callee:=.builtin .append,args:=#[x,y],argTypes:=#[t,B]})(h:PN T η σ x y t B=aa (d,σ',obs))(a:au obs):bD P o η σ d σ':=by
 unfold PN at h;split at h
 .cases h
 rename_i E2 ie m es' hY;obtain⟨b,tx,c⟩:=zu E ho hY;have c:=λs v=>c σ s v;split at h
 .rename_i k n es hx;split at h
  .rename_i G;rw[cU]at h;cases h;exact bD.oC b hx (.inl (bX G)) c a.1 a.2
  .split at h
   .rename_i F;rw[cU]at h;cases h;exact bD.oC b hx (.inr (bX F)) c a.1 a.2
   grind
 .rename_i l k n es hx;split at h
  .rename_i H C e yZ hl;split at h
   .rename_i r u f;rw[cU,kV]at h;cases h;obtain⟨z,q,w⟩:e=n/\yZ=es/\_:=a;subst z;subst q;have A:=bX r;subst A;have i:=bX u;have j:=bX f;subst j;subst i;exact bD.FY b hx (cX hl) c w
   grind
  grind
 .rename_i l g k n hx;split at h
  .rename_i H C e yZ hl;split at h
   .rename_i r u f;rw[cU,kV]at h;cases h;obtain⟨z,q,w⟩:g=e/\n=e/\_:=a;subst z;subst q;have A:=bX r;subst A;have i:=bX u;have j:=bX f;subst j;subst i;exact bD.Mt b hx (cX hl) c w
   grind
  grind
 grind
theorem Mv(a:c8 P T){d:D}(ho:o.op=.call {callee:=.builtin .len,args:=#[x],argTypes:=jJ})(c:jJ[0]?=aa t)(h:PK T t (η x)=aa d):bD P o η σ d σ:=by
 unfold PK at h;split at h
 .cases h
 rename_i i hi;split at h
 .rename_i E b;split at h
  .rename_i tt k n es hs;cases h;exact bD.SN a ho c hi b (λs v=>pH hs σ s v)
  grind
 .grind [bD.PR]
 grind
theorem Im(l:c8 P T){b c:aw}{d:D}(ho:o.op=.convert b c x)(h:Ii T b c (η x)=aa (d,obs))(a:au obs):bD P o η σ d σ:=by
 unfold Ii at h;split at h
 .cases h
 rename_i i hi;split at h
 .cases h
 rename_i i2 R4;split at h
 .rename_i k' hd;split at h
  .rename_i k j q;cases h;exact bD.Mw l ho hi R4 hd q a
  grind
 .rename_i hd;split at h
  .grind [bD.Mx]
  .split at h
   .rename_i E g;split at h
    .rename_i ie hE;split at h
     .rename_i f;split at h
      .rename_i tt k n es hs;split at h
       .rename_i t;have e:=bX t;subst e;split at h
        .rename_i r m;cases h;exact bD.F5 l ho hi R4 g hd hE f (λs v=>pH hs σ s v) m
        grind
       grind
      grind
     grind
    grind
   grind
 grind
theorem F6(f:c8 P T){lo hi:Option aC}{d:D}(ho:o.op=.slice t x lo hi af)(h:C6 T η t x lo hi=aa (d,obs))(a:au obs):bD P o η σ d σ:=by
 unfold C6 at h;split at h
 .cases h
 rename_i i b;split at h
 .cases h
 rename_i l c;split at h
 .cases h
 rename_i u e;split at h
 .grind [bD.Io]
 .grind [Nat.eq_of_beq_eq_true,bD.My,pH]
 grind
theorem vg{xs:Array α}{x:α}(h:xs.toList=[x]):xs=#[x]:=Array.ext' h
theorem vh{xs:Array α}{x y:α}(h:xs.toList=[x,y]):xs=#[x,y]:=Array.ext' h
theorem PS(w:c8 P T)(M:bA X CT){d:D}(h:Vd T CT φ o=aa (d,obs))(g:au obs)(u:∀σ s a,ck N σ s φ a->aY o (yielded all.toArray a.tmps)=ab):OA X N all o φ σ d σ:=by
 unfold Vd at h;split at h
 .grind [OA.mK,bD.move]
 .grind [OA.mK,bD.assign]
 .rename_i t x y ho;split at h
  .rename_i i hi;split at h
   .rename_i B;split at h
    .rename_i l k j r C;cases h;obtain⟨H,L⟩:0<=j/\j<(l.length:Int):=g;have:=bD.Ip (σ:=σ) (m:=j.toNat) w ho hi B r C (by omega) (by omega);have e:iG l j=l[j.toNat]'(by omega):=by simp[iG,aj,bm (by omega:j.toNat<l.length)]
     grind[OA.mK]
    grind
   grind
  grind
 .rename_i t x y ho;split at h
  .rename_i i hi;split at h
   .rename_i E B;split at h
    .rename_i ie hE;split at h
     .rename_i tt k n es k2 j r C;split at h
      .rename_i J;cases h;obtain⟨H,L⟩:0<=j/\j<(n:Int):=g;have e:=bX J;subst e;exact OA.mK u (bD.indexAddr (m:=j.toNat) w ho hi B hE (λs v=>pH r σ s v) C (by omega) (by omega))
      grind
     grind
    grind
   grind
  grind
 .grind [OA.mK,F6]
 .grind [OA.mK,Im]
 .rename_i c ho;obtain⟨I,args,jJ⟩:=c;grind[vg,OA.mK,Mv,OA.A5]
 .rename_i c a b q;split at h
  .rename_i A;cases h;exact OA.mK u (bD.pick q A)
  .rename_i A;cases h;exact OA.mK u (bD.pick q A)
  grind
 .rename_i op t y z ty q;unfold OB at h;split at h
  .grind [OA.mK,bD.PT]
  .rename_i a b _ F G;split at h
   .split at h
    .rename_i _ _ a' b' _ _;cases h;exact OA.mK u (bD.SP q F G g.1 g.2)
    .grind [rC,OA.mK,bD.bits]
    grind
   .grind [rC,OA.mK,bD.bits]
   .grind [rC,OA.mK,bD.bits]
   .grind [rC,OA.mK,bD.bits]
   grind[OA.mK,bD.binOp]
  .rename_i cs es F G;split at h
   .grind [OA.mK,bD.structEq]
   grind
  grind
 .grind [OA.mK,bD.unOp]
 .grind [OA.mK,bD.extract,cX]
 .rename_i t y f q;split at h
  .rename_i k j K;split at h
   .rename_i l off r;cases h;exact OA.mK u (bD.rD w q r K)
   .grind [OA.mK,bD.tj]
   grind
  grind
 .grind [OA.mK,bD.field]
 .grind [OA.mK,bD.tk,bD.vj]
 .grind [OA.mK,bD.build]
 .grind [OA.mK,bD.buildSlice]
 .grind [OA.mK,bD.makeFunc]
 .grind [OA.mK,bD.makeInterface]
 grind
theorem PU(F:c8 P T){d:D}(h:Wd T φ o=aa (d,obs))(e:au obs):bD P o (bJ φ) σ d σ:=by
 unfold Wd at h;split at h
 .rename_i t x y ho;split at h
  .rename_i i hi;split at h
   .rename_i E A;split at h
    .rename_i ie hE;split at h
     .rename_i l g k q m kk j r B;split at h
      .rename_i O;cases h;obtain⟨C,G⟩:0<=j/\j<(m:Int):=e;grind[Nat.eq_of_beq_eq_true,bD.Wh]
      grind
     .rename_i b off n cap kk j r B;cases h;obtain⟨C,G⟩:0<=j/\j<(n:Int):=e;grind[bD.A8]
     grind
    grind
   grind
  grind
 .rename_i t x f ho;split at h
  .rename_i k j I;split at h
   .rename_i l g U i q r;cases h;exact bD.PV F ho r I
   .rename_i b off r;cases h;exact bD.PW F ho r I
   grind
  grind
 .grind [bD.Wi]
 .rename_i t x lo hi ho;split at h
  .cases h
  rename_i i u;split at h
  .cases h
  rename_i R S;split at h
  .cases h
  grind[Nat.eq_of_beq_eq_true,bD.sliceB]
 .rename_i t x y z ho;split at h
  .cases h
  rename_i i u;split at h
  .rename_i E A;split at h
   .cases h
   rename_i ie hE;split at h
   .rename_i tt k n es kj j K m r B J;cases h;obtain⟨C,G,H⟩:0<=j/\j<=m/\m<=(n:Int):=e;exact bD.slice3 F ho u A hE (λs v=>pH r σ s v) B J C G H
   grind
  grind
 .rename_i t x w y z ho;split at h
  .cases h
  rename_i i u;split at h
  .rename_i E A;split at h
   .cases h
   rename_i ie hE;split at h
   .rename_i l g k q n N i kj j K m r V B J;cases h;obtain⟨C,G,H,Q⟩:0<=i/\i<=j/\j<=m/\m<=(n:Int):=e;grind[bD.slice3B]
   grind
  grind
 .rename_i c ho;obtain⟨M,args,jJ⟩:=c;simp only at h;split at h
  .split at h
   .rename_i x t r L;split at h
    .rename_i i hi;split at h
     .rename_i E A;split at h
      .grind [vg,bD.Wj]
      .rename_i a n cap hxx;cases h;have:=vg r;subst this;exact bD.Wk F ho L hi A hxx e
      grind
     grind
    grind
   grind
  grind
 grind
theorem F7(c:c8 P T)(ho:o.op=.load t x){d:D}(h:zm T φ σ t x=aa (d,obs))(a:au obs):bD P o (bJ φ) σ d σ:=by
 unfold zm at h;split at h
 .rename_i q hi;split at h
  .rename_i l g k i f j;split at h
   .rename_i E k' n es hB;split at h
    .rename_i m;have e:=bX m;subst e;split at h
     .rename_i e b;cases h;exact bD.SQ c ho j a.1 (cX hB) hi b a.2
     grind
    grind
   grind
  grind
 grind
theorem C7(c:c8 P T)(ho:o.op=.store t x y){d:D}(h:zr T φ σ t x y=aa (d,σ',obs))(a:au obs):bD P o (bJ φ) σ d σ':=by
 unfold zr at h;split at h
 .rename_i u hi;split at h
  .rename_i l g k i f j;split at h
   .rename_i E k' n es hB;split at h
    .rename_i r;have e:=bX r;subst e;split at h
     .rename_i new hy;split at h
      .rename_i m;split at h
       .rename_i cc On;split at h
        .rename_i q;rw[cU,kV]at h;cases h;have b:f=0/\cc.length=k':=by
          cases f with
          |zero=>exact⟨rfl,bX q⟩
          |succ f=>simp[Ij]at q
         obtain⟨rfl,b⟩:=b;exact bD.Iq c ho j a.1 (cX hB) hi hy (bX m) On (λs=>rE (by grind)) a.2
        .split at h
         .rename_i ci Wl;rw[cU,kV]at h;cases h;exact bD.Iq c ho j a.1 (cX hB) hi hy (bX m) On (λ_=>Wl) a.2
         grind
       grind
      grind
     grind
    grind
   grind
  grind
 grind
theorem PX(f:c8 P T)(g:bA X CT){d:D}(h:Mj T CT φ σ o=aa (d,obs))(b:au obs)(j:∀σ s a,ck N σ s φ a->aY o (yielded all.toArray a.tmps)=ab):OA X N all o φ σ d σ:=by
 unfold Mj at h;split at h
 .rename_i t y e;split at h
  .rename_i i c;cases h;unfold H9 at c;split at c
   .grind [OA.mK,bD.ES,cX,bD.Ir]
   grind
  grind[OA.mK,F7]
 grind[PS,OA.mK,PU]
theorem PY(f:c8 P T)(g:bA X CT){d:D}(h:We T CT φ σ o=aa (d,σ',obs))(b:au obs)(i:∀σ s a,ck N σ s φ a->aY o (yielded all.toArray a.tmps)=ab):OA X N all o φ σ d σ':=by
 unfold We at h;split at h
 .grind [OA.mK,C8]
 .grind [OA.mK,C8]
 .grind [OA.mK,C8,C7]
 .rename_i c ho;obtain⟨e,args,jJ⟩:=c;grind[vh,OA.mK,Ms,OA.call]
 grind
def Mz{ie:TI}{d:D}(b:lr P o x y E ie)(h:PQ E ie η σ x y=aa (d,σ',obs))(a:au obs):bD P o η σ d σ':=by
 unfold PQ at h;split at h
 .rename_i l g k i l' g' k' j m s A;split at h
  .cases h
  rename_i c;have el:=bX c;subst el;split at h
  .rename_i C B n es hl;split at h
   .rename_i r q2 q3 q4;have e:=bX r;have z:=bX q2;have f:=bX q3;have u:=bX q4;rw[cU]at h;cases h;obtain⟨w,q,t,v⟩:=a;subst w q e z f u;have:=bD.HM (σ:=σ) b s A (cX hl) t v;grind[kV]
   grind
  grind
 grind
theorem MA(e:c8 P T){w:Bool}{f:aw}{d:D}(ho:o.op=.call {callee:=.builtin .append,args:=#[x,y],argTypes:=#[t,f]})(h:appW w T η σ x y t f=aa (d,σ',obs))(a:au obs):bD P o η σ d σ':=by
 unfold appW at h;split at h
 .split at h
  .cases h
  rename_i E2 ie m es' hY;obtain⟨b,tx,c⟩:=zu e ho hY;split at h
  .rename_i k n es hx;split at h
   .rename_i i;have j:=bX i;subst j;rw[cU]at h;cases h;exact bD.FW b hx (λs v=>c _ s v) a
   grind
  grind
 .split at h
  .cases h
  rename_i g;exact Mz (ER e ho g) h a
theorem PZ(f:c8 P T)(g:bA X CT){d:D}(h:SE ds T CT φ σ o=aa (d,σ',obs))(b:au obs)(i:∀σ s a,ck N σ s φ a->aY o (yielded all.toArray a.tmps)=ab):OA X N all o φ σ d σ':=by
 have key:∀w,Vh w T φ σ o=aa (d,σ',obs)->OA X N all o φ σ d σ':=by
  intro w h;unfold Vh at h;split at h
  .rename_i c ho;obtain⟨e,args,jJ⟩:=c;grind[vh,OA.mK,MA]
  grind
 unfold SE at h;grind[PY]
def en(v:c8 P T)(z:bA X CT){d:D}{σ':Option (List bd)}(h:tR T CT ds all φ σ o=aa (d,σ',obs))(g:au obs):OA X N all o φ σ d (σ'.getD σ):=by
 have go:(∀σ s a,ck N σ s φ a->aY o (yielded all.toArray a.tmps)=ab)->(match Mj T CT φ σ o with
  |some (x,obs)=>match Ig ds o.dst x obs with
   |some (y,i)=>nE y λy=>aa (y,af,i)
   |none=>af
  |none=>match V2 ds o.dst with
   |true=>match Wf T φ o with
    |some (x,obs)=>nE x λx=>aa (x,af,obs)
    |none=>af
   |false=>match SE ds T CT φ σ o with
    |some (x,σ',obs)=>nE x λx=>aa (x,aa σ',obs)
    |none=>af)=aa (d,σ',obs)->OA X N all o φ σ d (σ'.getD σ):=by
  intro B h;split at h
  .rename_i x l w;split at h
   .rename_i y q u;rw[mR]at h;cases h;obtain⟨rfl,A⟩:=Mq u g;grind[PX]
   grind
  .split at h
   .split at h
    .rename_i x l m;rw[mR]at h;cases h;unfold Wf at m;split at m
     .rename_i c ho;obtain⟨r,args,jJ⟩:=c;grind[vh,Mr]
     grind
    grind
   grind[mR,PZ]
 unfold tR at h;simp only at h;split at h
 .grind [du]
 .rename_i j b k;split at h
  .rename_i n e;have t:∀σ s a,ck N σ s φ a->aY o (yielded all.toArray a.tmps)=(aa n==aa b):=λσ s a f=>by simp only[aY,k,pJ e f]
   split at h
   .grind
   .grind
   .cases h;refine OA.pass (λσ s a f=>(t σ s a f).trans ?_);cases b<;>cases n<;>simp_all
  .rename_i e;cases h;exact OA.pass (λσ s a f=>by simp only[aY,k,pJ e f];rfl)
  grind
end
variable {CT:List (Nat×dy)}{K:List It}{Qf:Post}{T:List (Nat×TI)}{ie:TI}
def HB(φ:Fr)(o:aB):Bool:=match o.op with
 |.load _ x=>match bJ φ x with
  |.e (.one (.c (.rp _)))=>ae
  |_=>ab
 |_=>ae
def H8{σ2:List bd}(h:HB φ o=ae):Mj T CT φ σ o=Mj T CT φ σ2 o:=by
 unfold Mj;split
 .rename_i t x ho;simp only[HB,ho]at h;split at h
  .rename_i cs hx;simp only[H9,zm,hx]
  grind
 .rfl
def Ia{d:D}(h:HB φ o=ae)(a:tR T CT ds all φ σ o=aa (d,af,obs))(σ2:List bd):
  tR T CT ds all φ σ2 o=aa (d,af,obs):=by
 unfold tR at a⊢;simp only at a⊢;rw[H8 (σ2:=σ) h];cases b:Mj T CT φ σ o with
 |some r=>grind
 |none =>
  simp only[b]at a⊢;cases c:V2 ds o.dst with
  |true=>grind
  |false =>
   simp only[c]at a⊢;have key:∀{y:Option (D×Option (List bd)×List Prop)},(match SE ds T CT φ σ o with|some (x,σ',obs)=>nE x λx=>aa (x,aa σ',obs)|none=>af)=y->y≠aa (d,af,obs):=by grind[mR]
   split at a
   .grind
   grind
def oL(t:Nat):List aB->Bool
 |[]=>ae
 |o::r=>match o.dst with
  |some d=>match av d t with|true=>ab|false=>oL t r
  |none=>oL t r
theorem rv{t:Nat}:∀{l:List aB}{i:Nat}{o:aB},l[i]?=aa o->o.dst=aa t->oL t l=ab
 |[],_,_,h,_=>by grind
 |p::r,0,o,h,a=>by simp at h;subst h;simp[oL,a,jm]
 |p::r,i+1,o,h,a=>by have:=rv (l:=r) (by simpa using h) a;simp only[oL];grind
theorem pF{t:Nat}:∀{l:List aB},oL t l=ab->∃(i:Nat)(o:aB),l[i]?=aa o/\o.dst=aa t
 |[],h=>by cases h
 |p::r,h=>by
  simp only[oL]at h;split at h
  .rename_i d e;split at h
   .rename_i c;exact⟨0,p,rfl,by grind[Nat.eq_of_beq_eq_true]⟩
   .obtain⟨i,o,b,a⟩:=pF h;exact⟨i+1,o,by grind,a⟩
  .obtain⟨i,o,b,a⟩:=pF h;exact⟨i+1,o,by grind,a⟩
def mS:List aB->Bool
 |[]=>ab
 |o::r=>match o.dst with
  |some d=>match oL d r with|true=>ae|false=>mS r
  |none=>mS r
theorem sq{t:Nat}:∀{l:List aB}{i j:Nat}{o p:aB},mS l=ab->l[i]?=aa o->l[j]?=aa p->o.dst=aa t->p.dst=aa t->i=j
 |[],_,_,_,_,_,h,_,_,_=>by grind
 |q::r,0,0,_,_,_,_,_,_,_=>rfl
 |q::r,0,j+1,o,p,ho,b,a,d1,d2=>by simp at b;subst b;simp only[mS,d1]at ho;grind[rv]
 |q::r,i+1,0,o,p,ho,b,a,d1,d2=>by simp at a;subst a;simp only[mS,d2]at ho;grind[rv]
 |q::r,i+1,j+1,o,p,ho,b,a,d1,d2=>by
  have:mS r=ab:=by simp only[mS]at ho;grind
  have c:r[i]?=aa o:=by grind
  have d:r[j]?=aa p:=by grind
  have e:=sq this c d d1 d2;omega
def tS(all:List aB):Fr->Fr
 |[]=>[]
 |(t,d)::r=>match oL t all with|true=>tS all r|false=>(t,d)::tS all r
def lg{all:List aB}{t:Nat}:∀{φ:Fr},look (tS all φ) t=if oL t all=ab then .any else look φ t
 |[]=>by simp[tS,look]
 |(u,d)::r=>by
  simp only[tS];by_cases b:av u t=ab
  .have e:=bX b;subst e;cases c:oL u all with
   |true=>simp only;rw[lg];grind
   |false=>simp[look]
  .have a:av u t=ae:=by grind
   cases c:oL u all with
   |true=>simp only;rw[lg];simp[look,a]
   |false=>simp only[look,a,cond];rw[lg]
def bP:List Edge->List Nat
 |[]=>[]
 |e::r=>match e.ground with
  |.textOnly _=>bP r
  |.gcOnly _=>bP r
  |_=>e.on::bP r
theorem eC{j:Nat}:∀{l:List Edge},j∈bP l↔∃e∈l,de e=ab/\e.on=j
 |[]=>by simp[bP]
 |e::r=>by
  have c:=eC (j:=j) (l:=r);have yes:bP (e::r)=e.on::bP r->de e=ab->(j∈bP (e::r)↔∃a∈e::r,de a=ab/\a.on=j):=by grind
  have no:bP (e::r)=bP r->de e=ae->(j∈bP (e::r)↔∃a∈e::r,de a=ab/\a.on=j):=by grind
  cases b:e.ground with
  |textOnly w=>exact no (by simp only[bP,b]) (by unfold de Region.binds;grind)
  |gcOnly w=>exact no (by simp only[bP,b]) (by unfold de Region.binds;grind)
  |_=>exact yes (by simp only[bP,b]) (by unfold de Region.binds;rw[b])
def u9(i t:Nat):List aB->Bool
 |[]=>ae
 |o::r=>match o.dst with
  |some d=>match av d t with
   |true=>match gZ i (bP o.after.toList)with
    |true=>u9 i t r
    |false=>ab
   |false=>u9 i t r
  |none=>u9 i t r
def va{i t:Nat}:∀{l:List aB},u9 i t l=ae->∀(j:Nat)(o:aB),l[j]?=aa o->o.dst=aa t->gZ i (bP o.after.toList)=ab
 |[],_,j,o,h,_=>by grind
 |p::r,h,0,o,b,a=>by simp at b;subst b;simp only[u9,a,jm]at h;grind
 |p::r,h,j+1,o,b,a=>by
  have:u9 i t r=ae:=by simp only[u9]at h;grind
  exact va this j o (by grind) a
def oM(all:List aB):Fr->List (Nat×D×Bool)
 |[]=>[]
 |(t,d)::r=>match oL t all with
  |true=>(t,d,ab)::oM all r
  |false=>(t,d,ae)::oM all r
def km(i:Nat)(all:List aB):List (Nat×D×Bool)->Fr
 |[]=>[]
 |(t,d,b)::r=>match b with
  |false=>(t,d)::km i all r
  |true=>match u9 i t all with
   |true=>km i all r
   |false=>(t,d)::km i all r
def xP{i:Nat}{all:List aB}{t:Nat}:∀{φ:Fr},look (km i all (oM all φ)) t=if oL t all=ab/\u9 i t all=ab then .any else look φ t
 |[]=>by simp[oM,km,look]
 |(u,d)::r=>by
  have e:=xP (i:=i) (all:=all) (t:=t) (φ:=r);have keep:look ((u,d)::km i all (oM all r)) t=if av u t=ab then d else look (km i all (oM all r)) t:=by simp only[look];cases av u t<;>rfl
  have b:look ((u,d)::r) t=if av u t=ab then d else look r t:=by simp only[look];cases av u t<;>rfl
  cases a:oL u all with
  |false =>
   simp only[oM,a,km];grind[Nat.eq_of_beq_eq_true]
  |true =>
   cases c:u9 i u all with
   |true =>
    simp only[oM,a,km,c];grind[Nat.eq_of_beq_eq_true]
   |false =>
    simp only[oM,a,km,c];grind[Nat.eq_of_beq_eq_true]
def iW(m:Nat->Bool):Nat->List (Option Nat×D)->Fr->Fr
 |_,[],φ=>φ
 |i,(d,x)::r,φ=>match m i with
  |true=>match d with
   |some t=>(t,x)::iW m (i+1) r φ
   |none=>iW m (i+1) r φ
  |false=>iW m (i+1) r φ
def mT{m:Nat->Bool}{φ:Fr}{t:Nat}:∀{l:List (Option Nat×D)}{i:Nat},(∃j x,l[j]?=aa (aa t,x)/\m (i+j)=ab/\look (iW m i l φ) t=x)∨look (iW m i l φ) t=look φ t
 |[],i=>.inr rfl
 |(d,x)::r,i=>by
  have g:=mT (m:=m) (φ:=φ) (t:=t) (l:=r) (i:=i+1);have step:look (iW m i ((d,x)::r) φ) t=look (iW m (i+1) r φ) t->((∃j a,((d,x)::r)[j]?=aa (aa t,a)/\m (i+j)=ab/\look (iW m i ((d,x)::r) φ) t=a)∨look (iW m i ((d,x)::r) φ) t=look φ t):=by
   intro e;rw[e];rcases g with⟨j,a,n,o,f⟩|h
   .exact .inl ⟨j+1,a,by grind,by grind,f⟩
   grind
  cases b:m i with
  |false=>exact step (by simp[iW,b])
  |true =>
   cases d with
   |none=>exact step (by simp[iW,b])
   |some u =>
    by_cases k:av u t=ab
    .have e:=bX k;subst e;exact .inl ⟨0,x,rfl,by grind,by simp[iW,b,look]⟩
    .have c:av u t=ae:=by grind
     exact step (by simp[iW,b,look,c])
structure CI where
 i:Nat
 pre:List (Option Nat×D)
 σ:List bd
 cls:List (List Bool)
 zn:List Bool
 Mk:List Bool
 obs:List Prop
def R2(i:Nat):List Nat->Bool
 |[]=>ab
 |k::r=>match Nat.blt k i with|true=>R2 i r|false=>ae
def C3{i:Nat}:∀{l:List Nat},R2 i l=ab->∀k∈l,k<i
 |[],_,k,h=>by grind
 |x::r,h,k,a=>by
  simp only[R2]at h;cases b:Nat.blt x i with
  |false=>grind
  |true =>
   simp only[b]at h;rcases dK.1 a with rfl|a
   .exact dJ b
   .exact C3 h k a
def bit:List Bool->Nat->Bool
 |[],_=>ae
 |b::_,0=>b
 |_::r,n+1=>bit r n
def xi:List Bool->List Bool->List Bool
 |[],b=>b
 |true::a,[]=>ab::a
 |false::a,[]=>ae::a
 |true::a,_::b=>ab::xi a b
 |false::a,ab::b=>ab::xi a b
 |false::a,ae::b=>ae::xi a b
def l4:∀{a b:List Bool}{j:Nat},bit (xi a b) j=(bit a j||bit b j)
 |[],b,j=>by simp[xi,bit]
 |true::a,[],j=>by simp[xi,bit]
 |false::a,[],j=>by simp[xi,bit]
 |true::a,c::b,0=>by simp[xi,bit]
 |true::a,c::b,j+1=>by simp only[xi,bit];exact l4
 |false::a,ab::b,0=>by simp[xi,bit]
 |false::a,ab::b,j+1=>by simp only[xi,bit];exact l4
 |false::a,ae::b,0=>by simp[xi,bit]
 |false::a,ae::b,j+1=>by simp only[xi,bit];exact l4
def sr:Nat->List Bool
 |0=>[ab]
 |n+1=>ae::sr n
theorem ry:∀{n j:Nat},bit (sr n) j=decide (n=j)
 |0,0=>rfl
 |0,j+1=>by simp[sr,bit]
 |n+1,0=>by simp[sr,bit]
 |n+1,j+1=>by simp only[sr,bit,ry];simp
def EL(a:List (List Bool)):List Nat->List Bool
 |[]=>[]
 |e::r=>match eB e a with
  |some c=>xi (xi c (sr e)) (EL a r)
  |none=>xi (sr e) (EL a r)
theorem zo{b:List (List Bool)}{j:Nat}:∀{l:List Nat},bit (EL b l) j=ab->∃e∈l,e=j∨∃c,b[e]?=aa c/\bit c j=ab
 |[],h=>by simp[EL,bit]at h
 |e::r,h=>by
  simp only[EL,eW]at h;have two:∀{a:Nat},bit (sr e) a=ab->e=a:=by grind[ry]
  have rest:bit (EL b r) j=ab->∃d∈e::r,d=j∨∃c,b[d]?=aa c/\bit c j=ab:=by intro h;obtain⟨d,f,i⟩:=zo h;grind
  split at h
  .rename_i c g;rw[l4,l4,my,my]at h;grind
  .rw[l4,my]at h;grind
def ss:List Bool->List Bool->Bool
 |[],_=>ab
 |true::a,ab::b=>ss a b
 |true::_,_=>ae
 |false::a,_::b=>ss a b
 |false::a,[]=>ss a []
theorem pG:∀{a b:List Bool}{j:Nat},ss a b=ab->bit a j=ab->bit b j=ab
 |[],b,j,_,d=>by simp[bit]at d
 |true::a,ab::b,0,_,_=>rfl
 |true::a,ab::b,j+1,h,d=>by simp only[bit]at d⊢;exact pG (by simpa[ss]using h) d
 |true::a,ae::b,j,h,_=>by simp[ss]at h
 |true::a,[],j,h,_=>by simp[ss]at h
 |false::a,c::b,0,_,d=>by simp[bit]at d
 |false::a,c::b,j+1,h,d=>by simp only[bit]at d⊢;exact pG (by simpa[ss]using h) d
 |false::a,[],0,_,d=>by simp[bit]at d
 |false::a,[],j+1,h,d=>by simp only[bit]at d;have:=pG (j:=j) (by simpa[ss]using h) d;simp[bit]at this
def rz(T:List (Nat×TI))(CT:List (Nat×dy))(N:Nat)(ds:List (Nat×Bool))(all:List aB)(φm:List (Nat×D×Bool))(st:CI)(o:aB):Option CI :=
 match fD N o.dst with
 |false=>af
 |true =>
  dn (bP o.after.toList) λes =>
  match R2 st.i es with
  |false=>af
  |true=>match tR T CT ds all (iW (λj=>gZ j es) 0 st.pre (km st.i all φm)) st.σ o with
   |none=>af
   |some (x,σ',obs) =>
    dn (EL st.cls es) λcl =>
    match σ',HB (iW (λj=>gZ j es) 0 st.pre (km st.i all φm)) o with
    |none,ae=>dn (st.pre++[(o.dst,x)]) λpre=>dn (st.cls++[cl]) λcls=>dn (iF obs st.obs) λobs=>aa ⟨st.i+1,pre,st.σ,cls,st.zn,st.Mk,obs⟩
    |none,ab=>match ss st.zn cl with
     |true=>dn (st.pre++[(o.dst,x)]) λpre=>dn (st.cls++[cl]) λcls=>dn (iF obs st.obs) λobs=>dn (xi st.Mk (sr st.i)) λa=>aa ⟨st.i+1,pre,st.σ,cls,st.zn,a,obs⟩
     |false=>af
    |some σ',_=>match ss st.Mk cl with
     |true=>dn (st.pre++[(o.dst,x)]) λpre=>dn (st.cls++[cl]) λcls=>dn (iF obs st.obs) λobs=>dn (xi st.Mk (sr st.i)) λa=>dn (xi st.zn (sr st.i)) λb=>aa ⟨st.i+1,pre,σ',cls,b,a,obs⟩
     |false=>af
def Ml(T:List (Nat×TI))(CT:List (Nat×dy))(N:Nat)(ds:List (Nat×Bool))(all:List aB)(φm:List (Nat×D×Bool)):List aB->CI->Option CI
 |[],st=>aa st
 |o::r,st=>match rz T CT N ds all φm st o with
  |some pY=>Ml T CT N ds all φm r pY
  |none=>af
def EM(T:List (Nat×TI))(CT:List (Nat×dy))(N:Nat)(ds:List (Nat×Bool))(all:List aB)(φ:Fr)(σ:List bd):Option (Fr×List bd×List Prop) :=
 match mS all with
 |false=>af
 |true=>dn (oM all φ) λφm=>match Ml T CT N ds all φm all ⟨0,[],σ,[],[],[],[]⟩with
  |some st=>dn (iW (λ_=>ab) 0 st.pre (tS all φ)) λφ'=>aa (φ',st.σ,st.obs)
  |none=>af
def je:aB:=⟨af,.move (.tmp 0),0,"",#[],af⟩
section
variable (T:List (Nat×TI))(CT:List (Nat×dy))(N:Nat)(ds:List (Nat×Bool))(all:List aB)(φm:List (Nat×D×Bool))
def xj(st:CI):Nat->CI
 |0=>st
 |i+1=>(rz T CT N ds all φm (xj st i) (all.getD i je)).getD (xj st i)
def Ox(st:CI)(i:Nat):Fr:=iW (λj=>gZ j (bP (all.getD i je).after.toList)) 0 (xj T CT N ds all φm st i).pre (km (xj T CT N ds all φm st i).i all φm)
def EN(st:CI)(i:Nat):Option (D×Option (List bd)×List Prop):=tR T CT ds all (Ox T CT N ds all φm st i) (xj T CT N ds all φm st i).σ (all.getD i je)
def xD(st:CI)(i:Nat):D:=match EN T CT N ds all φm st i with|some (x,_,_)=>x|none=>.any
def oo(st:CI)(i:Nat):Bool:=match EN T CT N ds all φm st i with|some (_,aa _,_)=>ab|_=>ae
def th(st:CI)(i:Nat):Bool:=!HB (Ox T CT N ds all φm st i) (all.getD i je)&&!oo T CT N ds all φm st i
def Oy(st:CI)(i:Nat):List Bool:=EL (xj T CT N ds all φm st i).cls (bP (all.getD i je).after.toList)
end
section
variable {T:List (Nat×TI)}{CT:List (Nat×dy)}{N:Nat}{ds:List (Nat×Bool)}{all:List aB}{φm:List (Nat×D×Bool)}
structure Ib(T:List (Nat×TI))(CT:List (Nat×dy))(N:Nat)(ds:List (Nat×Bool))(all:List aB)(φm:List (Nat×D×Bool))(st pY:CI)(o:aB)(x:D)(σ':Option (List bd))(obs:List Prop):Prop where
 dst:fD N o.dst=ab
 lt:R2 st.i (bP o.after.toList)=ab
 op:tR T CT ds all (iW (λj=>gZ j (bP o.after.toList)) 0 st.pre (km st.i all φm)) st.σ o=aa (x,σ',obs)
 i:pY.i=st.i+1
 pre:pY.pre=st.pre++[(o.dst,x)]
 cls:pY.cls=st.cls++[EL st.cls (bP o.after.toList)]
 σ:pY.σ=σ'.getD st.σ
 obs:pY.obs=iF obs st.obs
 Z4:pY.zn=if σ'.isSome=ab then xi st.zn (sr st.i)else st.zn
 nf:pY.Mk=if(HB (iW (λj=>gZ j (bP o.after.toList)) 0 st.pre (km st.i all φm)) o||σ'.isSome)=ab then xi st.Mk (sr st.i)else st.Mk
 load:HB (iW (λj=>gZ j (bP o.after.toList)) 0 st.pre (km st.i all φm)) o=ab->σ'.isSome=ae->ss st.zn (EL st.cls (bP o.after.toList))=ab
 iD:σ'.isSome=ab->ss st.Mk (EL st.cls (bP o.after.toList))=ab
def A3{st pY:CI}(h:rz T CT N ds all φm st o=aa pY):∃x σ' obs,Ib T CT N ds all φm st pY o x σ' obs:=by
 unfold rz at h;split at h
 .cases h
 rename_i b;simp only[cU]at h;split at h
 .cases h
 rename_i a;split at h
 .cases h
 rename_i x σ' obs ir;refine⟨x,σ',obs,?_⟩;cases σ' with
 |none =>
  cases d:HB (iW (λj=>gZ j (bP o.after.toList)) 0 st.pre (km st.i all φm)) o with
  |false =>
   simp only[d,cU]at h;cases h;exact⟨b,a,ir,rfl,rfl,rfl,rfl,rfl,by simp,by grind,by grind,by simp⟩
  |true =>
   simp only[d,cU]at h;split at h
   .rename_i c;cases h;exact⟨b,a,ir,rfl,rfl,rfl,rfl,rfl,by simp,by grind,λ_ _=>c,by simp⟩
   grind
 |some σ' =>
  simp only[cU]at h;split at h
  .rename_i c;cases h;exact⟨b,a,ir,rfl,rfl,rfl,rfl,rfl,by simp,by simp,by simp,λ_=>c⟩
  grind
def EO{st sf:CI}:∀{rest:List aB}{k:Nat},(∀i,rest[i]?=all[k+i]?)->Ml T CT N ds all φm rest (xj T CT N ds all φm st k)=aa sf ->
  (∀i o,rest[i]?=aa o->rz T CT N ds all φm (xj T CT N ds all φm st (k+i)) o=aa (xj T CT N ds all φm st (k+i+1)))/\xj T CT N ds all φm st (k+rest.length)=sf
 |[],k,_,h=>by cases h;grind
 |p::r,k,c,h=>by
  simp only[Ml]at h;have d:all[k]?=aa p:=by have:=c 0;grind
  split at h
  .rename_i a b;have e:xj T CT N ds all φm st (k+1)=a:=by simp only[xj,aj,d,ga,b]
   rw[<-e]at h;obtain⟨f,g⟩:=EO (rest:=r) (k:=k+1) (λi=>by have:=c (i+1);grind) h;grind
  grind
theorem Ic:∀{l:List Nat},gZ j l=ab->j∈l:=by
 intro l;induction l with
 |nil=>intro h;cases h
 |cons a r b =>
  intro h;simp only[gZ]at h;grind[Nat.eq_of_beq_eq_true]
def Ie{X:Cx P}(hf:P.follows Departure.mixedOrders=ab)(hT:c8 P T)(hC:bA X CT){φ':Fr}(h:EM T CT N ds ops.toList φ σ=aa (φ',σ',obs))(Z5:au obs){Q:Post}(hQ:Q .normal φ' σ')(id:Nat):
  AW X N (.region id ops ab) Q φ σ:=by
 unfold EM at h;split at h
 .cases h
 rename_i X6;rw[cU]at h;split at h
 case h_2=>cases h
 rename_i sf vb;rw[cU]at h;cases h;generalize PG:ops.toList=all at *;generalize V3:oM all φ=φm at *;have O:∀i:Nat,ops[i]?=all[i]?:=λi=>by grind
 have Ps:ops.size=all.length:=by grind
 let g:CI:=⟨0,[],σ,[],[],[],[]⟩
 obtain⟨J,C⟩:=EO (T:=T) (CT:=CT) (N:=N) (ds:=ds) (φm:=φm) (st:=g) (rest:=all) (k:=0) (λi=>by simp) vb;simp only[br]at J C;let F:=xj T CT N ds all φm g;have q:∀i o,all[i]?=aa o->all.getD i je=o:=λi o h=>by grind
 have X7:∀i o,all[i]?=aa o->Ox T CT N ds all φm g i=(iW (λj=>gZ j (bP (o).after.toList)) 0 (F i).pre (km (F i).i all φm)):=λi o h=>by unfold Ox;grind
 have facts:∀i o,all[i]?=aa o->∃G,Ib T CT N ds all φm (F i) (F (i+1)) o (xD T CT N ds all φm g i) (if oo T CT N ds all φm g i=ab then aa (F (i+1)).σ else af) G:=by
  intro i o ho;obtain⟨x,σ1,G,n⟩:=A3 (J i o ho);have A:=n.op;have hR:EN T CT N ds all φm g i=aa (x,σ1,G):=by unfold EN Ox;grind
  have hx:xD T CT N ds all φm g i=x:=by unfold xD;rw[hR]
  cases σ1 with
  |none =>
   have u:oo T CT N ds all φm g i=ae:=by unfold oo;rw[hR]
   grind
  |some σ2 =>
   have u:oo T CT N ds all φm g i=ab:=by unfold oo;rw[hR]
   have Z6:(F (i+1)).σ=σ2:=n.σ;grind
 have E:∀i,i<=all.length->(F i).i=i:=by
  intro i;induction i with
  |zero=>intro _;rfl
  |succ i B =>
   intro hi;obtain⟨_,n⟩:=facts i _ (bm (by omega));rw[n.i,B (by omega)]
 have Z:∀i,i<=all.length->∀j,(F i).pre[j]?=if j<i then(all[j]?).map (λo=>(o.dst,xD T CT N ds all φm g j))else af:=by
  intro i;induction i with
  |zero=>intro _ j;simp[F,xj,g]
  |succ i B =>
   intro hi j;obtain⟨_,n⟩:=facts i _ (bm (by omega));have Y:(F i).pre.length=i:=by
    apply Nat.le_antisymm
    .grind
    grind
   rw[n.pre];grind
 have V4:∀i,i<=all.length->∀j,(F i).cls[j]?=if j<i then aa (Oy T CT N ds all φm g j)else af:=by
  intro i;induction i with
  |zero=>intro _ j;simp[F,xj,g]
  |succ i B =>
   intro hi j;obtain⟨_,n⟩:=facts i _ (bm (by omega));have Y:(F i).cls.length=i:=by
    apply Nat.le_antisymm
    .apply Nat.le_of_not_lt;intro r;have:=B (by omega) i;grind
    grind
   rw[n.cls];by_cases V5:j<i
   .grind
   .rw[fx (by omega)];by_cases e:j=i
    .subst e;rw[bn (by omega),Y,Nat.sub_self];simp only[kC,Oy,q j _ (bm (by omega:j<all.length))];rfl
    grind
 have Z7:∀i,i<=all.length->∀j,bit (F i).zn j=(decide (j<i)&&oo T CT N ds all φm g j):=by
  intro i;induction i with
  |zero=>intro _ j;simp[F,xj,g,bit]
  |succ i B =>
   intro hi j;obtain⟨_,n⟩:=facts i _ (bm (by omega));rw[n.Z4];cases u:oo T CT N ds all φm g i with
   |false =>
    grind
   |true =>
    simp only[b5,Option.isSome_some];rw[l4,B (by omega) j,ry,E i (by omega)];by_cases e:j=i
    .grind
    grind
 have Z8:∀i,i<=all.length->∀j,bit (F i).Mk j=(decide (j<i)&&!th T CT N ds all φm g j):=by
  intro i;induction i with
  |zero=>intro _ j;simp[F,xj,g,bit]
  |succ i B =>
   intro hi j;obtain⟨_,n⟩:=facts i _ (bm (by omega));have SF:(if oo T CT N ds all φm g i=ab then aa (F (i+1)).σ else af).isSome=oo T CT N ds all φm g i:=by cases oo T CT N ds all φm g i<;>rfl
   have X8:th T CT N ds all φm g i=!(HB (iW (λj=>gZ j (bP (all[i]'(by omega)).after.toList)) 0 (F i).pre (km (F i).i all φm)) (all[i]'(by omega))||oo T CT N ds all φm g i):=by unfold th;rw[X7 i _ (bm (by omega)),q i _ (bm (by omega))];simp
   rw[n.nf,SF];cases u:(HB (iW (λj=>gZ j (bP (all[i]'(by omega)).after.toList)) 0 (F i).pre (km (F i).i all φm)) (all[i]'(by omega))||oo T CT N ds all φm g i)with
   |false =>
    grind
   |true =>
    simp only[b5];rw[l4,B (by omega) j,ry,E i (by omega)];by_cases e:j=i
    .grind
    grind
 have SG:∀i,i<=all.length->au (F i).obs:=by
  have back:∀k i,i+k=all.length->au (F i).obs:=by
   intro k;induction k with
   |zero =>
    grind
   |succ k B =>
    intro i hi;obtain⟨_,n⟩:=facts i _ (bm (by omega));have:=B (i+1) (by omega);rw[n.obs,au.cat]at this;exact this.2
  intro i hi;exact back (all.length-i) i (by omega)
 have oaI:∀i o,all[i]?=aa o->OA X N all o (Ox T CT N ds all φm g i) (F i).σ (xD T CT N ds all φm g i) (F (i+1)).σ:=by intro i o ho;have hi:i<all.length:=(b8.1 ho).1;obtain⟨_,n⟩:=facts i o ho;have Mm:=SG (i+1) (by omega);rw[n.obs,au.cat]at Mm;have:=en (P:=P) (N:=N) hT hC n.op Mm.1;rw[n.σ];grind
 let idx:Nat->Option Nat:=λt=>(bh all.length).find? (λi=>decide ((all.getD i je).dst=aa t));have K:∀t j,idx t=aa j->∃o,all[j]?=aa o/\o.dst=aa t:=by grind
 have I:∀i o d,all[i]?=aa o->o.dst=aa d->idx d=aa i:=by
  intro i o d ho hd;have hi:i<all.length:=(b8.1 ho).1;cases hx:idx d with
  |none =>
   grind
  |some j =>
   grind[sq]
 have S:∀t,oL t all=ab↔∃j,idx t=aa j:=by grind[pF,rv]
 have U:∀i o,all[i]?=aa o->∀e∈o.after,de e=ab->e.on<i:=by intro i o ho e u R;have hi:i<all.length:=(b8.1 ho).1;obtain⟨_,n⟩:=facts i o ho;have:=C3 n.lt e.on (eC.2 ⟨e,by grind,R,rfl⟩);grind
 have X9:=U;have hd:u6 X N ops φ (λi=>(F i).σ) (xD T CT N ds all φm g) (Ox T CT N ds all φm g) (th T CT N ds all φm g) (λi=>decide (i<all.length)&&oo T CT N ds all φm g i) (λi j=>i<all.length/\bit (Oy T CT N ds all φm g i) j=ab) idx (iW (λ_=>ab) 0 sf.pre (tS all φ)):=by
  refine⟨hf,?_,?_,?_,?_,?_,?_,?_,?_,?_,?_⟩
  .grind
  .intro i o d ho hd;rw[O]at ho;obtain⟨_,n⟩:=facts i o ho;exact⟨I i o d ho hd,gB n.dst d hd⟩
  .grind
  .intro i u;rcases cA i all.length with hi|hi
   .obtain⟨_,n⟩:=facts i _ (bm hi);have:oo T CT N ds all φm g i=ae:=by grind
    have hσ:=n.σ;grind
   .have h0:all.getD i je=je:=by grind
    show(F (i+1)).σ=(F i).σ;have:rz T CT N ds all φm (F i) je=af∨∃s',rz T CT N ds all φm (F i) je=aa s':=by
     cases rz T CT N ds all φm (F i) je with
     |none=>grind
     |some s'=>grind
    show((rz T CT N ds all φm (F i) (all.getD i je)).getD (F i)).σ=(F i).σ;rw[h0];rcases this with h|⟨s',h⟩
    .grind
    .rw[h];obtain⟨x,σ1,ob,n⟩:=A3 h;have A:=n.op;have:σ1=af:=by unfold tR at A;simp only[je,Mj,Vd,Ig,mR]at A;grind
     rw[ga,n.σ,this];rfl
  .grind
  .intro i o ho EP;rw[O]at ho;have hi:i<all.length:=(b8.1 ho).1;have p:HB (iW (λj=>gZ j (bP (o).after.toList)) 0 (F i).pre (km (F i).i all φm)) o=ae/\oo T CT N ds all φm g i=ae:=by unfold th at EP;grind
   refine⟨by grind,λk=>?_⟩;obtain⟨ob,n⟩:=facts i o ho;have A:=n.op;rw[p.2]at A;have V6:=Ia p.1 (by simpa using A) (F k).σ;have Mm:=SG (i+1) (by omega);rw[n.obs,au.cat]at Mm;have:=en (P:=P) (N:=N) hT hC V6 Mm.1;grind
  .intro L hL i j ⟨hi,R⟩;have gm:∀i,i<all.length->L i->∀e,e∈bP (all.getD i je).after.toList->L e:=by intro i hi Ya e u;rw[q i _ (bm hi)]at u;obtain⟨e',W,h2,rfl⟩:=eC.1 u;grind
   have key:∀i,i<all.length->∀j,bit (Oy T CT N ds all φm g i) j=ab->(∀e∈bP (all.getD i je).after.toList,L e)->L j:=by
    intro i;induction i using Nat.strongRecOn with
    |_ i B =>
     intro hi j R V7;obtain⟨e,u,h⟩:=zo R;have r:e<i:=by have SH:=u;rw[q i _ (bm hi)]at SH;obtain⟨e',W,h2,rfl⟩:=eC.1 SH;grind
     rcases h with rfl|⟨c,hc,LW⟩
     .grind
     .have:=V4 i (by omega) e;rw[bn r]at this;have VM:(F i).cls[e]?=aa c:=hc;rw[VM]at this;cases this;exact B e r (by omega) j LW (gm e (by omega) (V7 e u))
   refine⟨λYa=>key i hi j R (gm i hi Ya),all[i],by grind,λPE=>key i hi j R ?_⟩;grind[List.getElem?_eq_getElem,eC]
  .intro i f hi R0 u AE Yb;rw[Ps]at hi R0;have SH:oo T CT N ds all φm g f=ab:=by grind
   rcases cA f i with r|R3
   .refine .inl ⟨r,hi,?_⟩;obtain⟨_,n⟩:=facts i _ (bm hi);have CQ:Oy T CT N ds all φm g i=EL (F i).cls (bP (all[i]).after.toList):=by unfold Oy;grind
    rw[CQ];cases Z9:oo T CT N ds all φm g i with
    |true =>
     have W:=n.iD (by grind);refine pG W ?_;rw[Z8 i (by omega) f];have:th T CT N ds all φm g f=ae:=by unfold th;grind
     grind
    |false =>
     have Ve:HB (iW (λj=>gZ j (bP (all[i]).after.toList)) 0 (F i).pre (km (F i).i all φm)) all[i]=ab:=by unfold th at Yb;rw[X7 i _ (bm hi),q i _ (bm hi),Z9]at Yb;grind
     have W:=n.load Ve (by grind);grind[pG]
   .have r:i<f:=by omega
    refine .inr ⟨r,R0,?_⟩;obtain⟨_,n⟩:=facts f _ (bm R0);have CQ:Oy T CT N ds all φm g f=EL (F f).cls (bP (all[f]).after.toList):=by unfold Oy;grind
    rw[CQ];have W:=n.iD (by grind);grind[pG]
  .intro i o ho t σ s v V;rw[O]at ho;have hi:i<all.length:=(b8.1 ho).1;unfold Ox;rw[q i o ho];rcases mT (m:=λj=>gZ j (bP o.after.toList)) (φ:=km (F i).i all φm) (t:=t) (l:=(F i).pre) (i:=0)with⟨j,x,W,h2,h3⟩|h3
   .have V8:look (iW (λj=>gZ j (bP o.after.toList)) 0 (xj T CT N ds all φm g i).pre (km (xj T CT N ds all φm g i).i all φm)) t=x:=h3;rw[V8];have hp:=Z i (by omega) j;rw[W]at hp;have V5:j<i:=by grind
    rw[bn V5,bm (by omega:j<all.length)]at hp;simp only[mv,dx,ln]at hp;obtain⟨hp1,hp2⟩:=hp;have y:=I j _ t (bm (by omega:j<all.length)) hp1.symm;rw[y]at V;simp only at V;rw[bn]at V
    .grind
    .have V9:j∈bP o.after.toList:=by simp only[br]at h2;exact Ic h2
     obtain⟨e,a,b,c⟩:=eC.1 V9;grind
   .have V8:look (iW (λj=>gZ j (bP o.after.toList)) 0 (xj T CT N ds all φm g i).pre (km (xj T CT N ds all φm g i).i all φm)) t=look (km (F i).i all φm) t:=h3;rw[V8,E i (by omega),<-V3,xP];split
    .trivial
    .rename_i Wa;cases y:idx t with
     |some j =>
      have hD:=(S t).2 ⟨j,y⟩;have hN:u9 i t all=ae:=by grind
      obtain⟨oj,VY,VZ⟩:=K t j y;have hm:=Ic (va hN j oj VY VZ);obtain⟨e,u,R,heq⟩:=eC.1 hm;rw[y]at V;simp only at V;split at V
      ·
       rename_i hex;obtain⟨e2,Oq,Yc,aac⟩:=hex;grind
      .rw[bn ⟨oj,by grind,e,by grind,R,heq⟩]at V;exact V
     |none=>grind
  .intro t σ s v V;have hF:F all.length=sf:=C;rcases mT (m:=λ_=>ab) (φ:=tS all φ) (t:=t) (l:=sf.pre) (i:=0)with⟨j,x,W,_,h3⟩|h3
   .rw[h3];have hp:=Z all.length (aZ _) j;rw[hF,W]at hp;have V5:j<all.length:=by grind
    grind
   .rw[h3,lg];split
    .trivial
    grind
 intro s a X8 hh b kk cs SS R Wb;have LG:F ops.size=sf:=by grind
 refine .next rfl λz M=>?_;have M:=X.hZ M;have H:=hh.rely M;have Wc:=X8.rely M hh;have PH:Step σ z σ {z with w:={z.w with drawn:=z.w.drawn+1}}:=Step.same rfl rfl rfl rfl;have CF:aD σ {z with w:={z.w with drawn:=z.w.drawn+1}}:=H.same rfl;have Yd:=M.stepW.trans (PH.n3 H);refine⟨_,{z with w:={z.w with drawn:=z.w.drawn+1}},#[],lx,⟨⟨σ,σ,H,CF,PH⟩,.nil⟩,?_⟩;simp only[Region.schedule,hf,Bool.true_or,b5];refine hd.arr R (s0:={z with w:={z.w with drawn:=z.w.drawn+1}}) (λs2 a2 f2 h2 oe=>?_) ops.size _ (by simp) ?_ ?_ 0 _ a (by omega) ?_ ?_ CF (.refl _ _) _
 .simp only[LG]at f2 h2 oe;exact Wb .normal _ _ s2 a2 hQ f2 h2 (Yd.trans oe)
 .simp
 .intro i o ho hi;simp[dH,mn]at hi;split at hi<;>simp at hi
 .intro f R0 Vb;simp[dH,mn];split<;>simp
 .have p:=Wc.mono (PH.n3 H) H.len;refine⟨p.size,p.defers,λt=>?_⟩;unfold fX;cases y:idx t with
  |none=>exact p.slot t
  |some j =>
   simp only;rw[a9]
   .exact p.slot t
   .simp[dH,mn];split<;>simp
end
section
variable {X:Cx P}
theorem AK.draw(b:P.follows Departure.mixedOrders=ab)(c:c8 P T)(hC:bA X CT){φ':Fr}{id:Nat}(h:EM T CT N ds ops.toList φ σ=aa (φ',σ',obs))(a:au obs)(k:AK X N Qf K .normal φ' σ'):AK X N Qf (.code (.region id ops ab)::K) .normal φ σ :=
 Ie b c hC h a k id
end
def u4(T:List (Nat×TI))(CT:List (Nat×dy))(ds:List (Nat×Bool))(N:Nat)(K:List It)(φ:Fr)(σ:List bd):Option (List It×Fr×List bd×List Prop) :=
 match K with
 |[]=>af
 |.blk _::K=>aa (K,φ,σ,[])
 |.ops _ []::K=>aa (K,φ,σ,[])
 |.ops all (o::rest)::K=>match fD N o.dst with
  |true=>match tR T CT ds all φ σ o with
   |some (x,af,obs)=>dn (kg o.dst x φ) λφ=>aa (.ops all rest::K,φ,σ,obs)
   |some (x,aa σ',obs)=>dn (kg o.dst x φ) λφ=>aa (.ops all rest::K,φ,σ',obs)
   |none=>af
  |false=>af
 |.code c::K=>match c with
  |.skip=>aa (K,φ,σ,[])
  |.seq x y=>aa (.code x::.code y::K,φ,σ,[])
  |.block id c=>aa (.code c::.blk id::K,φ,σ,[])
  |.region id ops d=>match A7 ds (id+1000000)with
   |some _=>af
   |none=>match d with
    |false=>aa (.ops ops.toList ops.toList::K,φ,σ,[])
    |true=>match EM T CT N ds ops.toList φ σ with
     |some (φ',σ',obs)=>aa (K,φ',σ',obs)
     |none=>af
  |.exit id=>match ko id K with
   |some K'=>aa (K',φ,σ,[])
   |none=>af
  |.cond (.tmp t) x y=>match look φ t with
   |.e (.one (.c (.bool ab)))=>aa (.code x::K,φ,σ,[])
   |.e (.one (.c (.bool ae)))=>aa (.code y::K,φ,σ,[])
   |_=>af
  |_=>af
theorem Ja{X:Cx P}(j:P.follows Departure.mixedOrders=ab)(d:c8 P T)(g:bA X CT){i:List It}{φ':Fr}(h:u4 T CT ds N K φ σ=aa (i,φ',σ',obs))(ho:au obs)(k:AK X N Qf i .normal φ' σ'):AK X N Qf K .normal φ σ:=by
 unfold u4 at h;split at h
 .cases h
 .grind [AK.Qn]
 .grind [AK.Qo]
 .rename_i all o rest K0;cases f:fD N o.dst with
  |false=>grind
  |true =>
   simp only[f]at h;have e:=gB f;split at h
   .rename_i x a b;rw[cU]at h;cases h;exact jd.xo (en d g b ho) e k
   .rename_i x σ1 a b;rw[cU]at h;cases h;exact jd.xo (en d g b ho) e k
   grind
 .rename_i c K0;split at h
  .grind [AK.skip]
  .grind [AK.seq]
  .grind [AK.block]
  .grind [AK.region,AK.draw]
  .grind [AK.exit]
  .grind [AK.cond]
  grind
def dj(T:List (Nat×TI))(CT:List (Nat×dy))(ds:List (Nat×Bool))(N:Nat):Nat->List It->Fr->List bd->List Prop->Option (List It×Fr×List bd×List Prop)
 |0,K,φ,σ,obs=>dn obs λobs=>aa (K,φ,σ,obs)
 |n+1,K,φ,σ,obs=>match u4 T CT ds N K φ σ with
  |some (a,φ',σ',o)=>dj T CT ds N n a φ' σ' (iF o obs)
  |none=>dn obs λobs=>aa (K,φ,σ,obs)
def Fg{P:aM}{X:Cx P}(c:P.follows Departure.mixedOrders=ab){T:List (Nat×TI)}(d:c8 P T){CT:List (Nat×dy)}(e:bA X CT){ds:List (Nat×Bool)}{N:Nat}{Qf:Post}:∀{n:Nat}{K a:List It}{φ φ':Fr}{σ σ':List bd}{obs MS:List Prop},
  dj T CT ds N n K φ σ obs=aa (a,φ',σ',MS)->au MS->AK X N Qf a .normal φ' σ'->AK X N Qf K .normal φ σ/\au obs
 |0,K,a,φ,φ',σ,σ',obs,MS,h,ho,k=>by simp only[dj,cU]at h;grind
 |n+1,K,a,φ,φ',σ,σ',obs,MS,h,ho,k=>by
  simp only[dj]at h;cases f:u4 T CT ds N K φ σ with
  |none =>
   grind[cU]
  |some r =>
   obtain⟨i,b,σ1,l⟩:=r;simp only[f]at h;obtain⟨g,j⟩:=Fg c d e h ho k;grind[au.cat,Ja]
def AK.dj{X:Cx P}(c:P.follows Departure.mixedOrders=ab)(d:c8 P T)(hC:bA X CT)(ds:List (Nat×Bool))(n:Nat){b:List It}{φ':Fr}{a:List Prop}(h:AM.dj T CT ds N n K φ σ []=aa (b,φ',σ',a))(ho:au a)(k:AK X N Qf b .normal φ' σ'):AK X N Qf K .normal φ σ:=(Fg c d hC h ho k).1
section
variable {X:Cx P}
def zi(rs:List ResultVar)(ks:List Nat)(φ:Fr)(res:D):Option (List Prop) :=
 match xg φ rs with
 |some ds=>match rr ds with
  |some d=>match uV ks.length res with
   |true=>CH d (iE ks res)
   |false=>af
  |none=>af
 |none=>af
def AK.dG{fn:Func}{a:Nat}{res:D}(ks:List Nat)(h:zi fn.results.toList ks φ res=aa ps)(d:au ps)(f:jV ks σ=aa σ')(b:kJ σ'=ab)(e:dX ks=ab)(c:∀j,j<a->ks[j]?=aa j):
  AK X N (cd fn a res σ') (.code .ret::K) .normal φ σ:=by refine AK.ret ⟨.inl rfl,ks,?_⟩;unfold zi at h;grind
def AK.bo{fn:Func}{res:D}(h:zi fn.results.toList [] φ res=aa ps)(a:au ps:=by simp):AK X N (cd fn 0 res []) (.code .ret::K) .normal φ σ :=
 AK.dG [] h a rfl rfl rfl (λj h=>by omega)
def cd.zero{fn:Func}{res:D}(h:zi fn.results.toList [] φ res=aa ps)(c:au ps:=by simp):cd fn 0 res [] .ret φ σ:=by
 refine⟨.inl rfl,[],?_⟩;unfold zi at h;split at h
 .rename_i ds WN;split at h
  .rename_i d b;split at h
   .rename_i a;exact⟨ds,d,ps,WN,b,h,c,a,rfl,rfl,rfl,λj h=>by omega⟩
   grind
  grind
 grind
def AK.leave{id:Nat}{A:Fr->List bd->Prop}{Qr:Post}{l m:List It}(h1:ko id K=af)(h2:ko id l=aa m)(k:AK X N Qr m .normal φ σ):
  AK X N (λe φ' σ'=>match e with
   |.normal=>A φ' σ'
   |e=>AK X N Qr l e φ' σ') (.code (.exit id)::K) .normal φ σ:=by
 have key:∀{K:List It},ko id K=af->∀{Q:Post},Q (.exit id) φ σ->AK X N Q K (.exit id) φ σ:=by
  intro K;induction K with
  |nil=>intro _ Q h;exact h
  |cons i r g =>
   intro d Q h;cases i with
   |code c=>exact g (by simpa[ko]using d) h
   |ops a b=>exact g (by simpa[ko]using d) h
   |blk j =>
    simp only[ko]at d;cases hb:av id j with
    |true=>grind
    |false =>
     simp[hb]at d;have f:id≠j:=λe=>by grind[Nat.beq_refl]
     simp only[AK,f,bM];grind
 exact AW.exit (key h1 (AK.vr h2 k))
def AK.gU{A:Fr->List bd->Prop}{Qr:Post}{a:List It}(k:Qr .ret φ σ):
  AK X N (λe φ' σ'=>match e with
   |.normal=>A φ' σ'
   |e=>AK X N Qr a e φ' σ') (.code .ret::K) .normal φ σ:=AK.ret (AK.rI (Qf:=Qr) k)
def AK.again{S:Type}{I:S->Prop}{fr:S->Fr}{st:S->List bd}{a:S->Nat}{x:S}{Qr:Post}(y:S)(b:pZ φ (fr y)=aa ps)(f:au ps)(g:I y)(c:a y<a x)(d:σ=st y):
  AK X N (λe φ' σ'=>match e with
   |.normal=>∃y,I y/\a y<a x/\rJ φ' (fr y)/\σ'=st y
   |e=>Qr e φ' σ') [] .normal φ σ:=⟨y,g,c,dv b f,d⟩
def AK.vt{S:Type}(I:S->Prop)(fr:S->Fr)(st:S->List bd)(d:S->Nat)(x:S)(a:pZ φ (fr x)=aa ps)(f:au ps)(g:I x)(b:st x=σ)(round:∀x,I x->AK X N (λe φ' σ'=>match e with
   |.normal=>∃y,I y/\d y<d x/\rJ φ' (fr y)/\σ'=st y
   |e=>AK X N Qf K e φ' σ') [.code c] .normal (fr x) (st x)):AK X N Qf (.code (.loop c)::K) .normal φ σ :=
 AK.loop I fr st d x g (dv a f) b round
def Fits(args:List D)(σ:List bd):Prop:=∃s vs,cg σ s vs args/\aD σ s
def Fits.at{args:List D}(h:Fits args σ){d:D}(hj:args[j]?=aa d):∃s v,dk σ s v d:=by obtain⟨s,vs,a,_⟩:=h;obtain⟨_,b⟩:=cg.get a;grind
def Fits.str{args:List D}{σ:List bd}(h:Fits args σ)(j:Nat){l:List UInt8}(hj:args[j]?=aa (.e (.one (.c (.str l))))):l.length<=9223372036854775807:=by
 obtain⟨s,v,a⟩:=h.at hj;cases fH a with
 |str h hl=>exact hl
def Fits.sl{args:List D}{σ:List bd}(h:Fits args σ)(j:Nat){t:Bool}{k n:Nat}{es:Nat->List C}(hj:args[j]?=aa (.e (.one (.c (.sl t k n es))))):n<=9223372036854775807:=by
 obtain⟨s,v,d⟩:=h.at hj;cases fH d with
 |sl b off f a hb=>omega
def Ev.body{f:aJ}{fn:Func}{args:List D}{res:D}(d:P.funcs[f]?=aa fn)(a:(fn.name== "runtime.NumGoroutine")=ae)(hb:fn.body=aa c)(b:bu args.length fn.ntmps=ab)(h:Fits args σ->AK X fn.ntmps (cd fn σ.length res σ') [.code c] .normal (jb 0 args) σ):Ev X f args σ res σ':=by refine⟨⟨fn,d,a,by grind⟩,λs vs hr hh=>?_⟩;exact(Ev.intro d a hb (dJ b) (AK.of_code (h ⟨s,vs,hr,hh⟩))).2 s vs hr hh
def Ev.bQ{f:aJ}{fn:Func}{c:Code}{args:List D}{σ σ':List bd}{res:D}(b:P.funcs[f]?=aa fn)(a:(fn.name== "runtime.NumGoroutine",fn.body,bu args.length fn.ntmps)=(ae,aa c,ab))(h:Fits args σ->AK X fn.ntmps (cd fn σ.length res σ') [.code c] .normal (jb 0 args) σ):Ev X f args σ res σ':=by simp only[ln]at a;exact Ev.body b a.1 a.2.1 a.2.2 h
def AK.join{b:List It}(φ':Fr)(σ':List bd)(h:(∀(a:Fr)(ps:List Prop),pZ a φ'=aa ps->au ps->AK X N Qf (.code c::b) .normal a σ')->AK X N Qf K .normal φ σ)(k:AK X N Qf (.code c::b) .normal φ' σ'):AK X N Qf K .normal φ σ :=
 h λ_ _ h1 h2=>AW.le k (dv h1 h2)
end
def ff{i:TypeInfo}(h:P.types[t]?=aa i):P.info? t=aa i:=by unfold Tables.info?;rw[bn (eZ.1 h).1];exact h
def c8.nil:c8 P []:=λ_ _ h=>by cases h
def c8.cons{i:TI}(h:dC P t i)(r:c8 P T):c8 P ((t,i)::T):=by
 intro a i2 h2;simp only[bE]at h2;cases hb:av t a with
 |true=>rw[hb]at h2;cases h2;rw[<-bX hb];exact h
 |false=>rw[hb]at h2;exact r a i2 h2
def dC.mk1{i:TI}{n:TypeInfo}(h:P.underlying t=aa i.desc)(k:P.types[t]?=aa n)(a:(zL i.desc==i.agg&&n.size==i.size&&n.bytes==i.bytes&&(!i.agg||n.zero.any λz=>match z with|.agg _=>ab|_=>ae)&&i.zero.length==i.size&&i.eq.isEmpty)=ab:=by rfl)(b:n.zero.map (λz=>z.cells.toList.map qv)=aa (i.zero.map aa):=by rfl):dC P t i:=by
 simp only[bS,hO,List.isEmpty_iff]at a;obtain⟨⟨⟨⟨⟨a1,a2⟩,a3⟩,a4⟩,a5⟩,a6⟩:=a;cases c:n.zero with
 |none=>rw[c]at b;cases b
 |some z =>
  rw[c]at b a4;refine⟨h,a1,⟨n,z,ff k,a2,a3,c,qZ b,?_,a5⟩,λh=>absurd a6 h⟩;cases d:i.agg with
  |false=>exact⟨#[],rfl⟩
  |true =>
   rw[d]at a4;cases z<;>first|exact⟨_,rfl⟩|cases a4
def c8.c1{i:TI}{n:TypeInfo}(h:P.underlying t=aa i.desc)(k:P.types[t]?=aa n)(r:c8 P T)(a:(zL i.desc==i.agg&&n.size==i.size&&n.bytes==i.bytes&&(!i.agg||n.zero.any λz=>match z with|.agg _=>ab|_=>ae)&&i.zero.length==i.size&&i.eq.isEmpty)=ab:=by rfl)(b:n.zero.map (λz=>z.cells.toList.map qv)=aa (i.zero.map aa):=by rfl):c8 P ((t,i)::T):=c8.cons (dC.mk1 h k a b) r
namespace R1
abbrev pI:= "loop.example/depositary/impl"
abbrev pS:= "loop.example/depositary/spec"
abbrev f0(a:String)(b c:Nat)(d:String)(e:Nat)(f:Bool:=ae):Field:={name:=a,type:=b,offset:=c,embedded:=f,tag:= "",pkgPath:=d,byteOffset:=e}
abbrev zS:C:=.sl ab 0 0 (λ_=>[])
@[simp] def HH(n:aw):TI:=⟨1,24,ae,.slice n,[zS],[]⟩
@[simp] def Rn(n:aw):TI:=⟨1,8,ae,.pointer n,[.oG],[]⟩
@[simp] def KC(b:Nat)(k:IntKind):TI:=⟨1,b,ae,.int k,[.int k 0],[]⟩
@[simp] def xd(s b:Nat)(f:Array Field)(z:List C)(e:List TypeDesc:=[]):TI:=⟨s,b,ab,.struct f,z,e⟩
def i2:TI:=KC 8 .i64
def i3:TI:=KC 8 .i64
def i4:TI:=⟨1,1,ae,TypeDesc.bool,[.bool ae],[]⟩
def i5:TI:=KC 1 .u8
def i6:TI:=KC 1 .u8
def i8:TI:=xd 4 24 #[f0 "x" 2 0 "runtime" 0,f0 "y" 3 1 "runtime" 8,f0 "signed" 4 2 "runtime" 16,f0 "code" 6 3 "runtime" 17] [.int .i64 0,.int .i64 0,.bool ae,.int .u8 0]
def i9:TI:=⟨1,16,ae,TypeDesc.string,[.str []],[]⟩
def i16:TI:=Rn 283
def i20:TI:=⟨1,16,ae,TypeDesc.interface #[],[.oI],[]⟩
def i21:TI:=KC 4 .i32
def i22:TI:=HH 5
def i23:TI:=HH 43
def i24:TI:=HH 39
def i25:TI:=HH 101
def i27:TI:=xd 3 72 #[f0 "Packs" 23 0 "" 0,f0 "Snaps" 24 1 "" 24,f0 "Log" 25 2 "" 48] [zS,zS,zS]
def i28:TI:=HH 3
def i32:TI:=xd 5 120 #[f0 "Store" 27 0 "" 0,f0 "Marks" 28 3 "" 72,f0 "Left" 28 4 "" 96] [zS,zS,zS,zS,zS]
def i37:TI:=HH 95
def i39:TI:=xd 2 32 #[f0 "No" 3 0 "" 0,f0 "All" 37 1 "" 8] [.int .i64 0,zS]
def i41:TI:=HH 68
def i43:TI:=xd 2 32 #[f0 "No" 3 0 "" 0,f0 "Item" 41 1 "" 8] [.int .i64 0,zS]
def i53:TI:=Rn 89
def i68:TI:=xd 2 24 #[f0 "Name" 3 0 "" 0,f0 "Body" 9 1 "" 8] [.int .i64 0,.str []] [.int .i64,.string]
def g68:dC ag 68 i68:=⟨Tryz.underlying68,rfl,⟨_,_,ff Tryz.type68,rfl,rfl,rfl,rfl,⟨_,rfl⟩,rfl⟩,λ_=>lG (fs:=[f0 "Name" 3 0 "" 0,f0 "Body" 9 1 "" 8]) Tryz.underlying68 (by decide +kernel) Tryz.eqGuardType68 ⟨by decide,rfl,Tryz.underlying3,ar,by decide,rfl,Tryz.underlying9,ar,ar⟩⟩
def i69:TI:=HH 110
def i83:TI:=HH 43
def i85:TI:=xd 3 72 #[f0 "packed" 83 0 pI 0 ab,f0 "snaps" 24 1 pI 24,f0 "log" 25 2 pI 48] [zS,zS,zS]
def i89:TI:=xd 2 32 #[f0 "b" 22 0 pS 0,f0 "p" 3 1 pS 24] [zS,.int .i64 0]
def i95:TI:=xd 2 40 #[f0 "Path" 9 0 "" 0,f0 "Names" 28 1 "" 16] [.str [],zS]
def i101:TI:=xd 2 16 #[f0 "By" 3 0 "" 0,f0 "Snap" 3 1 "" 8] [.int .i64 0,.int .i64 0] [.int .i64,.int .i64]
def XB:dC ag 101 i101:=⟨Tryz.underlying101,rfl,⟨_,_,ff Tryz.type101,rfl,rfl,rfl,rfl,⟨_,rfl⟩,rfl⟩,λ_=>lG (fs:=[f0 "By" 3 0 "" 0,f0 "Snap" 3 1 "" 8]) Tryz.underlying101 (by decide +kernel) Tryz.eqGuardType101 ⟨by decide,rfl,Tryz.underlying3,ar,by decide,rfl,Tryz.underlying3,ar,ar⟩⟩
def i110:TI:=xd 2 32 #[f0 "Path" 9 0 "" 0,f0 "Text" 9 1 "" 16] [.str [],.str []] [.string,.string]
def XC:dC ag 110 i110:=⟨Tryz.underlying110,rfl,⟨_,_,ff Tryz.type110,rfl,rfl,rfl,rfl,⟨_,rfl⟩,rfl⟩,λ_=>lG (fs:=[f0 "Path" 9 0 "" 0,f0 "Text" 9 1 "" 16]) Tryz.underlying110 (by decide +kernel) Tryz.eqGuardType110 ⟨by decide,rfl,Tryz.underlying9,ar,by decide,rfl,Tryz.underlying9,ar,ar⟩⟩
def i115:TI:=Rn 32
def i128:TI:=HH 9
def i136:TI:=KC 8 .u64
def i142:TI:=HH 189
def i154:TI:=HH 166
def i156:TI:=xd 0 0 #[] []
def i157:TI:=xd 0 0 #[] []
def i158:TI:=xd 0 0 #[] []
def i159:TI:=KC 8 .u64
def i161:TI:=xd 1 8 #[f0 "_" 157 0 "sync/atomic" 0,f0 "_" 158 0 "sync/atomic" 0,f0 "v" 159 0 "sync/atomic" 0] [.int .u64 0]
def i162:TI:=KC 4 .u32
def i164:TI:=xd 2 16 #[f0 "noCopy" 156 0 "sync" 0,f0 "state" 161 0 "sync" 0,f0 "sema" 162 1 "sync" 8] [.int .u64 0,.int .u32 0]
def i166:TI:=xd 2 24 #[f0 "piece" 9 0 pI 0,f0 "ok" 4 1 pI 16] [.str [],.bool ae] [.string,.bool]
def XD:dC ag 166 i166:=⟨Tryz.underlying166,rfl,⟨_,_,ff Tryz.type166,rfl,rfl,rfl,rfl,⟨_,rfl⟩,rfl⟩,λ_=>lG (fs:=[f0 "piece" 9 0 pI 0,f0 "ok" 4 1 pI 16]) Tryz.underlying166 (by decide +kernel) Tryz.eqGuardType166 ⟨by decide,rfl,Tryz.underlying9,ar,by decide,rfl,Tryz.underlying4,ar,ar⟩⟩
def i175:TI:=KC 8 .i64
def i189:TI:=xd 2 16 #[f0 "Name" 3 0 "" 0,f0 "Pack" 3 1 "" 8] [.int .i64 0,.int .i64 0] [.int .i64,.int .i64]
def XE:dC ag 189 i189:=⟨Tryz.underlying189,rfl,⟨_,_,ff Tryz.type189,rfl,rfl,rfl,rfl,⟨_,rfl⟩,rfl⟩,λ_=>lG (fs:=[f0 "Name" 3 0 "" 0,f0 "Pack" 3 1 "" 8]) Tryz.underlying189 (by decide +kernel) Tryz.eqGuardType189 ⟨by decide,rfl,Tryz.underlying3,ar,by decide,rfl,Tryz.underlying3,ar,ar⟩⟩
def i213:TI:=Rn 215
def i215:TI:=xd 2 32 #[f0 "addr" 213 0 "strings" 0,f0 "buf" 22 1 "strings" 8] [.oG,zS]
def i217:TI:=⟨1,16,ae,TypeDesc.interface #[("Error",220)],[.oI],[]⟩
def i227:TI:=KC 8 .u64
def i230:TI:=Rn 3
def i233:TI:=KC 8 .i64
def i255:TI:=Rn 251
def i276:TI:=xd 2 2 #[f0 "lo" 5 0 "unicode/utf8" 0,f0 "hi" 5 1 "unicode/utf8" 1] [.int .u8 0,.int .u8 0] [.int .u8,.int .u8]
def XF:dC ag 276 i276:=⟨Tryz.underlying276,rfl,⟨_,_,ff Tryz.type276,rfl,rfl,rfl,rfl,⟨_,rfl⟩,rfl⟩,λ_=>lG (fs:=[f0 "lo" 5 0 "unicode/utf8" 0,f0 "hi" 5 1 "unicode/utf8" 1]) Tryz.underlying276 (by decide +kernel) Tryz.eqGuardType276 ⟨by decide,rfl,Tryz.underlying5,ar,by decide,rfl,Tryz.underlying5,ar,ar⟩⟩
def i277:TI:=⟨32,32,ab,TypeDesc.array 16 276,[.int .u8 0,.int .u8 0,.int .u8 0,.int .u8 0,.int .u8 0,.int .u8 0,.int .u8 0,.int .u8 0,.int .u8 0,.int .u8 0,.int .u8 0,.int .u8 0,.int .u8 0,.int .u8 0,.int .u8 0,.int .u8 0,.int .u8 0,.int .u8 0,.int .u8 0,.int .u8 0,.int .u8 0,.int .u8 0,.int .u8 0,.int .u8 0,.int .u8 0,.int .u8 0,.int .u8 0,.int .u8 0,.int .u8 0,.int .u8 0,.int .u8 0,.int .u8 0],[]⟩
def i278:TI:=Rn 292
def i281:TI:=⟨0,0,ab,TypeDesc.array 0 16,[],[]⟩
def i283:TI:=xd 0 0 #[f0 "_" 281 0 "runtime" 0] []
def i292:TI:=xd 1 16 #[f0 "s" 9 0 "errors" 0] [.str []] [.string]
def XG:dC ag 292 i292:=⟨Tryz.underlying292,rfl,⟨_,_,ff Tryz.type292,rfl,rfl,rfl,rfl,⟨_,rfl⟩,rfl⟩,λ_=>lG (fs:=[f0 "s" 9 0 "errors" 0]) Tryz.underlying292 (by decide +kernel) Tryz.eqGuardType292 ⟨by decide,rfl,Tryz.underlying9,ar,ar⟩⟩
def tt:List (Nat×TI):=[(2,i2),(3,i3),(4,i4),(5,i5),(6,i6),(8,i8),(9,i9),(16,i16),(20,i20),(21,i21),(22,i22),(23,i23),(24,i24),(25,i25),(27,i27),(28,i28),(32,i32),(37,i37),(39,i39),(41,i41),(43,i43),(53,i53),(68,i68),(69,i69),(83,i83),(85,i85),(89,i89),(95,i95),(101,i101),(110,i110),(115,i115),(128,i128),(136,i136),(142,i142),(154,i154),(156,i156),(157,i157),(158,i158),(159,i159),(161,i161),(162,i162),(164,i164),(166,i166),(175,i175),(189,i189),(213,i213),(215,i215),(217,i217),(227,i227),(230,i230),(233,i233),(255,i255),(276,i276),(277,i277),(278,i278),(281,i281),(283,i283),(292,i292)]
def tok:c8 ag tt:=c8.c1 Tryz.underlying2 Tryz.type2 ( c8.c1 Tryz.underlying3 Tryz.type3 ( c8.c1 Tryz.underlying4 Tryz.type4 ( c8.c1 Tryz.underlying5 Tryz.type5 ( c8.c1 Tryz.underlying6 Tryz.type6 ( c8.c1 Tryz.underlying8 Tryz.type8 ( c8.c1 Tryz.underlying9 Tryz.type9 ( c8.c1 Tryz.underlying16 Tryz.type16 ( c8.c1 Tryz.underlying20 Tryz.type20 ( c8.c1 Tryz.underlying21 Tryz.type21 ( c8.c1 Tryz.underlying22 Tryz.type22 ( c8.c1 Tryz.underlying23 Tryz.type23 ( c8.c1 Tryz.underlying24 Tryz.type24 ( c8.c1 Tryz.underlying25 Tryz.type25 ( c8.c1 Tryz.underlying27 Tryz.type27 ( c8.c1 Tryz.underlying28 Tryz.type28 ( c8.c1 Tryz.underlying32 Tryz.type32 ( c8.c1 Tryz.underlying37 Tryz.type37 ( c8.c1 Tryz.underlying39 Tryz.type39 ( c8.c1 Tryz.underlying41 Tryz.type41 ( c8.c1 Tryz.underlying43 Tryz.type43 ( c8.c1 Tryz.underlying53 Tryz.type53 ( c8.cons g68 ( c8.c1 Tryz.underlying69 Tryz.type69 ( c8.c1 Tryz.underlying83 Tryz.type83 ( c8.c1 Tryz.underlying85 Tryz.type85 ( c8.c1 Tryz.underlying89 Tryz.type89 ( c8.c1 Tryz.underlying95 Tryz.type95 ( c8.cons XB ( c8.cons XC ( c8.c1 Tryz.underlying115 Tryz.type115 ( c8.c1 Tryz.underlying128 Tryz.type128 ( c8.c1 Tryz.underlying136 Tryz.type136 ( c8.c1 Tryz.underlying142 Tryz.type142 ( c8.c1 Tryz.underlying154 Tryz.type154 ( c8.c1 Tryz.underlying156 Tryz.type156 ( c8.c1 Tryz.underlying157 Tryz.type157 ( c8.c1 Tryz.underlying158 Tryz.type158 ( c8.c1 Tryz.underlying159 Tryz.type159 ( c8.c1 Tryz.underlying161 Tryz.type161 ( c8.c1 Tryz.underlying162 Tryz.type162 ( c8.c1 Tryz.underlying164 Tryz.type164 ( c8.cons XD ( c8.c1 Tryz.underlying175 Tryz.type175 ( c8.cons XE ( c8.c1 Tryz.underlying213 Tryz.type213 ( c8.c1 Tryz.underlying215 Tryz.type215 ( c8.c1 Tryz.underlying217 Tryz.type217 ( c8.c1 Tryz.underlying227 Tryz.type227 ( c8.c1 Tryz.underlying230 Tryz.type230 ( c8.c1 Tryz.underlying233 Tryz.type233 ( c8.c1 Tryz.underlying255 Tryz.type255 ( c8.cons XF ( c8.c1 Tryz.underlying277 Tryz.type277 ( c8.c1 Tryz.underlying278 Tryz.type278 ( c8.c1 Tryz.underlying281 Tryz.type281 ( c8.c1 Tryz.underlying283 Tryz.type283 ( c8.cons XG (c8.nil))))))))))))))))))))))))))))))))))))))))))))))))))))))))))
end R1
abbrev Bs:=List UInt8
abbrev dS(s:Bs):D:=.e (.one (.c (.str s)))
abbrev dI(n:Int):D:=.e (.one (.c (.int .i64 n)))
abbrev dU(n:Int):D:=.e (.one (.c (.int .u8 n)))
abbrev dB(b:Bool):D:=.e (.one (.c (.bool b)))
def j0{s:Bs}:iG s i=s.getD i 0:=rfl
namespace R1
variable {X:Cx ag}
def di:Tryz.prog.follows Departure.mixedOrders=ab:=rfl
def XH{X:Cx ag}{CT:List (Nat×dy)}(c:bA X CT)(ds:List (Nat×Bool)){N:Nat}{Qf:Post}(n:Nat){K b:List It}{φ φ':Fr}{σ σ':List bd}{a:List Prop}(h:AM.dj tt CT ds N n K φ σ []=aa (b,φ',σ',a))(ho:au a)(k:AK X N Qf b .normal φ' σ'):AK X N Qf K .normal φ σ:=AK.dj di tok c ds n h ho k
def DC{X:Cx ag}(ds:List (Nat×Bool)){N:Nat}{Qf:Post}(n:Nat){K b:List It}{φ φ':Fr}{σ σ':List bd}{a:List Prop}(h:AM.dj tt [] ds N n K φ σ []=aa (b,φ',σ',a))(ho:au a)(k:AK X N Qf b .normal φ' σ'):AK X N Qf K .normal φ σ:=AK.dj di tok bA.nil ds n h ho k
def bx{X:Cx ag}{N:Nat}{Qf:Post}{K b:List It}{φ φ':Fr}{σ σ':List bd}{a:List Prop}(h:AM.dj tt [] [] N 100 K φ σ []=aa (b,φ',σ',a))(ho:au a)(k:AK X N Qf b .normal φ' σ'):AK X N Qf K .normal φ σ:=AK.dj di tok bA.nil [] 100 h ho k
def c9{X:Cx ag}{N:Nat}{Qf:Post}{K b:List It}{φ φ':Fr}{σ σ':List bd}{a:List Prop}(h:AM.dj tt [] [] N 200 K φ σ []=aa (b,φ',σ',a))(ho:au a)(k:AK X N Qf b .normal φ' σ'):AK X N Qf K .normal φ σ:=AK.dj di tok bA.nil [] 200 h ho k
def aR{X:Cx ag}{CT:List (Nat×dy)}(c:bA X CT)(ds:List (Nat×Bool)){N:Nat}{Qf:Post}{K b:List It}{φ φ':Fr}{σ σ':List bd}{a:List Prop}(h:AM.dj tt CT ds N 100 K φ σ []=aa (b,φ',σ',a))(ho:au a)(k:AK X N Qf b .normal φ' σ'):AK X N Qf K .normal φ σ:=AK.dj di tok c ds 100 h ho k
def bq{X:Cx ag}{CT:List (Nat×dy)}(c:bA X CT)(ds:List (Nat×Bool)){N:Nat}{Qf:Post}{K b:List It}{φ φ':Fr}{σ σ':List bd}{a:List Prop}(h:AM.dj tt CT ds N 200 K φ σ []=aa (b,φ',σ',a))(ho:au a)(k:AK X N Qf b .normal φ' σ'):AK X N Qf K .normal φ σ:=AK.dj di tok c ds 200 h ho k
def aW{X:Cx ag}(ds:List (Nat×Bool)){N:Nat}{Qf:Post}{K b:List It}{φ φ':Fr}{σ σ':List bd}{a:List Prop}(h:AM.dj tt [] ds N 100 K φ σ []=aa (b,φ',σ',a))(ho:au a)(k:AK X N Qf b .normal φ' σ'):AK X N Qf K .normal φ σ:=AK.dj di tok bA.nil ds 100 h ho k
def bF{X:Cx ag}(ds:List (Nat×Bool)){N:Nat}{Qf:Post}{K b:List It}{φ φ':Fr}{σ σ':List bd}{a:List Prop}(h:AM.dj tt [] ds N 200 K φ σ []=aa (b,φ',σ',a))(ho:au a)(k:AK X N Qf b .normal φ' σ'):AK X N Qf K .normal φ σ:=AK.dj di tok bA.nil ds 200 h ho k
def bZ{X:Cx ag}{CT:List (Nat×dy)}(c:bA X CT){N:Nat}{Qf:Post}{K b:List It}{φ φ':Fr}{σ σ':List bd}{a:List Prop}(h:AM.dj tt CT [] N 100 K φ σ []=aa (b,φ',σ',a))(ho:au a)(k:AK X N Qf b .normal φ' σ'):AK X N Qf K .normal φ σ:=AK.dj di tok c [] 100 h ho k
def cJ{X:Cx ag}{CT:List (Nat×dy)}(c:bA X CT){N:Nat}{Qf:Post}{K b:List It}{φ φ':Fr}{σ σ':List bd}{a:List Prop}(h:AM.dj tt CT [] N 200 K φ σ []=aa (b,φ',σ',a))(ho:au a)(k:AK X N Qf b .normal φ' σ'):AK X N Qf K .normal φ σ:=AK.dj di tok c [] 200 h ho k
def lM(b:Int):Bool:=decide (97<=b)&&decide (b<=101)
theorem NU(b:Int):Ev X 154 [dU b] [] (dB (lM b)) []:=by
 refine Ev.bQ Tryz.func154 rfl λ_=>?_;by_cases h:97<=b
 .refine aW [(4,ab)] rfl ?_ (AK.bo rfl ?_)<;>simp[h,lM]
 .refine aW [(4,ae)] rfl ?_ (AK.bo rfl ?_)<;>simp[h,lM]
def eF(b:UInt8):Bool:=decide (97<=b.toNat)&&decide (b.toNat<=122)
def b6(s:Bs):Bool:=s.all eF
def rY{s:Bs}(h:∀j,j<s.length->eF (s.getD j 0)=ab):b6 s=ab:=by simp only[b6,List.all_eq_true];grind[List.getElem_of_mem]
def j7{s:Bs}(h:j<s.length)(b:eF (s.getD j 0)=ae):b6 s=ae:=by
 cases a:b6 s with
 |false=>rfl
 |true =>
  simp only[b6,List.all_eq_true]at a;grind
theorem Ef(s:Bs):Ev X 155 [dS s] [] (dB (b6 s)) []:=by
 refine Ev.bQ Tryz.func155 rfl λe=>?_;have g:=e.str 0 rfl;refine bx rfl ar ?_;refine AK.vt (λi=>i<=s.length/\∀j,j<i->eF (s.getD j 0)=ab) (λi:Nat=>[(0,dS s),(3,dI i)]) (λ_=>[]) (λi=>s.length-i) 0 rfl (by simp) ⟨by omega,by omega⟩ rfl ?_;rintro i ⟨hi,c⟩;by_cases h:i<s.length
 .generalize a:s.getD i 0=b;by_cases f:b.toNat<97
  .refine aW [(7,ab),(13,ab)] rfl ?_ (AK.gU (cd.zero rfl ?_))
   .simp only[au,j0,bl,a];omega
   .rw[au,j7 h (by rw[a];simp only[eF,qQ,b7];omega)]
  .by_cases k:b.toNat>122
   .refine aW [(7,ab),(13,ae),(18,ab)] rfl ?_ (AK.gU (cd.zero rfl ?_))
    .simp only[au,j0,bl,b7,a];omega
    .rw[au,j7 h (by rw[a];simp only[eF,qQ,b7];omega)]
   .refine aW [(7,ab),(13,ae),(18,ae)] rfl ?_ (AK.again (i+1) rfl ?_ ?_ ?_ rfl)
    .simp only[au,j0,bl,b7,a,bw];omega
    .simp
    .refine⟨by omega,λj d=>?_⟩;rcases yP.1 d with d|rfl
     .grind
     .rw[a];simp only[eF,bS,bl];omega
    .omega
 .refine aW [(7,ae)] rfl (by simp;omega) (AK.leave rfl rfl ?_);refine bx rfl ar (AK.bo rfl ?_);rw[au,rY (λj d=>c j (by omega))]
end R1
def Ev.args{P:aM}{X:Cx P}{f:aJ}{args Pb:List D}{σ σ':List bd}{res:D}(h:Ev X f Pb σ res σ')(hl:∀s vs,cg σ s vs args->cg σ s vs Pb):Ev X f args σ res σ' :=
 ⟨h.1,λs vs hr hh=>h.2 s vs (hl s vs hr) hh⟩
def kr(a:Nat):D->Option (Nat×(Nat->List C))
 |.e (.one (.c (.sl _ k n es)))=>match av k a with
  |true=>aa (n,es)
  |false=>match av n 0 with
   |true=>aa (0,λ_=>[])
   |false=>af
 |_=>af
def KD{i:Nat}{d:D}{n:Nat}{es:Nat->List C}(h:kr i d=aa (n,es)){σ:List bd}{s:St}{v:ai}(r:dk σ s v d):Rd s.M v (.sl ae i n es):=by
 unfold kr at h;split at h
 .rename_i t k u es';split at h
  .rename_i g;have e:=bX g;subst e;cases h;exact(fH r).loose
  .split at h
   .rename_i l;have e:=bX l;subst e;cases h;have r':=fH r;cases r' with
    |sl b off f a j m g q p o=>exact Rd.sl b off f a j (by simp) (by omega) (by omega) (by omega) (by omega)
   grind
 grind
def xb{α:Type}(enc:α->List C)(bR:α)(l:List α):Nat->List C:=λi=>enc (l.getD i bR)
structure jY(α:Type) where
 k:Nat
 enc:α->List C
 dec:List C->α
 bR:α
 inv:∀a,dec (enc a)=a
 len:∀a,(enc a).length=k
namespace jY
variable {α:Type}(c:jY α)
def list(n:Nat)(es:Nat->List C):List α:=(bh n).map λi=>c.dec (es i)
def fn(l:List α):Nat->List C:=xb c.enc c.bR l
def fits(n:Nat)(es:Nat->List C):Prop:=∀i,i<n->es i=c.enc (c.dec (es i))
def sl(l:List α):D:=.e (.one (.c (.sl ae c.k l.length (c.fn l))))
def Cg{n:Nat}{es:Nat->List C}:(c.list n es).length=n:=by simp[list]
def list_fn(l:List α):c.list l.length (c.fn l)=l:=by
 apply uk
 .simp[list]
 .intro i b a;simp[list,fn,xb,aj,bm a,c.inv]
def aO(l:List α){n:Nat}:c.fits n (c.fn l):=λi _=>by simp[fn,xb,c.inv]
def NV{n:Nat}{es:Nat->List C}(h:c.fits n es):cp n es (c.fn (c.list n es)):=by intro i hi;rw[h i hi];simp[fn,xb,list,aj,hi]
def jD{d:D}{n:Nat}{es:Nat->List C}(h:kr c.k d=aa (n,es))(a:c.fits n es){σ:List bd}{s:St}{v:ai}(r:dk σ s v d):dk σ s v (c.sl (c.list n es)):=by have e:=KD h r;have b:=e.CN (c.NV a);show Rd s.M v (.sl ae c.k (c.list n es).length _);rw[c.Cg];exact b
end jY
def cw(s:Bs)(i:Nat):Int:=(s.getD i 0).toNat
theorem cz(s:Bs)(j:Int):((iG s j).toNat:Int)=cw s j.toNat:=rfl
abbrev bz:=Bs×Bs
def BF(cs:List C)(j:Nat):Bs:=match eB j cs with|some (.str s)=>s|_=>[]
def vU(cs:List C)(j:Nat):Int:=match eB j cs with|some (.int _ s)=>s|_=>0
def cF:jY bz:={k:=2,enc:=λf=>[.str f.1,.str f.2],dec:=λcs=>(BF cs 0,BF cs 1),bR:=([],[]),inv:=λ_=>rfl,len:=λ_=>rfl}
namespace R1
variable {X:Cx ag}
def Ro:dy:=λargs σ=>match args,σ with
 |[.e (.one (.c (.int .u8 b)))],[]=>aa (dB (lM b),[],[])
 |_,_=>af
def t154:dM X 154 Ro:=by intro args σ res σ' obs h _;unfold Ro at h;grind[NU]
def ND:dy:=λargs σ=>match args,σ with
 |[.e (.one (.c (.str b)))],[]=>aa (dB (b6 b),[],[])
 |_,_=>af
def t155:dM X 155 ND:=by intro args σ res σ' obs h _;unfold ND at h;grind[Ef]
def Y2:List (Nat×dy):=[(154,Ro),(155,ND)]
def Ch:bA X Y2:=bA.cons t154 (bA.cons t155 bA.nil)
def dE(s:Bs):Bool:=if s.length=1 then lM (cw s 0)else if s.length=3 then lM (cw s 0)&&(cw s 1==47)&&lM (cw s 2)else ae
theorem Hf(s:Bs):Ev X 110 [dS s] [] (dB (dE s)) []:=by
 refine Ev.bQ Tryz.func110 rfl λf=>?_;by_cases e:s.length=1
 .refine aR Ch [(6,ab)] rfl ?_ (AK.bo rfl ?_)
  .simp[e]
  .simp[dE,e,cz]
 .by_cases a:s.length=3
  .by_cases b:lM (cw s 0)=ab
   .by_cases d:cw s 1=47
    .refine aR Ch [(6,ae),(11,ab),(14,ab),(18,ab)] rfl ?_ (AK.bo rfl ?_)
     .simp[a,cz,b,d]
     .simp[dE,a,b,d,cz]
    .refine aR Ch [(6,ae),(11,ab),(14,ab),(18,ae)] rfl ?_ (AK.bo rfl ?_)
     .simp[a,cz,b,d]
     .simp[dE,a,b,d]
   .refine aR Ch [(6,ae),(11,ab),(14,ae)] rfl ?_ (AK.bo rfl ?_)
    .simp[a,cz,b]
    .simp[dE,a,b]
  .refine aR Ch [(6,ae),(11,ae)] rfl ?_ (AK.bo rfl ?_)
   .simp;omega
   .simp[dE,e,a]
def ef(s:Bs):Bool:=decide (s.length<=40)&&b6 s
theorem Hg(s:Bs):Ev X 111 [dS s] [] (dB (ef s)) []:=by
 refine Ev.bQ Tryz.func111 rfl λb=>?_;by_cases a:s.length<=40
 .refine aR Ch [(5,ab)] rfl ?_ (AK.bo rfl ?_)
  .simp;omega
  .simp[ef,a]
 .refine aR Ch [(5,ae)] rfl ?_ (AK.bo rfl ?_)
  .simp;omega
  .simp[ef,a]
def clash(a b:Bs):Bool:=(a.length != b.length)&&(cw a 0==cw b 0)
def KE(a b:Bs)(h:a≠[])(g:b≠[]):Ev X 146 [dS a,dS b] [] (dB (clash a b)) []:=by
 have f:=ui.2 h;have d:=ui.2 g;refine Ev.bQ Tryz.func146 rfl λi=>?_;by_cases e:a.length=b.length
 .refine aW [(9,ae)] rfl ?_ (AK.bo rfl ?_)
  .simp[e]
  .simp[clash,e]
 .refine aW [(9,ab)] rfl ?_ (AK.bo rfl ?_)
  .simp[f,d];omega
  .simp[clash,e,cz]
end R1
def Gh(σ σ':List bd):Prop:=∀(s:St),aD σ s->aD σ' s/\Step σ s σ' s/\∀(v:ai)(d:D),dk σ s v d->dk σ' s v d
def WO:bd->bd->Option (List Prop)
 |.vec E k n es,.vec E' k' n' es'=>match av E E',av k k' with
  |true,ab=>aa [n=n',cp n es es']
  |_,_=>af
 |.cells E cs,.cells E' lS=>match av E E' with
  |true=>OL cs lS
  |false=>af
 |.dead,.dead=>aa []
 |.cf H,.cf H'=>aa [H=H']
 |.loop N φ r,.loop N' φ' r'=>aa [bd.loop N φ r=bd.loop N' φ' r']
 |.qp,.qp=>aa []
 |.buf E k n es,.buf E' k' n' es'=>match av E E',av k k' with
  |true,ab=>aa [n=n',cp n es es']
  |_,_=>af
 |_,_=>af
def sD:List bd->List bd->Option (List Prop)
 |[],[]=>aa []
 |a::r,b::q=>match WO a b with
  |some p=>match sD r q with
   |some ps=>aa (iF p ps)
   |none=>af
  |none=>af
 |_,_=>af
def ML(B B':bd):Prop :=
 (∀E k n es,B=.vec E k n es->∃es',B'=.vec E k n es'/\cp n es es')/\((∀E k n es,B≠.vec E k n es)->(∀E k n es,B'≠.vec E k n es)/\(B=B'∨(∃E cs lS,B=.cells E cs/\B'=.cells E lS/\∀σ s vs,dZ σ s vs cs->dZ σ s vs lS)∨∃E k n es es',B=.buf E k n es/\B'=.buf E k n es'/\cp n es es'))
theorem Qa{B B':bd}(h:WO B B'=aa ps)(c:au ps):ML B B':=by
 unfold WO at h;split at h
 .rename_i E k n es E' k' n' es';split at h
  .rename_i b g;cases h;have a:=bX b;have f:=bX g;obtain⟨d,i⟩:n=n'/\cp n es es':=c;subst a f d;refine⟨λE0 k0 n0 X2 he=>?_,λj=>absurd rfl (j _ _ _ _)⟩;grind
  grind
 .rename_i E cs E' lS;split at h
  .rename_i b;have a:=bX b;subst a;exact⟨λ_ _ _ _ he=>(by cases he),λ_=>⟨λ_ _ _ _ he=>(by cases he),.inr (.inl ⟨E,cs,lS,rfl,rfl,λσ s vs r=>Df h c r⟩)⟩⟩
  grind
 .exact⟨λ_ _ _ _ he=>(by cases he),λ_=>⟨λ_ _ _ _ he=>(by cases he),.inl rfl⟩⟩
 .cases h;rename_i H H';have e:H=H':=c;subst e;exact⟨λ_ _ _ _ he=>(by cases he),λ_=>⟨λ_ _ _ _ he=>(by cases he),.inl rfl⟩⟩
 .cases h;rename_i N φ r l φ' r';have e:bd.loop N φ r=bd.loop l φ' r':=c;exact⟨λ_ _ _ _ he=>(by cases he),λ_=>⟨λ_ _ _ _ he=>(by cases he),.inl e⟩⟩
 .exact⟨λ_ _ _ _ he=>(by cases he),λ_=>⟨λ_ _ _ _ he=>(by cases he),.inl rfl⟩⟩
 .rename_i E k n es E' k' n' es';split at h
  .rename_i b g;cases h;have a:=bX b;have f:=bX g;obtain⟨d,i⟩:n=n'/\cp n es es':=c;subst a f d;exact⟨λ_ _ _ _ he=>(by cases he),λ_=>⟨λ_ _ _ _ he=>(by cases he),.inr (.inr ⟨E,k,n,es,es',rfl,rfl,i⟩)⟩⟩
  grind
 grind
def Bl:∀{σ σ':List bd}{ps:List Prop},sD σ σ'=aa ps->au ps->σ'.length=σ.length/\∀(l:Nat)(B B':bd),σ[l]?=aa B->σ'[l]?=aa B'->ML B B'
 |[],[],_,_,_=>⟨rfl,λl B B' h=>by grind⟩
 |[],_::_,_,h,_=>by cases h
 |_::_,[],_,h,_=>by cases h
 |a::r,b::q,ps,h,c=>by
  simp only[sD]at h;split at h
  .rename_i p f;split at h
   .rename_i p2 h2;cases h;rw[au.cat]at c;obtain⟨d,e⟩:=Bl h2 c.2;grind[Qa]
   grind
  grind
def kY(h:sD σ σ'=aa ps)(hp:au ps):Gh σ σ':=by
 obtain⟨W,hg⟩:=Bl h hp;intro s J;have K:∀(l:Nat) (B:bd),σ[l]?=aa B->∃B',σ'[l]?=aa B'/\ML B B':=by grind
 have get:∀(l:Nat) (B':bd),σ'[l]?=aa B'->∃B,σ[l]?=aa B/\ML B B':=by grind
 have i:∀(l:Nat),(∀B,σ[l]?=aa B->B.gr=ae)->∀B,σ'[l]?=aa B->B.gr=ae:=by
  intro l hn B' he;obtain⟨B,I,m⟩:=get l _ he;have q:=hn B I;rcases(m.2 (λE k n es e=>by rw[e]at q;cases q)).2 with rfl|⟨E,cs,G,rfl,rfl,_⟩|⟨E,k,n,es,es',rfl,rfl,_⟩
  .exact q
  .rfl
  .cases q
 have U:∀(l:Nat) E k n es,σ'[l]?=aa (bd.buf E k n es)->∃es',σ[l]?=aa (bd.buf E k n es'):=by
  intro l E k n es he;obtain⟨B,I,m⟩:=get l _ he;by_cases p:∃E k n es,B=bd.vec E k n es
  .obtain⟨E1,k1,n1,Dg,rfl⟩:=p;obtain⟨es',f,_⟩:=m.1 _ _ _ _ rfl;cases f
  .rcases(m.2 (λE k n es e=>p ⟨E,k,n,es,e⟩)).2 with rfl|⟨E,cs,G,rfl,h,_⟩|⟨E,k,n,es,es',rfl,h,_⟩
   .grind
   .cases h
   grind
 have y:∀(l:Nat) E k n es,σ'[l]?=aa (bd.vec E k n es)->∃es',σ[l]?=aa (bd.vec E k n es'):=by
  intro l E k n es he;obtain⟨B,I,m⟩:=get l _ he;by_cases p:∃E k n es,B=bd.vec E k n es
  .obtain⟨E1,k1,n1,Dg,rfl⟩:=p;obtain⟨es',f,_⟩:=m.1 _ _ _ _ rfl;grind
  .exact absurd rfl ((m.2 (λE k n es e=>p ⟨E,k,n,es,e⟩)).1 E k n es)
 have O:∀(v:ai) (a:A),gd σ s v a->gd σ' s v a:=by
  intro v a r;cases a with
  |c x=>exact r
  |ptr l o=>exact⟨i l r.1,r.2⟩
  |vec l k n es =>
   refine⟨r.1,by rw[W];exact r.2.1,λE k' n' es' he=>?_⟩;obtain⟨yZ,g⟩:=y l E k' n' es' he;exact r.2.2 E k' n' yZ g
  |ref l=>exact⟨i l r.1,r.2⟩
  |bp l w =>
   obtain⟨lv,r1,r2,r3⟩:=r;refine⟨lv,r1,by grind,λE k' n' es' he=>?_⟩;grind
  |any=>exact r
 have C:∀(vs:List ai) (cs:List A),dZ σ s vs cs->dZ σ' s vs cs:=by
  intro vs;induction vs with
  |nil=>intro cs r;cases cs with|nil=>trivial|cons _ _=>exact r.elim
  |cons v vs ih=>intro cs r;cases cs with|nil=>exact r.elim|cons c cs=>exact⟨O _ _ r.1,ih _ r.2⟩
 have M:∀(v:ai) (e:E1),nh σ s v e->nh σ' s v e:=by
  intro v e r;cases e with
  |one a=>exact O _ _ r
  |agg cs=>obtain⟨vs,f,g⟩:=r;exact⟨vs,f,C _ _ g⟩
 have R:∀(vs:List ai) (cs:List E1),gC σ s vs cs->gC σ' s vs cs:=by
  intro vs;induction vs with
  |nil=>intro cs r;cases cs with|nil=>trivial|cons _ _=>exact r.elim
  |cons v vs ih=>intro cs r;cases cs with|nil=>exact r.elim|cons c cs=>exact⟨M _ _ r.1,ih _ r.2⟩
 have Q:∀(v:ai) (d:D),dk σ s v d->dk σ' s v d:=by
  intro v d r;cases d with
  |e x=>exact M _ _ r
  |fw xs=>obtain⟨vs,f,g⟩:=r;exact⟨vs,f,R _ _ g⟩
  |any=>trivial
 refine⟨⟨J.mem,by rw[J.len,W],?_,J.eU,J.lt,J.own⟩,⟨aZ _,λ_ _ _=>rfl,λ_ _ _ h=>h,λ_ _ _ _=>rfl,λL h b j=>.inr ⟨L,h,j⟩,?_,rfl,rfl,rfl,rfl⟩,Q⟩
 .intro l B' L F T;obtain⟨B,I,m⟩:=get l B' F;have j:=J.box l B L I T;by_cases p:∃E k n es,B=bd.vec E k n es
  .obtain⟨E,k,n,es,rfl⟩:=p;obtain⟨es',rfl,he⟩:=m.1 _ _ _ _ rfl;refine⟨j.1.CN he,?_⟩;rcases j.2 with⟨f,g⟩|f
   .exact .inl ⟨f,g.CN he⟩
   grind
  .rcases(m.2 (λE k n es e=>p ⟨E,k,n,es,e⟩)).2 with rfl|⟨E,cs,G,rfl,rfl,S⟩|⟨E,k,n,es,es',rfl,rfl,S⟩
   .cases B with
    |cells E cs=>obtain⟨b,vs,f,g,u,z⟩:=j;exact⟨b,vs,f,g,C _ _ u,z⟩
    |vec E k n es=>grind
    |cf H=>exact j
    |dead=>trivial
    |loop N φ r=>obtain⟨l,tmps,fn,Z,f,g,u,z,V⟩:=j;exact⟨l,tmps,fn,Z,f,g,u,λt=>Q _ _ (z t),V⟩
    |qp=>exact j
    |buf E k n es=>exact j
   .obtain⟨b,vs,f,g,u,z⟩:=j;exact⟨b,vs,f,g,C _ _ (S _ _ _ u),z⟩
   .rcases j with j|⟨b,c0,vs,zs,f,g,u,z,V,h6,Y⟩
    .exact .inl j
    .exact .inr ⟨b,c0,vs,zs,f,g,u,z,V,h6.CN S,Y⟩
 .intro l B L I T;obtain⟨B',F,m⟩:=K l B I;refine⟨B',L,F,T,?_⟩;by_cases p:∃E k n es,B=bd.vec E k n es
  .obtain⟨E,k,n,es,rfl⟩:=p;obtain⟨es',rfl,he⟩:=m.1 _ _ _ _ rfl;exact⟨λ_=>rfl,aZ _⟩
  .rcases(m.2 (λE k n es e=>p ⟨E,k,n,es,e⟩)).2 with rfl|⟨E,cs,G,rfl,rfl,S⟩|⟨E,k,n,es,es',rfl,rfl,_⟩
   .exact hU.refl _ _
   .exact rfl
   .exact⟨λ_=>rfl,aZ _⟩
section
variable {X:Cx P}
theorem AW.ghost{Q:Post}{φ':Fr}(h:∀s a,ck N σ s φ a->aD σ s->∃s':St,s'.w=s.w/\ck N σ' s' φ' a/\aD σ' s'/\Step σ s σ' s')(k:AW X N c Q φ' σ'):AW X N c Q φ σ:=by intro s a j hh b kk cs S hb hQ;obtain⟨s',m,i,f,st⟩:=h s a j hh;have d:=st.n3 hh;refine .ghost (.of hh f m d) ?_;exact k s' a i f b kk cs S hb λe g σ2 s2 a2 q l h2 oe=>hQ e g σ2 s2 a2 q l h2 (d.trans oe)
theorem AK.ghost{φ':Fr}{σ':List bd}(h:∀s a,ck N σ s φ a->aD σ s->∃s':St,s'.w=s.w/\ck N σ' s' φ' a/\aD σ' s'/\Step σ s σ' s')(k:AK X N Qf (.code c::K) .normal φ' σ'):AK X N Qf (.code c::K) .normal φ σ :=
 AW.ghost h k
def ck.bs{a:Act}(hb:Gh σ σ')(f:ck N σ s φ a)(hh:aD σ s):ck N σ' s φ a:=⟨f.size,f.defers.imp λ_ h1=>h1.mono (hb s hh).2.1.ext,λt=>(hb s hh).2.2 _ _ (f.slot t)⟩
def AK.norm(σ':List bd)(h:sD σ σ'=aa ps)(b:au ps)(k:AK X N Qf (.code c::K) .normal φ σ'):AK X N Qf (.code c::K) .normal φ σ :=
 AK.ghost (λs a d hh=>⟨s,rfl,d.bs (kY h b) hh,(kY h b s hh).1,(kY h b s hh).2.1⟩) k
def AK.ix(t:Nat)(E:aw)(k:Nat){k':Nat}(h:look φ t=.e (.one (.c (.sl ab k' n es))))(d:n=0)(kk:AK X N Qf (.code c::K) .normal ((t,.e (.one (.vec σ.length k n es)))::φ) (σ++[.vec E k n es])):AK X N Qf (.code c::K) .normal φ σ:=by
 refine AK.ghost (λs a b hh=>?_) kk;have f:=b.slot t;rw[h]at f;have h1:=Rd.uo (k:=k') (k':=k) (.inr d) (fH f);have g:eH (σ++[.vec E k n es]) {s with β:=s.β++[⟨a.tmps.getD t ah,[]⟩]} (.vec E k n es) ⟨a.tmps.getD t ah,[]⟩:=⟨h1.loose,.inl ⟨⟨rfl,d⟩,h1⟩⟩;obtain⟨i,g2⟩:=hh.gx (.refl _ _) rfl hh g (by simp)
 refine⟨{s with β:=s.β++[⟨a.tmps.getD t ah,[]⟩]},rfl,⟨b.size,b.defers.imp λ_ h1=>h1.mono g2.ext,λu=>?_⟩,i,g2⟩;simp only[look];cases hb:av t u with
 |false=>exact(b.slot u).mono g2.ext hh.len
 |true =>
  have e:=bX hb;subst e;exact pz (L:=⟨a.tmps.getD t ah,[]⟩) (by simp) (by simp[<-hh.len]) g
def AK.jA{S:Type}(I:S->Prop)(fr:S->Fr)(st:S->List bd)(j:S->Nat)(x:S){qs:List Prop}(k:pZ φ (fr x)=aa ps)(E:au ps)(m:sD σ (st x)=aa qs)(B:au qs)(C:I x)(round:∀x,I x->AK X N (λe φ' σ'=>match e with
   |.normal=>∃y,I y/\j y<j x/\rJ φ' (fr y)/\Gh σ' (st y)
   |e=>AK X N Qf K e φ' σ') [.code c] .normal (fr x) (st x)):AK X N Qf (.code (.loop c)::K) .normal φ σ:=by
 intro s a D hh b kk cs SS hb hQ;have h:=kY m B;obtain⟨u,v,_⟩:=h s hh;refine vu (λn a' s'=>∃y,I y/\ck N (st y) s' (fr y) a'/\aD (st y) s'/\cN σ s (st y) s'/\j y=n) ?_ ?_ ⟨x,C,(D.le (dv k E)).bs h hh,u,v.n3 hh,rfl⟩
 .rintro n a' s' ⟨y,t,r,i,d,e⟩;exact⟨st y,i,λH h1=>⟨y,t,r.rely h1 i,i.rely h1,d.trans h1.stepW,e⟩⟩
 rintro n a' s' ⟨y,t,r,i,d,rfl⟩ F;refine round y t s' a' r i b (.inLoop c::kk) cs SS hb ?_;intro e A σ2 s2 a2 q w h2 oe;cases e with
 |normal =>
  obtain⟨z,G,o,f,g⟩:=q;obtain⟨l,p,_⟩:=g s2 h2;exact F a2 s2 (j z) o ⟨z,G,(w.le f).bs g h2,l,d.trans (oe.trans (p.n3 h2)),rfl⟩
 |_=>exact ends.cons (λ_ _=>rfl) (by simp) (hQ _ _ _ _ _ q w h2 (d.trans oe))
def AK.fK{S:Type}{I:S->Prop}{fr:S->Fr}{st:S->List bd}{a:S->Nat}{x:S}{Qr:Post}(y:S){qs:List Prop}(b:pZ φ (fr y)=aa ps)(g:au ps)(d:sD σ (st y)=aa qs)(f:au qs)(h:I y)(c:a y<a x):
  AK X N (λe φ' σ'=>match e with
   |.normal=>∃y,I y/\a y<a x/\rJ φ' (fr y)/\Gh σ' (st y)
   |e=>Qr e φ' σ') [] .normal φ σ:=⟨y,h,c,dv b g,kY d f⟩
end
def Ev.forget{X:Cx P}{f:aJ}{args:List D}{res res':D}(h:Ev X f args [] res σ')(e:CH res res'=aa ps)(g:au ps)(a:uV 0 res'=ab):Ev X f args [] res' []:=by
 refine⟨h.1,λs vs hr hh S cs hS=>h.2 s vs hr hh S cs λfr v c hl hv h1 st=>?_⟩
 have j:s.β=[]:=jg hh.len;have i:eK c {c with β:=[]}:=⟨rfl,λ_ _ _ h=>h,λ_ _ _=>rfl,h1.mem,λb hb=>.inl (by grind)⟩
 refine .ghost i (hS fr v {c with β:=[]} (hl.mono λ_ _ _ h=>h) ?_ ⟨h1.mem,rfl,by simp,by simp,by simp,λb hb=>⟨(h1.own b hb).1,by simp⟩⟩ ⟨st.size,st.keep,st.mem,st.iI,by simp,λl B L k=>by grind,st.os,st.tape,st.output,st.own⟩)
 .have h2:=qu e g hv;have:=dk.sub (ks:=[]) (σ:=σ') (σ':=[]) (s:=c) (β':=[]) (d:=res') rfl rfl (by rw[Bm a];exact h2) a;exact this
section drop
variable {σ1 rest:List bd}
def Tc(n:Nat):bd->Bool
  | .cells _ cs=>EG n cs
  | .loop ..=>ae
  | _=>ab
def xn(n:Nat):List bd->Bool
  | []=>ab
  | a::r=>match Tc n a with|true=>xn n r|false=>ae
def Bn{n:Nat}:∀{l:List bd},xn n l=ab->∀B∈l,Tc n B=ab
  | [],_,B,a=>by grind
  | b::r,h,B,a=>by
    simp only[xn]at h;cases c:Tc n b with
    | false=>grind
    | true =>
      simp only[c]at h;rcases dK.1 a with rfl|a
      · exact c
      · exact Bn h B a
def eH.tn{B:bd}{L:Loc}(a:Tc σ1.length B=ab)(h:eH (σ1++rest) s B L):eH σ1 (s.cut σ1.length) B L:=by
  cases B with
  | cells E cs =>
    obtain⟨b,vs,h1,h2,d,c⟩:=h;exact⟨b,vs,h1,h2,dZ.xk d a,c⟩
  | vec E k n es=>exact h
  | cf H=>exact h
  | dead=>trivial
  | loop N φ r=>simp[Tc]at a
  | qp=>exact h
  | buf E k n es=>exact h
def aD.drop(h:aD (σ1++rest) s)(f:xn σ1.length σ1=ab):aD σ1 (s.cut σ1.length):=by
  have hl:σ1.length<=s.β.length:=by rw[h.len];simp
  refine⟨h.mem,by simp[St.cut,hl],?_,?_,?_,λb hb=>⟨(h.own b hb).1,λL a=>(h.own b hb).2 L (ji a)⟩⟩
  · intro l B L e a
    have d:l<σ1.length:=(b8.1 e).1;simp only[St.cut,fR,d,b5]at a;exact eH.tn (rest:=rest) (Bn f B (bH e)) (h.box l B L (by grind) a)
  · intro l l' L L' a c b hb nZ
    simp only[St.cut,fR]at a c;split at a<;>split at c<;>first|exact h.eU l l' L L' a c b hb nZ|grind|grind
  · intro L a b hb
    exact h.lt L (ji a) b hb
def om.drop(a:mP rest=ab):∀{ds:List Deferred} {ls:List Nat},om (σ1++rest) s ds ls->om σ1 (s.cut σ1.length) ds ls
  | [],[],_=>trivial
  | [],_::_,r=>r.elim
  | _::_,[],r=>r.elim
  | d::ds,l::ls,⟨⟨h1,L,r,h2,e⟩,b,c⟩=>by
    have hl:l<σ1.length:=by
      rcases cA l σ1.length with h|h
      · exact h
      · rw[fx h]at h1
        exact absurd rfl (mQ a _ (bH h1))
    rw[jh hl]at h1;exact⟨⟨h1,L,r,by simp only[St.cut,fR,hl,b5];exact h2,e⟩,b,om.drop a c⟩
def zE(n:Nat)(σ:List bd):Bool:=match bu n σ.length with|true=>mP (σ.drop n)|false=>ae
theorem xT(h:zE n σ=ab):bu n σ.length=ab/\mP (σ.drop n)=ab:=by unfold zE at h;grind
end drop
def Gi(n:Nat):Fr->Bool
  | []=>ab
  | (_,d)::r=>match uV n d with|true=>Gi n r|false=>ae
def pM{n:Nat}:∀{φ:Fr} {t:Nat},Gi n φ=ab->uV n (look φ t)=ab
  | [],t,_=>rfl
  | (u,d)::r,t,h=>by
    simp only[Gi]at h;cases a:uV n d with
    | false=>grind
    | true =>
      simp only[a]at h;simp only[look];cases av u t with
      | true=>exact a
      | false=>exact pM h
section
variable {X:Cx P}
def lF{S:Type}(X:Cx P)(N:Nat)(Qf:Post)(K:List It)(I:S->Prop)(a:S->Fr)(st:S->List bd)(b:S->Nat)(n:Nat)(x:S):Post:=λe φ' σ'=>match e with
  | .normal=>∃y,I y/\b y<b x/\rJ φ' (a y)/\Gi n (a y)=ab/\∃σ1 rest,σ'=σ1++rest/\σ1.length=n/\(xn n σ1=ab/\mP rest=ab)/\Gh σ1 (st y)
  | e=>AK X N Qf K e φ' σ'
def AK.bY{S:Type}(n:Nat)(I:S->Prop)(fr:S->Fr)(st:S->List bd)(o:S->Nat)(x:S){qs:List Prop}(l:pZ φ (fr x)=aa ps)(U:au ps)(p:sD σ (st x)=aa qs)(J:au qs)(hn:σ.length=n)(R:I x)(round:∀x,I x->AK X N (lF X N Qf K I fr st o n x) [.code c] .normal (fr x) (st x)):AK X N Qf (.code (.loop c)::K) .normal φ σ:=by
  intro s a T hh b kk cs SS hb hQ;have i:=kY p J;obtain⟨D,E,_⟩:=i s hh;refine vu (λm a' s'=>∃y,I y/\ck N (st y) s' (fr y) a'/\aD (st y) s'/\cN σ s (st y) s'/\o y=m) ?_ ?_ ⟨x,R,(T.le (dv l U)).bs i hh,D,E.n3 hh,rfl⟩
  · rintro n a' s' ⟨y,C,A,j,d,e⟩
    exact⟨st y,j,λs1 h1=>⟨y,C,A.rely h1 j,j.rely h1,d.trans h1.stepW,e⟩⟩
  rintro m a' s' ⟨y,C,A,j,d,rfl⟩ Y;refine round y C s' a' A j b (.inLoop c::kk) cs SS hb ?_;intro e H σ2 s2 a2 q G h2 oe;cases e with
  | normal =>
    obtain⟨z,Z,r,f,V,σ1,rest,rfl,W,⟨O,k⟩,u⟩:=q;have F:=h2.drop (by grind);obtain⟨v,g,w⟩:=u _ F;have B:=G.le f;have M:eK s2 (s2.cut σ1.length):=⟨rfl,λ_ _ _ h=>h,λ_ _ _=>rfl,h2.mem,λb hb=>hb.imp id λ⟨L,Q,hb⟩=>⟨L,ji Q,hb⟩⟩
    refine .ghost M (Y a2 (s2.cut σ1.length) (o z) r ⟨z,Z,⟨B.size,B.defers.imp λ_ h1=>(h1.drop k).mono g.ext,λt=>w _ _ ((B.slot t).drop (pM (by grind)))⟩,v,?_,rfl⟩);exact((d.trans oe).drop (by omega)).trans (g.n3 F)
  | _=>exact ends.cons (λ_ _=>rfl) (by simp) (hQ _ _ _ _ _ q G h2 (d.trans oe))
def AK.Qb{S:Type}{I:S->Prop}{fr:S->Fr}{st:S->List bd}{e:S->Nat}{x:S}{h:List It}(y:S){qs:List Prop}(b:pZ φ (fr y)=aa ps)(i:au ps)(d:Gi n (fr y)=ab)(f:zE n σ=ab)(g:sD (σ.take n) (st y)=aa qs)(j:au qs)(a:xn n (σ.take n)=ab)(k:I y)(c:e y<e x):
    AK X N (lF X N Qf h I fr st e n x) [] .normal φ σ :=
  ⟨y,k,c,dv b i,d,σ.take n,σ.drop n,(jN n σ).symm,by grind[Nat.le_of_ble_eq_true,xT],⟨a,(xT f).2⟩,kY g j⟩
def AK.aQ{S:Type}{n:Nat}{I:S->Prop}{fr:S->Fr}{st:S->List bd}{b:S->Nat}{x:S}{c:List It}(y:S){ps qs:List Prop}(h:(pZ φ (fr y),Gi n (fr y),zE n σ,sD (σ.take n) (st y),xn n (σ.take n))=(aa ps,ab,ab,aa qs,ab))(e:au ps)(d:au qs)(f:I y)(a:b y<b x):
    AK X N (lF X N Qf c I fr st b n x) [] .normal φ σ:=by simp only[ln]at h;exact AK.Qb y h.1 e h.2.1 h.2.2.1 h.2.2.2.1 d h.2.2.2.2 f a
def AK.leaveD{S:Type}{I:S->Prop}{fr:S->Fr}{st:S->List bd}{b:S->Nat}{x:S}{id:Nat}{c a d:List It}(h1:ko id c=af)(h2:ko id a=aa d)(k:AK X N Qf d .normal φ σ):
    AK X N (lF X N Qf a I fr st b n x) (.code (.exit id)::c) .normal φ σ :=
  AW.mono (AK.leave (A:=λφ' σ'=>lF X N Qf a I fr st b n x .normal φ' σ') h1 h2 k) λe φ' σ' q=>by
    have key:∀(K:List It) e,AK X N (λe φ' σ'=>match e with
        | .normal=>lF X N Qf a I fr st b n x .normal φ' σ'
        | e=>AK X N Qf a e φ' σ') K e φ' σ'->AK X N (lF X N Qf a I fr st b n x) K e φ' σ':=by
      have e:(λe φ' σ'=>match e with
        | .normal=>lF X N Qf a I fr st b n x .normal φ' σ'
        | e=>AK X N Qf a e φ' σ')=lF X N Qf a I fr st b n x:=by funext e φ' σ';cases e<;>rfl
      grind
    exact key _ _ q
def AK.eX{S:Type}{I:S->Prop}{fr:S->Fr}{st:S->List bd}{c:S->Nat}{x:S}{b a:List It}(k:Qf .ret φ σ):AK X N (lF X N Qf a I fr st c n x) (.code .ret::b) .normal φ σ :=
  AK.ret (AK.rI (Qf:=Qf) k)
theorem ck.freeze(t l:Nat){cs:List A}{cc:List C}(z:look φ t=.e (.one (.ptr l 0)))(hl:eB l σ=aa (.cells E cs))(F:gN cs=aa cc){a:Act}(g:ck N σ s φ a)(hh:aD σ s):∃s':St,s'.w=s.w/\ck N (σ.set l .dead) s' ((t,.e (.one (.c (.rp cc))))::φ) a/\aD (σ.set l .dead) s'/\Step σ s (σ.set l .dead) s':=by
  have n:=cX hl;have i:l<σ.length:=(b8.1 n).1;have x:=g.slot t;rw[z]at x;obtain⟨_,L,b,k,d,D⟩:=x;obtain⟨f,vs,h1,h2,y,H⟩:=hh.box l _ L n k;subst h1;simp at d;subst d;let s':St:={s with M:=λq o=>if q=f then vs[o]? else s.M q o}
  have st:Step σ s (σ.set l .dead) s':=by
    refine⟨aZ _,λ_ _ _=>rfl,?_,?_,λL h b hb=>.inr ⟨L,h,hb⟩,?_,rfl,rfl,rfl,rfl⟩
    · grind
    · intro b hb hn o
      have m:b≠f:=λe=>hn _ (bH k) (by simp[e]);grind
    · intro l' B L' lQ gm
      by_cases e:l=l'
      · subst e
        rw[n]at lQ;cases lQ;exact⟨.dead,L',by grind,gm,rfl⟩
      · exact⟨B,L',by grind,gm,.refl _ _⟩
  refine⟨s',rfl,⟨g.size,g.defers.imp λ_ h1=>h1.mono st.ext,λu=>?_⟩,⟨?_,by simp[hh.len,s'],?_,hh.eU,hh.lt,hh.own⟩,st⟩
  · simp only[look]
    cases hb:av t u with
    | false=>exact(g.slot u).mono st.ext hh.len
    | true =>
      have e:=bX hb;subst e;rw[D];have p:=lh F y;refine Rd.rp f 0 (λj=>(vs[j]?).getD ah) ?_ ?_
      · intro j c hj
        obtain⟨v,r,_⟩:=p.get (j:=j) (a:=.c c) (by grind);grind
      · intro j c hj
        obtain⟨v,r,p2⟩:=p.get (j:=j) (a:=.c c) (by grind);simp only[r,ga];exact Rd.mono st.mem p2
  · intro b o v hm
    by_cases e:b=f
    · subst e
      have hm':vs[o]?=aa v:=by grind
      show s.w.cell? _=_;simp[aV,h2,hm']
    · exact hh.mem b o v (by grind)
  · intro l' B L' lQ gm
    by_cases e:l=l'
    · subst e
      rw[fQ i]at lQ;cases lQ;trivial
    · rw[kF e]at lQ
      refine(hh.box l' B L' lQ gm).carry st.ext hh.len λb hb=>⟨rfl,λo=>?_⟩
      have m:b≠f:=λG=>e (hh.eU l l' _ L' k gm b (by grind) hb);grind
theorem AK.freeze(t l:Nat){E:aw}{cs:List A}{cc:List C}(a:look φ t=.e (.one (.ptr l 0)))(hl:eB l σ=aa (.cells E cs))(b:gN cs=aa cc)(kk:AK X N Qf (.code c::K) .normal ((t,.e (.one (.c (.rp cc))))::φ) (eb.si l .dead σ)):AK X N Qf (.code c::K) .normal φ σ:=by grind[kV,AK.ghost,ck.freeze]
def AK.one{rest:List aB}{x:D}(h:OA X N all o φ σ x σ')(a:fD N o.dst=ab)(k:AK X N Qf (.ops all rest::K) .normal (kg o.dst x φ) σ'):AK X N Qf (.ops all (o::rest)::K) .normal φ σ :=
  jd.xo h (gB a) k
end
structure Di(d:TypeDesc)(es:Array MapEntry)(k:ai)(a:Option (Nat×ai)):Prop where
 key:MapKept.IsKey d k
 now:Instr.findNow d k es.toList 0=aa a
 no:a=af->∀e∈es.toList,e.key≠k
 yes:∀j v,a=aa (j,v)->∃e,es[j]?=aa e/\e.key=k/\e.val=v
def xV{d:TypeDesc}{es:Array MapEntry}{k:ai}(g:MapKept.IsKey d k)(h:∀e∈es.toList,MapKept.IsKey d e.key):∃a,Di d es k a:=by
 rcases MapKept.findNow_spec g es.toList 0 h with⟨b,i⟩|⟨j,e,b,i,m⟩
 .exact⟨af,g,b,λ_=>i,by simp⟩
 .refine⟨_,g,b,by simp,λn v l=>?_⟩;grind
section
variable {c f:aw}{d:TypeDesc}{r:Nat}{es:Array MapEntry}{clock:Nat}{k:ai}{ok:Bool}
def E6(a:P.underlying c=aa d):(underlying c).run P w=.ok d w:=by simp[underlying,a]
def l6(e:P.underlying c=aa d)(a:MapKept.IsKey d k)(b:Bool)(evs:Array Event):(Instr.checkKey b 10000 c k).events P w evs=evs:=by show(Instr.checkKey b (9999+1) c k).events P w evs=evs;unfold Instr.checkKey;simp only[aK,E6 e,aP,events_underlying];cases d<;>cases k<;>first|exact a.elim|simp
def nI{l:List MapEntry}{a:Option (Nat×ai)}(b:P.underlying c=aa d)(h:Instr.findNow d k l 0=aa a)(evs:Array Event):(Instr.findKey c k l).events P w evs=evs:=by simp[Instr.findKey,E6 b,h]
def j5(a:w.heap[r]?=aa (.map es clock))(evs:Array Event):(getObj r).events P w evs=evs.push ⟨.obj r,ae,ae⟩:=by simp only[getObj,Sem.events,Sem.runT,a];rfl
def qd(a:w.heap[r]?=aa (.map es clock)){es':Array MapEntry}{b:Nat}(evs:Array Event):(setObj r (.map es' b)).events P w evs=evs.push ⟨.obj r,ab,ae⟩:=by simp only[setObj,Sem.events,Sem.runT,a];rfl
def qf(e:P.underlying c=aa d)(a:MapKept.IsKey d k)(b:Bool):(Instr.checkKey b 10000 c k).run P w=.ok () w:=MapKept.run_checkKey e a b 9999
def tp(m:P.underlying t=aa (.map c f))(h:P.underlying c=aa d)(e:w.heap[r]?=aa (.map es clock)){a:Option (Nat×ai)}(g:Di d es k a){z:ai}(l:a=af->(zeroValue f).run P w=.ok z w):
  (Instr.lookup t (.map (aa r)) k ok).run P w=.ok (match a with
   |some (_,v)=>if ok=ab then .tuple #[v,.bool ab]else v
   |none=>if ok=ab then .tuple #[z,.bool ae]else z) w/\(Instr.lookup t (.map (aa r)) k ok).events P w #[]=#[⟨.obj r,ae,ae⟩]:=by
 have i:(underlying t).run P w=.ok (.map c f) w:=by simp[underlying,m]
 have j:=qf (w:=w) h g.key es.isEmpty;have b:(Instr.findKey c k es.toList).run P w=.ok a w:=MapKept.run_findKey h g.now;cases a with
 |some jv =>
  constructor
  .simp only[Instr.lookup,bO,i,b9,MapKept.run_getObj_map e,cT,j,b]
  .simp only[Instr.lookup,aK,i,aP,MapKept.run_getObj_map e,cT,Sem.events_pure,j,b,events_underlying,j5 e,l6 h g.key,nI h g.now];rfl
 |none =>
  constructor
  .simp only[Instr.lookup,bO,i,b9,MapKept.run_getObj_map e,cT,j,b,l rfl]
  .simp only[Instr.lookup,aK,i,aP,MapKept.run_getObj_map e,cT,Sem.events_pure,j,b,events_underlying,j5 e,l6 h g.key,nI h g.now,l rfl,events_zeroValue];rfl
def tq(s:P.underlying t=aa (.map c f))(i:P.underlying c=aa d)(b:w.heap[r]?=aa (.map es clock)){a:Option (Nat×ai)}{x:ai}(g:Di d es k a):
  (Instr.mapUpdate t (.map (aa r)) k x).run P w=.ok () {w with heap:=w.heap.setIfInBounds r (match a with
   |some (j,_)=>.map (es.modify j λe=>{key:=k,val:=x,born:=e.born}) clock
   |none=>.map (es.push {key:=k,val:=x,born:=clock}) (clock+1))} /\
  (Instr.mapUpdate t (.map (aa r)) k x).events P w #[]=#[⟨.obj r,ae,ae⟩,⟨.obj r,ab,ae⟩]:=by
 have o:(underlying t).run P w=.ok (.map c f) w:=by simp[underlying,s]
 have p:=qf (w:=w) i g.key ae;have h:(Instr.findKey c k es.toList).run P w=.ok a w:=MapKept.run_findKey i g.now;cases a with
 |some jv =>
  obtain⟨j,v⟩:=jv;obtain⟨e,m,n,_⟩:=g.yes j v rfl;have l:(Instr.keyThatStays k k).run P w=.ok k w:=MapKept.run_keyThatStays g.key;have q:∀evs,(Instr.keyThatStays k k).events P w evs=evs:=λevs=>by simp[Instr.keyThatStays,MapKept.sameBits_self g.key]
  constructor
  .simp only[Instr.mapUpdate,bO,o,b9,MapKept.run_getObj_map b,p,h,m,mv,ga,n,l,MapKept.run_setObj_map _ b]
  .simp only[Instr.mapUpdate,aK,o,aP,MapKept.run_getObj_map b,p,h,m,mv,ga,n,l,q,events_underlying,j5 b,qd b,l6 i g.key,nI i g.now];rfl
 |none =>
  constructor
  .simp only[Instr.mapUpdate,bO,o,b9,MapKept.run_getObj_map b,p,h,MapKept.run_setObj_map _ b]
  .simp only[Instr.mapUpdate,aK,o,aP,MapKept.run_getObj_map b,p,h,events_underlying,j5 b,qd b,l6 i g.key,nI i g.now];rfl
end
def aD.iD(h:aD σ s){H':ai->(Nat->Option Obj)->Prop}{L L':Loc}(y:σ[l]?=aa (.cf H))(t:s.β[l]?=aa L)(J:L'.v=L.v)(q:s.w.heap.size<=w'.heap.size)(I:∀b,b<s.w.heap.size->b∉L.bs->w'.heap[b]?=s.w.heap[b]?)(k:∀b∈L'.bs,b∈L.bs∨(s.w.heap.size<=b/\b<w'.heap.size))(hb:∃ch,H' L'.v ch/\(∀(b:Nat) (o:Obj),ch b=aa o->w'.heap[b]?=aa o)/\(∀b,b∈L'.bs↔(ch b).isSome=ab))(ho:w'.os=s.w.os)(E:w'.tape=s.w.tape)(K:w'.output=s.w.output):
  aD (σ.set l (.cf H')) ⟨s.β.set l L',s.M,w',s.own⟩/\Step σ s (σ.set l (.cf H')) ⟨s.β.set l L',s.M,w',s.own⟩:=by
 have x:l<σ.length:=(b8.1 y).1;have u:l<s.β.length:=by grind
 obtain⟨z,_,_,_,N⟩:=h.box l _ L y t;have r:∀b∈L'.bs,∀o,s.M b o=af:=by
  intro b i o;rcases k b i with h1|⟨h1,_⟩
  .grind
  .cases hm:s.M b o with
   |none=>rfl
   |some v=>have:=h.block hm;omega
 have st:Step σ s (σ.set l (.cf H')) ⟨s.β.set l L',s.M,w',s.own⟩:=by
  refine⟨q,?_,λ_ _ _ h=>h,λ_ _ _ _=>rfl,?_,?_,ho,E,K,rfl⟩
  .grind
  .grind
  .intro l' B a d f;by_cases e:l=l'
   .subst e;rw[y]at d;cases d;rw[t]at f;cases f;exact⟨.cf H',L',by grind,by grind,J⟩
   .exact⟨B,a,by grind,by grind,.refl _ _⟩
 have g:∀(l':Nat) (a:Loc),(s.β.set l L')[l']?=aa a->(l'=l/\a=L')∨(l≠l'/\s.β[l']?=aa a):=by grind
 refine⟨⟨?_,by simp[h.len],?_,?_,?_,?_⟩,st⟩
 .intro b o v hm;have A:=h.block hm;have O:b∉L.bs:=λm=>by grind
  rw[<-h.mem b o v hm];simp only[aV];grind
 .intro l' B a d f;rcases g l' a f with⟨rfl,rfl⟩|⟨e,h2⟩
  .rw[fQ x]at d;cases d;obtain⟨ch,k1,C,G⟩:=hb;exact⟨ch,k1,C,G,r⟩
  .rw[kF e]at d;refine(h.box l' B a d h2).carry st.ext h.len λb i=>⟨I b (h.lt a (bH h2) b i) λm=>e (h.eU l l' L a t h2 b m i),λ_=>rfl⟩
 .intro D F L1 a h1 h2 b j c;rcases g D L1 h1 with⟨rfl,rfl⟩|⟨e1,n⟩<;>rcases g F a h2 with⟨rfl,rfl⟩|⟨e2,p⟩
  .rfl
  .rcases k b j with m|m
   .exact h.eU _ _ L a t p b m c
   .have:=h.lt a (bH p) b c;omega
  .rcases k b c with m|m
   .exact h.eU _ _ L1 L n t b j m
   .have:=h.lt L1 (bH n) b j;omega
  .exact h.eU _ _ L1 a n p b j c
 .intro a f b c;rcases List.mem_or_eq_of_mem_set f with h1|h1
  .exact cx (h.lt a h1 b c) q
  .subst h1;rcases k b c with h2|h2
   .exact cx (h.lt L (bH t) b h2) q
   grind
 .intro b hb;obtain⟨Q,P⟩:=h.own b hb;grind
section
variable {H':ai->(Nat->Option Obj)->Prop}
end
def cd.sI{fn:Func}{a:Nat}{res:D}(ks:List Nat)(h:zi fn.results.toList ks φ res=aa ps)(d:au ps)(f:jV ks σ=aa σ')(b:kJ σ'=ab)(e:dX ks=ab)(c:∀j,j<a->ks[j]?=aa j):
  cd fn a res σ' .normal φ σ:=by refine⟨.inr rfl,ks,?_⟩;unfold zi at h;grind
def AK.Py{X:Cx P}{f:aJ}{σ1:List bd}{res:D}(h:Ev X f cm σs res σ1)(ks:List Nat)(e:o.guard=af)(ho:o.op=.call {callee:=.value fo,args:=xs,argTypes:=jJ})(i:ei (bJ φ fo)=aa (f,cap))(a:n5 (xs.toList.map (bJ φ)++fC cap)=gD ks cm)(d:lT ks.length cm=ab)(b:jV ks σ=aa σs)(j:cE σs=ab)(c:cE σ1=ab)(l:dX ks=ab)(g:bu ks.length σ1.length=ab)(m:fD N o.dst=ab)(k:AK X N Qf (.ops all rest::K) .normal (kg o.dst (iE (ks++lz σ.length (σ1.length-ks.length)) res) φ) (eb ks σ1 σ)):AK X N Qf (.ops all (o::rest)::K) .normal φ σ :=
 jd.call (λ_ _ _ _=>du e) ho i ks h a d b j c l (dJ g) o.dst rfl (gB m) k
def AK.ze{X:Cx P}{f:aJ}(h:dL X f cm σs res σ1)(ks:List Nat)(e:o.guard=af)(ho:o.op=.call {callee:=.value fo,args:=xs,argTypes:=jJ})(i:ei (bJ φ fo)=aa (f,cap))(a:n5 (xs.toList.map (bJ φ)++fC cap)=gD ks cm)(d:lT ks.length cm=ab)(b:jV ks σ=aa σs)(l:cE σs=ab)(c:∀j,cE (σ1 j)=ab)(m:dX ks=ab)(g:∀j,bu ks.length (σ1 j).length=ab)(n:fD N o.dst=ab)(k:∀j,AK X N Qf (.ops all rest::K) .normal (kg o.dst (iE (ks++lz σ.length ((σ1 j).length-ks.length)) (res j)) φ) (eb ks (σ1 j) σ)):AK X N Qf (.ops all (o::rest)::K) .normal φ σ :=
 jd.Ou (λ_ _ _ _=>du e) ho i ks h a d b l c m (λj=>dJ (g j)) o.dst rfl (gB n) k
def AK.cQ{P:aM}{X:Cx P}{N:Nat}{Qf:Post}{K:List It}{φ:Fr}{σ:List bd}{all rest:List aB}{o:aB}{fo:aC}{xs:Array aC}{jJ:Array aw}{f:aJ}{cap:List C}{cm:List D}{σs σ1:List bd}{res:D}(n:Ev X f cm σs res σ1)(ks:List Nat)(h:(o.guard,o.op,ei (bJ φ fo),n5 (xs.toList.map (bJ φ)++fC cap),lT ks.length cm,jV ks σ,cE σs,cE σ1,dX ks,bu ks.length σ1.length,fD N o.dst)=(af,.call {callee:=.value fo,args:=xs,argTypes:=jJ},aa (f,cap),gD ks cm,ab,aa σs,ab,ab,ab,ab,ab))(k:AK X N Qf (.ops all rest::K) .normal (kg o.dst (iE (ks++lz σ.length (σ1.length-ks.length)) res) φ) (eb ks σ1 σ)):AK X N Qf (.ops all (o::rest)::K) .normal φ σ:=by simp only[ln]at h;obtain⟨a,b,c,d,e,f,g,i,j,l,m⟩:=h;exact AK.Py n ks a b c d e f g i j l m k
def AK.cP{P:aM}{ι:Type}{X:Cx P}{N:Nat}{Qf:Post}{K:List It}{φ:Fr}{σ:List bd}{all rest:List aB}{o:aB}{fo:aC}{xs:Array aC}{jJ:Array aw}{f:aJ}{cap:List C}{cm:List D}{σs:List bd}{σ1:ι->List bd}{res:ι->D}(i:dL X f cm σs res σ1)(ks:List Nat)(h:(o.guard,o.op,ei (bJ φ fo),n5 (xs.toList.map (bJ φ)++fC cap),lT ks.length cm,jV ks σ,cE σs,dX ks,fD N o.dst)=(af,.call {callee:=.value fo,args:=xs,argTypes:=jJ},aa (f,cap),gD ks cm,ab,aa σs,ab,ab,ab))(q:∀j,(cE (σ1 j),bu ks.length (σ1 j).length)=(ab,ab))(k:∀j,AK X N Qf (.ops all rest::K) .normal (kg o.dst (iE (ks++lz σ.length ((σ1 j).length-ks.length)) (res j)) φ) (eb ks (σ1 j) σ)):AK X N Qf (.ops all (o::rest)::K) .normal φ σ:=by simp only[ln]at h q;obtain⟨a,b,c,d,e,f,g,j,m⟩:=h;exact AK.ze i ks a b c d e f g (λj=>(q j).1) j (λj=>(q j).2) m k
def tK:List D->List D->Option (List Prop)
 |[],[]=>aa []
 |a::al,b::bs=>match CH a b with
  |some p=>match tK al bs with
   |some q=>aa (iF p q)
   |none=>af
  |none=>af
 |_,_=>af
def rh{σ:List bd}{s:St}:∀{vs:List ai}{xs ys:List D}{ps:List Prop},tK xs ys=aa ps->au ps->cg σ s vs xs->cg σ s vs ys
 |[],[],[],_,_,_,_=>trivial
 |_::_,[],_,_,_,_,h=>h.elim
 |[],_::_,_,_,_,_,h=>h.elim
 |[],[],_::_,_,h,_,_=>by simp[tK]at h
 |_::_,_::_,[],_,h,_,_=>by simp[tK]at h
 |v::vs,a::al,b::bs,ps,h,c,f=>by
  simp only[tK]at h;cases d:CH a b with
  |none=>grind
  |some p =>
   cases e:tK al bs with
   |none=>grind
   |some q =>
    simp[d,e]at h;subst h;rw[au.cat]at c;exact⟨qu d c.1 f.1,rh e c.2 f.2⟩
def AK.kW{X:Cx P}{f:aJ}(l:dL X f cm σs res σ1)(ks:List Nat)(e:o.guard=af)(ho:o.op=.call {callee:=.value fo,args:=xs,argTypes:=jJ})(m:ei (bJ φ fo)=aa (f,cap))(a:tK (xs.toList.map (bJ φ)++fC cap) (gD ks cm)=aa ps)(i:au ps)(d:lT ks.length cm=ab)(b:jV ks σ=aa σs)(n:cE σs=ab)(c:∀j,cE (σ1 j)=ab)(p:dX ks=ab)(g:∀j,bu ks.length (σ1 j).length=ab)(q:fD N o.dst=ab)(k:∀j,AK X N Qf (.ops all rest::K) .normal (kg o.dst (iE (ks++lz σ.length ((σ1 j).length-ks.length)) (res j)) φ) (eb ks (σ1 j) σ)):AK X N Qf (.ops all (o::rest)::K) .normal φ σ :=
 jd.AY (λ_ _ _ _=>du e) ho m ks l (λs vs h=>rh a i h) d b n c p (λj=>dJ (g j)) o.dst rfl (gB q) k
def IH{a:Act}{d:Nat}(h:d<a.tmps.size):(a.put (aa d) v).tmps.getD d ah=v:=by simp[Act.put,dH,uM h]
def ey.of_eq{es es':Array Event}(h:es=es')(k:ey s es'):ey s es:=by grind
def pL{m:Sem ai}{n:Sem Next}(h:ey s (m.events P s.w #[]))(e:n=(do pure (.value (<-m)))):ey s (n.events P s.w #[]):=by grind[ek]
def ly{f:aJ}{fn:Func}{e:Array ai->Sem ai}(d:P.funcs[f]?=aa fn)(a:(fn.name== "runtime.NumGoroutine")=ae)(g:fn.body.isNone=ab)(h:Extern.findNext fn=af)(b:Extern.find fn=aa e)(args:Array ai)(i:cV P (e args))(w:aA)(es:Array Event):
  (callFunc f args).events P w es=es.push ⟨.mark (.extern f),ae,ab⟩:=by
 have c:fn.name≠ "runtime.NumGoroutine":=by grind
 have j:fn.body=af:=by simpa using g
 simp[callFunc,d,c,j,h,b];rw[i w]
section
variable {X:Cx P}
def jL(P:aM)(N:Nat)(o:aB)(φ:Fr)(σ:List bd)(x:ι->D)(σ':ι->List bd):Prop :=
 ∀s a,ck N σ s φ a->aD σ s->∃i b s' v,(ak a.eval o).run P s.w=.ok b s'.w/\(b=.value v∨(b=.skip/\v=ah))/\dk (σ' i) s' v (x i)/\aD (σ' i) s'/\Step σ s (σ' i) s'/\ey s ((ak a.eval o).events P s.w #[])
def AK.hand(x:ι->D)(σ':ι->List bd)(B:o.guard=af)(w:fD N o.dst=ab)(h:jL P N o φ σ x σ')(k:∀i,AK X N Qf (.ops all rest::K) .normal (kg o.dst (x i) φ) (σ' i)):AK X N Qf (.ops all (o::rest)::K) .normal φ σ:=by
 intro s a f hh b kk cs S idx hb iC hQ;cases idx with
 |nil=>exact iC.elim
 |cons j idx =>
 refine zx hb iC.1 (du B) λA d=>?_;have c:=hh.rely d;have l:=f.rely d hh;obtain⟨i,r,s',v,h1,h2,p,m,n,y⟩:=h A a l c;have g:=n.n3 c;refine⟨r,s',v,h1,h2,⟨⟨σ,σ' i,c,m,n⟩,y⟩,?_⟩;refine k i s' _ ?_ m b kk cs S idx hb iC.2 λe σ2 s2 a2 q u h2 st=>hQ e σ2 s2 a2 q u h2 ((d.stepW.trans g).trans st);cases z:o.dst with
 |none=>exact l.mono g c.len
 |some t=>exact(l.mono g c.len).put (gB w t z) p
def AK.law{x:D}(h:bD P o (bJ φ) σ x σ')(b:o.guard=af)(a:fD N o.dst=ab)(k:AK X N Qf (.ops all rest::K) .normal (kg o.dst x φ) σ'):AK X N Qf (.ops all (o::rest)::K) .normal φ σ :=
 AK.one (.mK (λ_ _ _ _=>du b) h) a k
def Bf(all:List aB)(φ:Fr)(o:aB):Bool:=match o.guard with
 |none=>ab
 |some (j,b)=>match zt φ all j with
  |some (aa ab)=>b
  |some (aa ae)=>!b
  |_=>ae
def II(h:Bf all φ o=ab):∀σ s a,ck N σ s φ a->aY o (yielded all.toArray a.tmps)=ab:=by
 intro σ s a f;unfold Bf at h;split at h
 .grind [du]
 .rename_i j b d;split at h
  .rename_i c;simp only[aY,d,pJ c f,h];rfl
  .rename_i c;simp only[aY,d,pJ c f];grind
  grind
end
section
variable {X:Cx P}
def AK.IU{φ':Fr}(k:AK X N Qf (.code c::K) .normal φ' σ'){qs:List Prop}(h1:pZ φ φ'=aa ps)(b:au ps)(h2:sD σ σ'=aa qs)(a:au qs):AK X N Qf (.code c::K) .normal φ σ :=
 AK.norm σ' h2 a (AW.le k (dv h1 b))
def tn:List It->List It
 |.blk _::K=>tn K
 |K=>K
def AK.tn:∀{K:List It},AK X N Qf (tn K) .normal φ σ->AK X N Qf K .normal φ σ
 |[],h=>h
 |.blk _::K,h=>AK.tn (K:=K) h
 |.code _::_,h=>h
 |.ops _ _::_,h=>h
def AK.kp{S S2:Type}{c2:Code}(id:Nat){b i:List It}(h2:ko id K=aa b)(j:Go.AM.tn b=.code c2::i)(O:S2->Prop)(jI:S2->Fr)(a:S2->List bd)(n:Nat)(I:S->Prop)(fr:S->Fr)(st:S->List bd)(h:S->Nat)(x:S){qs:List Prop}(d:pZ φ (fr x)=aa ps)(e:au ps)(g:sD σ (st x)=aa qs)(f:au qs)(m:σ.length=n)(k:I x)(round:(∀(y:S2) {φ:Fr} {σ:List bd} {ps qs:List Prop},O y->pZ φ (jI y)=aa ps->au ps->sD σ (a y)=aa qs->au qs->AK X N Qf b .normal φ σ) ->
   ∀x,I x->AK X N (lF X N Qf K I fr st h n x) [.code c] .normal (fr x) (st x))(after:∀y,O y->AK X N Qf (.code c2::i) .normal (jI y) (a y)):AK X N Qf (.code (.loop c)::K) .normal φ σ :=
 AK.bY n I fr st h x d e g f m k (round λy _ _ _ _ l h1 e h2 f=>AK.tn (by rw[j];exact(after y l).IU h1 e h2 f))
end
section
variable {X:Cx P}
def Yields(X:Cx P)(d:Nat)(ds:List D)(σ:List bd)(res:Bool)(σ':ι->List bd):Prop :=
 ∀s (vs:List ai) (l:Nat),cg σ s vs ds->aD σ s->(∃L,s.β[d]?=aa L/\L.v=.func (.yield l) #[] #[]) ->
  ∃fn tmps assign body,(Instr.yield l vs.toArray).run P s.w=.ok (.round l fn tmps assign body) s.w/\(Instr.yield l vs.toArray).events P s.w #[]=#[⟨.obj l,ae,ae⟩] /\
  ∀(S:aq->St->Prop) (c:aU) (cs:List aU),(∀i s',aD (σ' i) s'->cN σ s (σ' i) s'->fu X S (G (c.finish (.bool res)) cs) s') ->
   fu X S (G (Frame.round l fn tmps assign body .normal) (c::cs)) s
def l5{r:Loop}(h:w.heap[l]?=aa (.loop r)):(Instr.getLoop l).run P w=.ok r w/\∀es,(Instr.getLoop l).events P w es=es.push ⟨.obj l,ae,ae⟩:=by
 have c:(getObj l).run P w=.ok (.loop r) w:=by simp only[getObj,Sem.run,h]
 have d:∀es,(getObj l).events P w es=es.push ⟨.obj l,ae,ae⟩:=λes=>by simp only[getObj,Sem.events,Sem.runT,h];rfl
 constructor
 .simp[Instr.getLoop,c]
 .intro es;simp[Instr.getLoop,c,d]
def oP{r r':Loop}(h:w.heap[l]?=aa (.loop r)):(setObj l (.loop r')).run P w=.ok () {w with heap:=w.heap.setIfInBounds l (.loop r')}/\∀es,(setObj l (.loop r')).events P w es=es.push ⟨.obj l,ab,ae⟩:=by
 constructor
 .simp only[setObj,Sem.run,h]
 .intro es;simp only[setObj,Sem.events,Sem.runT,h];rfl
def Gf{r:Loop}{args:Array ai}(h:w.heap[l]?=aa (.loop r))(c:args.size=r.params.size):
  (Instr.yield l args).run P w=.ok (.round l r.fn ((r.params.zip args).foldl (λtmps (t,a)=>tmps.setIfInBounds t a) r.tmps) r.assign r.body) w/\(Instr.yield l args).events P w #[]=#[⟨.obj l,ae,ae⟩]:=by
 obtain⟨d,e⟩:=l5 (P:=P) h;constructor
 .simp[Instr.yield,d,c]
 .simp[Instr.yield,d,e,c]
def Gg{r:Loop}(h:w.heap[l]?=aa (.loop r))(e:r.state=.ready):
  (Instr.beginRound l).run P w=.ok () {w with heap:=w.heap.setIfInBounds l (.loop {r with state:=.busy})}/\(Instr.beginRound l).events P w #[]=#[⟨.obj l,ae,ae⟩,⟨.obj l,ab,ae⟩]:=by
 obtain⟨d,g⟩:=l5 (P:=P) h;obtain⟨c,f⟩:=oP (P:=P) (r':={r with state:=.busy}) h;constructor
 .simp[Instr.beginRound,d,c,e]
 .simp[Instr.beginRound,d,g,c,f,e]
def zy{r:Loop}(h:w.heap[l]?=aa (.loop r))(j:Option Code):
  (Instr.endRound l j).run P w=.ok (.bool j.isNone) {w with heap:=w.heap.setIfInBounds l (.loop {r with state:=if j.isNone then .ready else .done,pending:=j})}/\(Instr.endRound l j).events P w #[]=#[⟨.obj l,ae,ae⟩,⟨.obj l,ab,ae⟩]:=by
 obtain⟨c,f⟩:=l5 (P:=P) h;obtain⟨d,e⟩:=oP (P:=P) (r':={r with state:=if j.isNone then .ready else .done,pending:=j}) h;constructor
 .simp only[Instr.endRound,bO,c,d,b9,cT]
 .simp only[Instr.endRound,aK,c,f,d,e,aP,Sem.events_pure];rfl
def Bg{r:Loop}(h:w.heap[l]?=aa (.loop r))(d:r.state≠.busy):
  (Instr.endLoop l).run P w=.ok r.pending {w with heap:=w.heap.setIfInBounds l (.loop {r with state:=.exhausted})}/\(Instr.endLoop l).events P w #[]=#[⟨.obj l,ae,ae⟩,⟨.obj l,ab,ae⟩]:=by
 obtain⟨c,g⟩:=l5 (P:=P) h;obtain⟨e,f⟩:=oP (P:=P) (r':={r with state:=.exhausted}) h;have i:(r.state==.busy)=ae:=by cases j:r.state<;>simp_all
 constructor
 .simp[Instr.endLoop,c,e,d]
 .simp[Instr.endLoop,c,g,f,d]
section steps
variable {b:aU}{a:Act}{k:List Item}{main:Bool}
def Bh(ho:o.op=.call {callee:=.value fo,args:=xs,argTypes:=jJ})(d:a.eval fo=.func (.yield l) #[] #[]):
  (ak a.eval o).run P w=(Instr.yield l (xs.toList.map a.eval).toArray).run P w/\(ak a.eval o).events P w #[]=(Instr.yield l (xs.toList.map a.eval).toArray).events P w #[]:=by
 have c:xs.map a.eval=(xs.toList.map a.eval).toArray:=by grind
 constructor
 .simp[ak,ho,resolve,d,Deferred.ofValue,invoke,c]
 .simp[ak,ho,resolve,d,Deferred.ofValue,invoke,c]
def IJ{rest:List Nat}{fn:aJ}{tmps:Array ai}{assign body:Code}(ho:ops[i]?=aa o)(f:aY o (yielded ops a.tmps)=ab)(g:b.kind≠.early)(e:(ak a.eval o).run P w=.ok (.round l fn tmps assign body) w'):
  aG P main (G (b.aT a (.inRegion ops (i::rest)::k)) cs) w=.go (G (Frame.round l fn tmps assign body .normal) (b.aT a (.inRegion ops (i::rest)::k)::cs)) w' (Go.Conc.listed P b.fn a o w):=by
 have d:(b.kind==CallKind.early)=ae:=by grind
 rw[pC ho f (λc h=>by grind[rn])];simp[stepG.apply,e,G,Frame.aT,d,GStep.after,Go.Conc.listed]
def IK{r:Loop}(f:b.roundOf=aa l)(i:b.kind≠.early)(h:w.heap[l]?=aa (.loop r))(e:r.state=.ready):
  aG P main (G (b.aT a (.beginRound::k)) cs) w=.go (G (b.aT a k) cs) {w with heap:=w.heap.setIfInBounds l (.loop {r with state:=.busy})} (seen P b.fn #[⟨.obj l,ae,ae⟩,⟨.obj l,ab,ae⟩]):=by
 obtain⟨d,g⟩:=Gg (P:=P) h e;have c:(b.kind==CallKind.early)=ae:=by grind
 simp[G,aG,stepG.exec,stepG.apply,Frame.aT,f,c,d,g,GStep.after,Frame.finish]
def Bi{r:Loop}{j:Option Code}{e:List Item}{c:aU}(f:b.roundOf=aa l)(g:b.kind=.normal)(h:w.heap[l]?=aa (.loop r))(n:(j=af/\e=[])∨(j=aa .ret/\∃k1,e=.code .ret::k1)∨(∃id k1,j=aa (.exit id)/\e=.code (.exit id)::k1/\exitTo id k1=af)):
  aG P main (G (b.aT a e) (c::cs)) w=.go (G (c.finish (.bool j.isNone)) cs) {w with heap:=w.heap.setIfInBounds l (.loop {r with state:=if j.isNone then .ready else .done,pending:=j})} (seen P b.fn #[⟨.obj l,ae,ae⟩,⟨.obj l,ab,ae⟩]):=by
 obtain⟨d,i⟩:=zy (P:=P) h j;rcases n with⟨rfl,rfl⟩|⟨rfl,k1,rfl⟩|⟨id,k1,rfl,rfl,m⟩
 .simp only[Option.isNone_none,b5]at d;simp[G,aG,stepG.exec,Frame.aT,f,d,i,GStep.after,doReturn,g]
 .simp only[Option.isNone_some,bM,gJ]at d;simp[G,aG,stepG.exec,Frame.aT,f,d,i,GStep.after,doReturn,g]
 .simp only[Option.isNone_some,bM,gJ]at d;simp[G,aG,stepG.exec,Frame.aT,f,d,i,GStep.after,doReturn,g,m]
def Dd{r:Loop}(h:w.heap[l]?=aa (.loop r))(e:r.state≠.busy):
  aG P main (G (b.aT a (.endRangeFunc l::k)) cs) w=.go (G (b.aT a ((r.pending.map Item.code).toList++k)) cs) {w with heap:=w.heap.setIfInBounds l (.loop {r with state:=.exhausted})} (seen P b.fn #[⟨.obj l,ae,ae⟩,⟨.obj l,ab,ae⟩]):=by obtain⟨c,d⟩:=Bg (P:=P) h e;simp[G,aG,stepG.exec,Frame.aT,c,d,GStep.after]
def xm{fn:aJ}{tmps:Array ai}{params:Array Tmp}{assign body:Code}:
  (Instr.enterLoop fn tmps params assign body af).run P w=.ok (w.heap.size+1,[{target:=.collected w.heap.size,args:=#[]}]) {w with heap:=(w.heap.push (.deferred (aa []))).push (.loop {state:=.ready,pending:=af,fn,tmps,params,assign,body,defers:=w.heap.size})} /\
  (Instr.enterLoop fn tmps params assign body af).events P w #[]=#[]:=by
 have c:∀(o:Obj) (w:aA),(newObj o).run P w=.ok w.heap.size {w with heap:=w.heap.push o}:=λo w=>by simp only[newObj,Sem.run]
 have d:∀(o:Obj) (w:aA) es,(newObj o).events P w es=es:=λo w es=>by simp only[newObj,Sem.events,Sem.runT]
 constructor
 .simp[Instr.enterLoop,c];rfl
 .simp[Instr.enterLoop,c,d]
def zz{f:aC}{ps:Array Tmp}{assign body:Code}{F:aJ}{fn:Func}{c:List ai}(p:b.roundOf=af)(s:b.kind≠.early)(j:P.funcs[F]?=aa fn)(n:(fn.name== "runtime.NumGoroutine")=ae)(i:fn.body.isNone=ae)(q:a.eval f=.func (.func F) #[] c.toArray):
  aG P main (G (b.aT a (.code (.rangeFunc f ps assign body)::k)) cs) w =
   .go (G (Frame.enter P F (Value.func (.yield (w.heap.size+1)) #[] #[]::c).toArray .normal) (b.aT {a with defers:={target:=.collected w.heap.size,args:=#[]}::a.defers} (.inRangeFunc (w.heap.size+1)::k)::cs))
    {w with heap:=(w.heap.push (.deferred (aa []))).push (.loop {state:=.ready,pending:=af,fn:=b.fn,tmps:=a.tmps,params:=ps,assign,body,defers:=w.heap.size})} #[]:=by
 obtain⟨o,r⟩:=xm (P:=P) (w:=w) (fn:=b.fn) (tmps:=a.tmps) (params:=ps) (assign:=assign) (body:=body);have h:(b.kind==CallKind.early)=ae:=by grind
 have g:fn.name≠ "runtime.NumGoroutine":=by grind
 have e:fn.body≠af:=by grind
 have l:∀(d:List Deferred) (t:List Item) (m:FrameMode),({fn:=b.fn,tmps:=a.tmps,todo:=t,defers:=d,mode:=m,kind:=b.kind,roundOf:=b.roundOf}:aU).eval f=.func (.func F) #[] c.toArray:=by intro d t m;rw[<-q];cases f<;>rfl
 simp only[G,aG,stepG.exec,Frame.aT,p]at l⊢;simp[o,r,GStep.after,stepG.apply,resolve,l,Deferred.ofValue,invoke,callFunc,j,g,e,h,seen];rfl
end steps
end
section
variable {X:Cx P}
def aD.zA(hh:aD σ s){b:Nat}{a:Fr}{r:Loop}(c:σ[b]?=aa (.loop N a r))(hl:∃L,s.β[b]?=aa L/\L.v=.func (.yield l) #[] #[]):
  ∃tmps fn df,s.β[b]?=aa ⟨.func (.yield l) #[] #[],[l]⟩/\s.w.heap[l]?=aa (.loop {r with tmps:=tmps,fn:=fn,defers:=df})/\tmps.size=N/\(∀t,dk σ s (tmps.getD t ah) (look a t))/\(∀o,s.M l o=af):=by obtain⟨L,h1,h2⟩:=hl;obtain⟨l',tmps,fn,df,d,f,g,h,e⟩:=hh.box b _ L c h1;grind
def aD.zB(hh:aD σ s){c:Nat}{a:Fr}{r r':Loop}{B':bd}(n:σ[c]?=aa (.loop N a r)){tmps:Array ai}{fn df:Nat}(k:s.β[c]?=aa ⟨.func (.yield l) #[] #[],[l]⟩)(ho:s.w.heap[l]?=aa (.loop {r with tmps:=tmps,fn:=fn,defers:=df}))(x:tmps.size=N)(f:∀t,dk σ s (tmps.getD t ah) (look a t))(u:∀o,s.M l o=af)(d:B'=.dead∨B'=.loop N a r'):
  aD (σ.set c B') {s with w:={s.w with heap:=s.w.heap.setIfInBounds l (.loop {r' with tmps:=tmps,fn:=fn,defers:=df})}}/\Step σ s (σ.set c B') {s with w:={s.w with heap:=s.w.heap.setIfInBounds l (.loop {r' with tmps:=tmps,fn:=fn,defers:=df})}}:=by
 have p:l<s.w.heap.size:=hh.lt _ (bH k) l (by simp);have q:∀b,b≠l->(s.w.heap.setIfInBounds l (.loop {r' with tmps:=tmps,fn:=fn,defers:=df}))[b]?=s.w.heap[b]?:=λb hb=>by grind
 have y:s.β.set c ⟨.func (.yield l) #[] #[],[l]⟩=s.β:=by apply gK;grind
 have m:c<σ.length:=(b8.1 n).1;have g:hU (.loop N a r) ⟨.func (.yield l) #[] #[],[l]⟩ B' ⟨.func (.yield l) #[] #[],[l]⟩:=by rcases d with rfl|rfl<;>rfl
 have ex:Ext σ s (σ.set c B') {s with w:={s.w with heap:=s.w.heap.setIfInBounds l (.loop {r' with tmps:=tmps,fn:=fn,defers:=df})}}:=by
  refine⟨λ_ _ _ h=>h,λi B L A j=>?_⟩;by_cases e:c=i
  .grind
  .exact⟨B,L,by grind,j,.refl _ _⟩
 have:=hh.hX (M':=s.M) (w':={s.w with heap:=s.w.heap.setIfInBounds l (.loop {r' with tmps:=tmps,fn:=fn,defers:=df})}) (B':=B') (L':=⟨.func (.yield l) #[] #[],[l]⟩) n k g (by simp) (λb _ hb=>q b (by grind)) (λ_ _ _ _=>rfl) (λ_ _ _ h=>h)
  (λb o v hm=>by
   have z:b≠l:=by grind
   rw[<-hh.mem b o v hm];simp only[aV]
   grind) (λb hb=>by grind) rfl rfl rfl (by
   rcases d with rfl|rfl
   .trivial
   .refine⟨l,tmps,fn,df,rfl,?_,x,λt=>?_,u⟩
    .grind
    .have:=(f t).mono ex hh.len
     grind)
 grind
def AK.yield{σ':ι->List bd}{h:Nat}{ds:List D}{res:Bool}(I:Yields X h ds σ res σ')(U:o.guard=af)(W:fD N o.dst=ab)(ho:o.op=.call {callee:=.value fo,args:=xs,argTypes:=jJ}){R:Nat}{A:Fr}{r:Loop}(p:σ[h]?=aa (.loop R A r))(V:bJ φ fo=.e (.one (.ref h)))(z:xs.toList.map (bJ φ)=ds)(k:∀j,AK X N Qf (.ops all rest::K) .normal (kg o.dst (.e (.one (.c (.bool res)))) φ) (σ' j)):AK X N Qf (.ops all (o::rest)::K) .normal φ σ:=by
 intro s a f hh b kk cs S idx hb iC hQ;cases idx with
 |nil=>exact iC.elim
 |cons j idx =>
 refine .next rfl λi B=>?_;have m:=X.hZ B;have d:=hh.rely m;have C:=f.rely m hh;have F:=cY C fo;rw[V]at F;obtain⟨_,L,x,u,_⟩:=(show gd _ i _ (.ref h)from F)
 obtain⟨l,tmps,fn,df,G,h4,h5,h6,h7⟩:=d.box h _ L p x;subst G;have y:cg σ i (xs.toList.map a.eval) ds:=by grind[nv,cY]
 obtain⟨Q,v,assign,body,M,J,O⟩:=I i (xs.toList.map a.eval) l y d ⟨_,x,rfl⟩;obtain⟨T,Z⟩:=Bh (P:=P) (w:=i.w) (a:=a) ho u;refine⟨_,i,_,IJ iC.1 (du U) hb (T.trans M),⟨⟨σ,σ,d,d,.refl _ _⟩,ey.seen ?_⟩,O S _ _ λE s' jf st=>?_⟩
 .rw[Z,J];exact .one (gE (L:=⟨.func (.yield l) #[] #[],[l]⟩) (bH x) (by simp))
 have g:=ja (b:=b) (a:=a) (k:=kk) all.toArray j idx (.bool res);rw[iC.1]at g;simp only[mr]at g;rw[g];refine k E s' _ ?_ jf b kk cs S idx hb iC.2 λn σ2 s2 a2 q H h2 oe=>hQ n σ2 s2 a2 q H h2 ((m.stepW.trans st).trans oe);cases Y:o.dst with
 |none=>exact C.mono st d.len
 |some t=>exact(C.mono st d.len).put (gB W t Y) (show dk (σ' E) s' (.bool res) (.e (.one (.c (.bool res))))from Rd.bool)
def qA:List Tmp->List D->Fr->Fr
 |t::ts,d::ds,φ=>qA ts ds ((t,d)::φ)
 |_,_,φ=>φ
def MK(N:Nat):List Tmp->Bool
 |[]=>ab
 |t::ts=>match bu (t+1) N with|true=>MK N ts|false=>ae
def E3{N:Nat}{σ:List bd}{s:St}:∀{ps:List Tmp}{ds:List D}{vs:List ai}{φ:Fr}{a:Act},ck N σ s φ a->cg σ s vs ds->MK N ps=ab->ck N σ s (qA ps ds φ) {a with tmps:=(ps.zip vs).foldl (λtmps (t,v)=>tmps.setIfInBounds t v) a.tmps}
 |[],ds,vs,φ,a,h,_,_=>by simpa[qA]using h
 |_::_,[],[],φ,a,h,_,_=>by simpa[qA]using h
 |_::_,[],_::_,φ,a,h,b,_=>b.elim
 |_::_,_::_,[],φ,a,h,b,_=>b.elim
 |t::ts,d::ds,v::vs,φ,a,h,b,c=>by
  simp only[MK]at c;split at c
  .rename_i e;have:=E3 (h.put (d:=t) (dJ e) b.1) b.2 c;simpa[qA,Act.put]using this
  grind
def P8:Exit->Option (Option Code)
 |.normal=>aa af
 |.ret=>aa (aa .ret)
 |.exit id=>aa (aa (.exit id))
 |_=>af
def Yields.intro{ι:Type}{k N:Nat}{f:Fr}{r:Loop}{ds:List D}{σ:List bd}{σ':ι->List bd}{j:Option Code}(o:σ[k]?=aa (.loop N f r))(Q:r.state=.ready)(hlen:ds.length=r.params.size)(WJ:MK N r.params.toList=ab)(h:AW X N r.assign (λe y σ1=>e=.normal/\σ1[k]?=aa (.loop N f r)/\AW X N r.body (λe φ2 σ2=>P8 e=aa j/\σ2[k]?=aa (.loop N f {r with state:=.busy}) /\
   ∃i,Gh (σ2.set k (.loop N f {r with state:=if j.isNone then .ready else .done,pending:=j})) (σ' i)) y (σ1.set k (.loop N f {r with state:=.busy}))) (qA r.params.toList ds f) σ):Yields X k ds σ j.isNone σ':=by
 intro s vs l R hh hl;obtain⟨tmps,fn,df,h1,h2,h3,h4,h5⟩:=hh.zA o hl;have Oo:vs.length=r.params.size:=by grind[cg.get]
 obtain⟨y1,y2⟩:=Gf (P:=P) (args:=vs.toArray) h2 (by grind);refine⟨_,_,_,_,y1,y2,λS c cs hS=>?_⟩;let b:aU:={fn:=fn,tmps:=#[],todo:=[],defers:=[],mode:=.run,kind:=.normal,roundOf:=aa l}
 have hb:b.kind≠.early:=by simp[b]
 have hf:ck N σ s (qA r.params.toList ds f) {tmps:=(r.params.zip vs.toArray).foldl (λtmps (t,a)=>tmps.setIfInBounds t a) tmps,defers:=[]}:=by
  have:=E3 (a:={tmps:=tmps,defers:=[]}) (φ:=f) ⟨h3,⟨[],ar⟩,h4⟩ R WJ;have e:(r.params.zip vs.toArray).foldl (λtmps (x:Tmp×ai)=>tmps.setIfInBounds x.1 x.2) tmps=(r.params.toList.zip vs).foldl (λtmps (x:Tmp×ai)=>tmps.setIfInBounds x.1 x.2) tmps:=by rw[<-Array.foldl_toList];simp
  grind
 show fu X S (G (b.aT {tmps:=(r.params.zip vs.toArray).foldl (λtmps (t,a)=>tmps.setIfInBounds t a) tmps,defers:=[]} [.code r.assign,.beginRound,.code r.body]) (c::cs)) s;refine h s _ hf hh b [.beginRound,.code r.body] (c::cs) S hb ?_;rintro e y σ1 s1 a1 ⟨rfl,u,q⟩ f1 E J;refine .next rfl λs2 r7=>?_;have K:=X.hZ r7;have m:=E.rely K;have f2:=f1.rely K E;have hlL:∃L,s2.β[k]?=aa L/\L.v=.func (.yield l) #[] #[]:=by obtain⟨B',L',k1,U,Y⟩:=(J.trans K.stepW).box k _ _ o h1;rw[u]at k1;cases k1;exact⟨L',U,Y⟩
 obtain⟨W,fn2,Vk,g1,g2,g3,g4,g5⟩:=m.zA u hlL;have M:=m.zB (r':={r with state:=.busy}) u g1 g2 g3 g4 g5 (.inr rfl);have A:∀{s:St} {σ:List bd} {L:Loc},s.β[k]?=aa L->L.bs=[l]->ey s #[⟨.obj l,ae,ae⟩,⟨.obj l,ab,ae⟩]:=λ{s σ L} hL hb =>
  .two (gE (bH hL) (by grind)) (gE (bH hL) (by grind))
 refine⟨_,_,_,IK (l:=l) rfl hb g2 Q,⟨⟨_,_,m,M.1,M.2⟩,ey.seen (A (σ:=σ1) g1 rfl)⟩,?_⟩;have z:=M.2.n3 m;have V:=M.1;refine q _ a1 (f2.mono z m.len) V b [] (c::cs) S hb ?_;rintro e φ3 T s3 a3 ⟨hj,p,ii,F⟩ f3 B Z;have stA:=((J.trans K.stepW).trans z).trans Z;have fin:∀H g,bU s3 g->((j=af/\H=[])∨(j=aa .ret/\∃k1,H=.code .ret::k1)∨(∃id k1,j=aa (.exit id)/\H=.code (.exit id)::k1/\exitTo id k1=af)) ->
   ∃g' s' es,aG P X.main (G (b.aT a3 H) (c::cs)) g.w=.go g' s'.w es/\qn g s' es/\fu X S g' s':=by
  intro H g d O;have n:=B.rely d;have C:∃L,g.β[k]?=aa L/\L.v=.func (.yield l) #[] #[]:=by obtain⟨B',L',k1,U,Y⟩:=(stA.trans d.stepW).box k _ _ o h1;rw[p]at k1;cases k1;exact⟨L',U,Y⟩
  obtain⟨Yq,fn5,df5,p1,p2,p3,p4,p5⟩:=n.zA p C;have I:=n.zB (r':={r with state:=if j.isNone then .ready else .done,pending:=j}) p p1 p2 p3 p4 p5 (.inr rfl);obtain⟨p7,p8,_⟩:=F _ I.1;exact⟨_,_,_,Bi (l:=l) rfl rfl p2 O,⟨⟨_,_,n,I.1,I.2⟩,ey.seen (A (σ:=T) p1 rfl)⟩,hS ii _ p7 (((stA.trans d.stepW).trans (I.2.n3 n)).trans (p8.n3 I.1))⟩
 cases e with
 |normal =>
  cases hj;exact .next rfl λg d=>fin [] g (X.hZ d) (.inl ⟨rfl,rfl⟩)
 |ret =>
  cases hj;intro pre;exact .next rfl λg d=>fin _ g (X.hZ d) (.inr (.inl ⟨rfl,pre,rfl⟩))
 |exit id =>
  cases hj;intro pre hp;refine .next rfl λg d=>fin _ g (X.hZ d) (.inr (.inr ⟨id,_,rfl,rfl,?_⟩));have:=hp [];simpa[exitTo]using this
 |_=>cases hj
end
def nH(X:Cx P)(N:Nat)(c:Code)(Q:Post)(φ:Fr)(σ:List bd):Prop :=
 ∀s a,ck N σ s φ a->aD σ s->∀(b:aU) (k:List Item) (cs:List aU) (S:aq->St->Prop),b.kind≠.early->b.roundOf=af ->
  (∀e φ' σ' s' a',Q e φ' σ'->ck N σ' s' φ' a'->aD σ' s'->cN σ s σ' s'->ends X S b k cs e a' s')->fu X S (G (b.aT a (.code c::k)) cs) s
section
variable {X:Cx P}{Q:Post}
def AW.top(h:AW X N c Q φ σ):nH X N c Q φ σ:=λs a f hh b k cs S hb _ d=>h s a f hh b k cs S hb d
theorem nH.seq{x y:Code}(h:nH X N x (E4 (nH X N y Q) Q) φ σ):nH X N (.seq x y) Q φ σ:=by
 intro s a i hh b k cs S hb LK hQ;refine .ctl hh rfl (λ_=>nw) λj h1=>?_;refine h j a (i.rely h1 hh) (hh.rely h1) b (.code y::k) cs S hb LK ?_;intro e φ' σ' s' a' q f g st;have c:=h1.stepW.trans st;cases e with
 |normal=>exact q s' a' f g b k cs S hb LK λe d σ2 s2 a2 q2 f2 h2 oe=>hQ e d σ2 s2 a2 q2 f2 h2 (c.trans oe)
 |_=>exact ends.cons (λ_ _=>rfl) (by simp) (hQ _ _ _ _ _ q f g c)
theorem nH.block{id:Nat}(h:nH X N c (zC id Q) φ σ):nH X N (.block id c) Q φ σ:=by
 intro s a i hh b k cs S hb LK hQ;refine .ctl hh rfl (λ_=>rm) λj h1=>?_;refine h j a (i.rely h1 hh) (hh.rely h1) b (.inBlock id::k) cs S hb LK ?_;intro e φ' σ' s' a' q g f st;have d:=h1.stepW.trans st;cases e with
 |normal =>
  exact .ctl f rfl (λ_=>qq) λs2 h2=>hQ .normal φ' σ' s2 a' q (g.rely h2 f) (f.rely h2) (d.trans h2.stepW)
 |exit HG =>
  simp only[zC]at q;split at q
  .rename_i e;subst e;intro pre hp;refine .ctl f rfl (λ_=>y4 (k':=k) (by rw[hp];simp[exitTo])) λs2 h2=>?_;exact hQ .normal φ' σ' s2 a' q (g.rely h2 f) (f.rely h2) (d.trans h2.stepW)
  .rename_i m
   intro pre hp;have:=hQ (.exit HG) φ' σ' s' a' q g f d (pre++[.inBlock id]) (λk'=>by
    rw[jP,hp];have:(id==HG)=ae:=by grind
    simp[exitTo,this])
   grind
 |ret=>exact hQ _ _ _ _ _ q g f d
 |panic ch=>exact hQ _ _ _ _ _ q g f d
 |goto l=>exact hQ _ _ _ _ _ q g f d
 |outgrown=>exact hQ _ _ _ _ _ q g f d
def aD.P9(h:aD σ s){o:Nat->Prop}(ho:∀b,o b->b<s.w.heap.size/\∀L∈s.β,b∉L.bs):aD σ {s with own:=o} :=
 ⟨h.mem,h.len,λl B L c d=>eH.carry (σ:=σ) (s:=s) (σ':=σ) (s':={s with own:=o}) ⟨λ_ _ _ h=>h,λ_ B L h a=>⟨B,L,h,a,.refl _ _⟩⟩ h.len (λ_ _=>⟨rfl,λ_=>rfl⟩) (h.box l B L c d),h.eU,h.lt,ho⟩
def aD.ix(h:aD σ s){r:Nat}{o:Nat->Prop}(g:s.own r)(ho:∀b,o b->s.own b)(m:¬o r)(j:∀i,s.M r i=af)(k:s.w.heap[r]?=aa (.deferred (aa []))):
  aD (σ++[.qp]) {s with β:=s.β++[⟨.int .i64 r,[r]⟩],own:=o}/\eK s {s with β:=s.β++[⟨.int .i64 r,[r]⟩],own:=o}:=by
 obtain⟨q,n⟩:=h.own r g;have ex:Ext σ s (σ++[.qp]) {s with β:=s.β++[⟨.int .i64 r,[r]⟩],own:=o}:=by
  refine⟨λ_ _ _ h=>h,λl B L c a=>⟨B,L,?_,?_,.refl _ _⟩⟩
  .grind
  grind
 refine⟨⟨h.mem,by simp[h.len],?_,?_,?_,?_⟩,⟨rfl,λ_ _ _ h=>h,λ_ _ _=>rfl,h.mem,?_⟩⟩
 .intro l B L c a;rcases fS a with d|⟨hl,rfl⟩
  .have hl:l<σ.length:=by rw[<-h.len];grind
   rw[jh hl]at c;exact(h.box l B L c d).carry ex h.len λ_ _=>⟨rfl,λ_=>rfl⟩
  .rw[hl,h.len,fx (aZ _)]at c;simp at c;subst c;exact⟨r,rfl,k,j⟩
 .intro l l' L L' a e b hb nZ;rcases fS a with k1|⟨e1,rfl⟩<;>rcases fS e with f|⟨e2,rfl⟩
  .exact h.eU l l' L L' k1 f b hb nZ
  .grind
  .grind
  grind
 .intro L a b hb;simp only[fz,iT]at a;rcases a with a|rfl
  .exact h.lt L a b hb
  grind
 .intro b hb;obtain⟨p,p2⟩:=h.own b (ho b hb);grind
 grind
def IL:Option Code->Option Exit
 |none=>aa .normal
 |some .ret=>aa .ret
 |some (.exit id)=>aa (.exit id)
 |_=>af
def nH.rangeFunc{f:aC}{ps:Array Tmp}{assign body:Code}{F:aJ}{capD:List D}{σ':ι->List bd}{r':ι->Loop}(CQ:∀s a,ck N σ s φ a->aD σ s->∃n:List ai,a.eval f=.func (.func F) #[] n.toArray/\cg σ s n capD)(LU:dL X F (.e (.one (.ref σ.length))::capD) (σ++[.loop N φ {state:=.ready,pending:=af,fn:=0,tmps:=#[],params:=ps,assign:=assign,body:=body,defers:=0}]) res σ')(hl:∀i,(σ' i)[σ.length]?=aa (.loop N φ (r' i))/\(r' i).state≠.busy)(k:∀i,∃e,IL (r' i).pending=aa e/\Q e φ ((σ' i).set σ.length .dead++[.qp])):nH X N (.rangeFunc f ps assign body) Q φ σ:=by
 intro s a fr hh b kk cs S hb LK hQ;obtain⟨⟨fn,Ta,IM,H⟩,C⟩:=LU;refine .next rfl λd R6=>?_;have hr:=X.hZ R6;have j:=hh.rely hr;have f1:=fr.rely hr hh;obtain⟨n,hv,y⟩:=CQ d a f1 j;generalize U2:d.w.heap.size=r;have q:=λmain=>zz (P:=P) (main:=main) (k:=kk) (cs:=cs) (ps:=ps) (assign:=assign) (body:=body) (b:=b) (w:=d.w) LK hb Ta IM H hv;rw[U2]at q;let w1:aA:={d.w with heap:=d.w.heap.push (.deferred (aa []))}
 let lo:Loop:={state:=.ready,pending:=af,fn:=b.fn,tmps:=a.tmps,params:=ps,assign:=assign,body:=body,defers:=r}
 let w2:aA:={d.w with heap:=(d.w.heap.push (.deferred (aa []))).push (.loop lo)}
 have Ps:w2.heap.size=r+2:=by grind
 have aaD:w1.heap.size=r+1:=by grind
 have hk1:∀b,b<d.w.heap.size->w1.heap[b]?=d.w.heap[b]?:=λb hb=>by grind
 have Y:∀b,b<w1.heap.size->w2.heap[b]?=w1.heap[b]?:=λb hb=>by grind
 have Z:∀b,b<d.w.heap.size->w2.heap[b]?=d.w.heap[b]?:=λb hb=>by grind
 have U:w2.heap[r]?=aa (.deferred (aa [])):=by grind
 have WK:w2.heap[r+1]?=aa (.loop lo):=by grind
 have nM:∀b,d.w.heap.size<=b->∀o,d.M b o=af:=λb hb o=>by
  cases hm:d.M b o with
  |none=>rfl
  |some v=>have:=j.block hm;omega
 let L1:Loc:=⟨.func (.yield (r+1)) #[] #[],[r+1]⟩
 let L2:Loc:=⟨.int .i64 r,[r]⟩
 let T:Loop:={state:=.ready,pending:=af,fn:=0,tmps:=#[],params:=ps,assign:=assign,body:=body,defers:=0}
 obtain⟨g1,g2⟩:=j.grow (M':=d.M) (w':=w2) (by omega) Z (λ_ _ _=>rfl) (λb hb o v hm=>by grind) rfl rfl rfl;have A:Ext σ d (σ++[.loop N φ T]) ⟨d.β++[L1],d.M,w2,d.own⟩:=by
  refine⟨λ_ _ _ h=>h,λl B L hB m=>⟨B,L,?_,?_,.refl _ _⟩⟩
  .grind
  grind
 obtain⟨a1,a2⟩:=g1.gx (B:=.loop N φ T) (L:=L1) g2 rfl j ⟨r+1,a.tmps,b.fn,r,rfl,WK,f1.size,λt=>(f1.slot t).mono A j.len,λo=>nM _ (by omega) o⟩ (λb hb=>by grind)
 have hD:=a1.P9 (o:=λb=>d.own b∨b=r) (by
  rintro b (hb|rfl)
  .exact a1.own b hb
  .refine⟨by grind,λL m=>?_⟩;simp only[fz,iT]at m;rcases m with m|rfl
   .intro K;have:=j.lt L m b K;omega
   grind)
 have d1:=j.kU;obtain⟨e1,e2⟩:=d1.grow (M':=d.M) (w':=w1) (by omega) hk1 (λ_ _ _=>rfl) (λb hb o v hm=>by grind) rfl rfl rfl;obtain⟨e3,e4⟩:=e1.gx (B:=.dead) (L:=L2) e2 rfl d1 ar (λb hb=>by grind)
 obtain⟨e5,e6⟩:=e3.grow (M':=d.M) (w':=w2) (by grind) Y (λ_ _ _=>rfl) (λb hb o v hm=>by grind) rfl rfl rfl
 obtain⟨e7,e8⟩:=e5.gx (B:=.dead) (L:=L1) e6 rfl e3 ar (λb hb=>by grind);have Vn:eK ⟨d.β++[L2]++[L1],d.M,w2,d.own⟩ ⟨d.β++[L1],d.M,w2,λb=>d.own b∨b=r⟩:=by
  refine⟨rfl,λ_ _ _ h=>h,λ_ _ _=>rfl,a1.mem,?_⟩;rintro b ((hb|rfl)|⟨L,m,hb⟩)
  .grind
  .exact .inr ⟨L2,by simp,by grind⟩
  grind
 refine⟨_,⟨d.β++[L2]++[L1],d.M,w2,d.own⟩,_,q X.main,⟨⟨_,_,d1,e7,e4.trans e8⟩,.nil⟩,.ghost Vn (C _ (Value.func (.yield (r+1)) #[] #[]::n) ?_ hD S _ λi RZ v s4 J lR R st4=>?_)⟩
 .refine⟨⟨λB p=>?_,L1,?_,rfl,rfl⟩,?_⟩
  .rw[fx (aZ _)]at p;simp at p;subst p;rfl
  .show (d.β++[L1])[σ.length]?=_;rw[<-j.len,fx (aZ _)];simp
  .exact y.mono (σ:=σ) (s:=d) (σ':=σ++[.loop N φ T]) (s':=⟨d.β++[L1],d.M,w2,λb=>d.own b∨b=r⟩) ⟨A.mem,A.box⟩ j.len
 have WL:(b.aT {a with defers:={target:=.collected r,args:=#[]}::a.defers} (.inRangeFunc (r+1)::kk)).finish v=b.aT {a with defers:={target:=.collected r,args:=#[]}::a.defers} (.endRangeFunc (r+1)::kk):=by simp[Frame.finish,Frame.aT]
 refine px (cs:=cs) (c:=b.aT {a with defers:={target:=.collected r,args:=#[]}::a.defers} (.inRangeFunc (r+1)::kk)) R J λs5 O=>?_;rw[WL];refine .next rfl λs6 W=>?_;have Yr:=X.hZ W;have x:=(R.rely O).rely Yr;have Ys:=(st4.trans O.stepW).trans Yr.stepW;obtain⟨I,Tb⟩:=hl i;have hLl:∃L,s6.β[σ.length]?=aa L/\L.v=.func (.yield (r+1)) #[] #[]:=by
  obtain⟨B',L',k1,k2,k3⟩:=Ys.box σ.length (.loop N φ T) L1 (show(σ++[bd.loop N φ T])[σ.length]?=_ from List.getElem?_concat_length) (by show(d.β++[L1])[σ.length]?=_;rw[<-j.len,fx (aZ _)];simp)
  rw[I]at k1;cases k1;exact⟨L',k2,k3⟩
 obtain⟨E,fn6,df6,p1,p2,p3,p4,p5⟩:=x.zA I hLl;obtain⟨q1,q2⟩:=x.zB (r':={r' i with state:=.exhausted}) (B':=.dead) I p1 p2 p3 p4 p5 (.inl rfl);refine⟨_,_,_,Dd p2 Tb,⟨⟨_,_,x,q1,q2⟩,ey.seen (.two (gE (bH p1) (by simp)) (gE (bH p1) (by simp)))⟩,?_⟩;have g:=Ys.trans (q2.n3 x);generalize hs7:({s6 with w:={s6.w with heap:=s6.w.heap.setIfInBounds (r+1) (.loop {{r' i with state:=.exhausted}with tmps:=E,fn:=fn6,defers:=df6})}}:St)=s7 at q1 q2 g;have h7r:s7.own r:=by rw[g.own];grind
 have h7d:s7.w.heap[r]?=aa (.deferred (aa [])):=by rw[g.keep r (.inr rfl)];exact U
 have h7M:∀o,s7.M r o=af:=λo=>by rw[g.iI r (by grind) (λL m=>(hD.own r (.inr rfl)).2 L m)];grind
 obtain⟨t1,t2⟩:=q1.ix (r:=r) (o:=d.own) h7r (λb hb=>by rw[g.own];grind) (λK=>by have:=(j.own r K).1;omega) h7M h7d;refine .ghost t2 ?_;have z:cN σ d ((σ' i).set σ.length .dead++[.qp]) {s7 with β:=s7.β++[⟨.int .i64 r,[r]⟩],own:=d.own}:=by
  refine⟨?_,λb hb=>?_,λb o v hm=>g.mem b o v hm,λb hb hn o=>?_,λL m b hb=>?_,λl B L hB m=>?_,g.os,g.tape,g.output,rfl⟩
  .grind
  .show s7.w.heap[b]?=_;rw[g.keep b (.inl hb)];exact Z b (j.own b hb).1
  .show s7.M b o=_;rw[g.iI b (by grind) (λL m=>?_)];grind
  .simp only[fz,iT]at m;rcases m with m|rfl
   .rcases g.ur L m b hb with h1|⟨L0,h1,h2⟩
    .grind
    grind
   grind
  .have Pm:=(b8.1 hB).1;have Pn:=(b8.1 m).1;obtain⟨B',L',k1,k2,k3⟩:=g.box l B L (by grind) (by grind);grind
 have fF:ck N ((σ' i).set σ.length .dead++[.qp]) {s7 with β:=s7.β++[⟨.int .i64 r,[r]⟩],own:=d.own} φ {a with defers:={target:=.collected r,args:=#[]}::a.defers}:=by
  have hm:=f1.mono z j.len;obtain⟨ls,V⟩:=f1.defers;refine⟨hm.size,⟨((σ' i).set σ.length .dead).length::ls,⟨⟨?_,⟨.int .i64 r,[r]⟩,r,?_,rfl,rfl⟩,λK=>?_,V.mono z.ext⟩⟩,hm.slot⟩
  .grind
  .show (s7.β++_)[_]?=_;rw[<-q1.len,fx (aZ _)];simp
  .have h1:=V.Bj _ K;grind
 obtain⟨e,p,hq⟩:=k i;have u:=hQ e φ _ _ _ hq fF t1 (hr.stepW.trans z);revert p;show IL (r' i).pending=aa e->fu X S (G (b.aT _ (((r' i).pending.map Item.code).toList++kk)) cs) _;intro p;cases hp:(r' i).pending with
 |none=>rw[hp]at p;cases p;exact u
 |some c =>
  rw[hp]at p;cases c<;>simp only[IL,reduceCtorEq,dx]at p
  .subst p;exact u [] (λ_=>rfl)
  .subst p;exact u kk
def ck.callee{t:Nat}{F:aJ}(hl:look φ t=.e (.one (.c (.fn (.func F) [] cap)))):∀s a,ck N σ s φ a->aD σ s->∃b:List ai,a.eval (.tmp t)=.func (.func F) #[] b.toArray/\cg σ s b (fC cap):=by
 intro s a d _;have h:=d.slot t;rw[hl]at h;have h:=fH h;show ∃b:List ai,a.tmps.getD t ah=.func (.func F) #[] b.toArray/\_;generalize a.tmps.getD t ah=v at h;cases h with
 |fn fs cs hl CG f1 f2 h1 h2 r1 r2 =>
  grind[lq]
def dL.zD{f:aJ}{fn:Func}{args:List D}{σ':ι->List bd}(m:P.funcs[f]?=aa fn)(d:(fn.name== "runtime.NumGoroutine")=ae)(hb:fn.body=aa c)(g:bu args.length fn.ntmps=ab)(h:Fits args σ->nH X fn.ntmps c (λe φ σ1=>∃j,cd fn σ.length (res j) (σ' j) e φ σ1) (jb 0 args) σ):dL X f args σ res σ':=by refine⟨⟨fn,m,d,by grind⟩,λs0 vs hr hh=>?_⟩;exact(dL.OK m d hb (dJ g) λs a f i b k cs S n l o=>h ⟨s0,vs,hr,hh⟩ s a f i b k cs S n l o).2 s0 vs hr hh
def WM(fn:Func)(res:D)(σ':List bd):Post:=λe φ σ1 =>
 (e=.ret∨e=.normal)/\σ1=σ'/\mP σ'=ab/\∃ds d ps,xg φ fn.results.toList=aa ds/\rr ds=aa d/\CH d res=aa ps/\au ps
def dL.De{f:aJ}{fn:Func}{args:List D}{σ':ι->List bd}(q:P.funcs[f]?=aa fn)(k:(fn.name== "runtime.NumGoroutine")=ae)(hb:fn.body=aa c)(g:bu args.length fn.ntmps=ab)(h:AW X fn.ntmps c (λe φ σ1=>∃j,WM fn (res j) (σ' j) e φ σ1) (jb 0 args) σ):dL X f args σ res σ':=by
 refine⟨⟨fn,q,k,by grind⟩,λs vs hr hh S cs hS=>?_⟩;obtain⟨hl,A⟩:=cg.get hr;let b:aU:={fn:=f,tmps:=#[],todo:=[],defers:=[],mode:=.run,kind:=.normal,roundOf:=af}
 have a:Frame.enter P f vs.toArray .normal=b.aT {tmps:=vs.toArray++Array.replicate (fn.ntmps-vs.toArray.size) ah,defers:=[]} [.code c]:=by simp[Frame.enter,Frame.aT,q,hb,b]
 rw[a];have g:=dJ g;refine h s {tmps:=vs.toArray++Array.replicate (fn.ntmps-vs.toArray.size) ah,defers:=[]} ⟨by grind,⟨[],ar⟩,λt=>?_⟩ hh b [] cs S (by simp[b]) ?_
 .rw[nB];simp only[iN,b5,j3];have:=A t;rcases cA t vs.length with B|x
  .have e:(vs.toArray++Array.replicate (fn.ntmps-vs.toArray.size) ah).getD t ah=(vs[t]?).getD ah:=by simp only[dH];grind
   grind
  .rw[qP (by omega)];trivial
 .rintro e φ' σ1 s1 a1 ⟨y,o,rfl,n,ds,d,ps,h1,h2,r,E⟩ C m st;have fin:∀(fr:aU) s2,bU s1 s2->fr.fn=f->fr.tmps=a1.tmps->fr.defers=a1.defers->fr.mode=.returning->fr.kind=.normal->fu X S (G fr cs) s2:=by
   intro fr s2 r7 e1 e2 e3 e4 e5;have p:=C.rely r7 m;obtain⟨v,z,I,H⟩:=tg (P:=P) p h1 h2;obtain⟨ls,i⟩:=p.defers;have u:a1.defers=[]:=by
    cases ls with
    |nil=>cases F:a1.defers with
     |nil=>rfl
     |cons d ds=>rw[F]at i;exact i.elim
    |cons l ls=>exact absurd rfl (mQ n _ (bH (i.Bj l (by simp))))
   refine hS y fr v _ ⟨e1,e4,by grind,e5,fn,by grind,λw _=>?_⟩ (qu r E I) (m.rely r7) (st.trans r7.stepW);rw[e2];exact⟨z w,λe o=>by rw[H w #[]]at o;grind⟩
  rcases o with rfl|rfl
  .intro pre;exact .ctl m rfl (λ_=>CR rfl) λs2 r7=>fin _ s2 r7 rfl rfl (jR _) rfl rfl
  .exact .ctl m rfl (λ_=>CU rfl) λs2 r7=>fin _ s2 r7 rfl rfl (jR _) rfl rfl
end
structure Jd{P:aM}(X:Cx P)(N:Nat)(ops:Array aB)(φ:Fr)(σ:List bd)(x:Nat->D)(c:Nat->Fr)(idx:Nat->Option Nat)(last:Nat):Prop where
 back:∀i o,ops[i]?=aa o->∀e∈o.after,de e=ab->e.on<i
 H7:∀i o d,ops[i]?=aa o->o.dst=aa d->idx d=aa i/\d<N
 xh:∀d i,idx d=aa i->∃o,ops[i]?=aa o/\o.dst=aa d
 one:∀i o,ops[i]?=aa o->i≠last->OA X N ops.toList o (c i) σ (x i) σ
 RZ:∀i o,ops[i]?=aa o->i≠last->∀t σ s v,dk σ s v (match idx t with|some j=>(if ∃e∈o.after,de e=ab/\e.on=j then x j else .any)|none=>look φ t)->dk σ s v (look (c i) t)
 YJ:∀o,ops[last]?=aa o->∀j,j<ops.size->j≠last->∃e∈o.after,de e=ab/\e.on=j
 has:last<ops.size
section
variable {X:Cx P}{x:Nat->D}{c:Nat->Fr}{idx:Nat->Option Nat}{last:Nat}
theorem Br{a t:Nat}(h:∀i,i<ops.size->L.getD i ab=ab):Region.linearise.go .any ops a t L []=[]:=by
 cases a with
 |zero=>exact u7 t L
 |succ n =>
  have b:aX .any ops L=[]:=by
   cases b:aX .any ops L with
   |nil=>rfl
   |cons y d =>
    have e:y∈aX .any ops L:=by grind
    grind[mem_ready]
  grind[oK]
def Jd.arr(h:Jd X N ops φ σ x c idx last){O:aq->St->Prop}{b:aU}{kk:List Item}(hb:b.kind≠.early){s0:St}(hQ:∀s a,a.tmps.size=N->(∀t,dk σ s (a.tmps.getD t ah) (match idx t with|some j=>if j=last then .any else x j|none=>look φ t))->a.defers=[]->aD σ s->cN σ s0 σ s->fu X O (G (b.aT a (.inRegion ops [last]::kk)) cs) s):
  ∀(f:Nat) (L:Array Bool),L.size=ops.size->(L.toList.filter (λb=>!b)).length<=f->¬L.getD last ae=ab ->
   (∀i o,ops[i]?=aa o->L.getD i ae=ab->∀e∈o.after,de e=ab->L.getD e.on ae=ab) ->
   ∀(s:St) (a:Act),HA N σ s (fX φ x idx L) a->a.defers=[]->aD σ s->cN σ s0 σ s ->
   ∀t,fu X O (G (b.aT a (.inRegion ops (Region.linearise.go .any ops f t L [])::kk)) cs) s:=by
 intro f;induction f with
 |zero =>
  intro L hs hf m R s a g I hh st t;exfalso;have hm:L[last]'(by have:=h.has;omega)∈L.toList:=by simp
  have M:=h.has;cases hb:L[last]'(by omega)with
  |true=>exact m (by simp[dH,fO (by omega:last<L.size),hb])
  |false =>
   have:L[last]'(by omega)∈L.toList.filter (λb=>!b):=g9.2 ⟨hm,by grind⟩;grind
 |succ f ih =>
  intro L hs hf m R s a g I hh st t;rw[oK];cases F:(aX .any ops L)[t % (aX .any ops L).length]? with
  |none =>
   exfalso;have hr:aX .any ops L=[]:=by
    cases hr:aX .any ops L with
    |nil=>rfl
    |cons y ys =>
     grind[Nat.mod_lt]
   have E:∀i,i<ops.size->L.getD i ae=ab:=by
    intro i;induction i using Nat.strongRecOn with
    |_ i ZY =>
     intro hi;cases hb:L.getD i ae with
     |true=>rfl
     |false =>
      have hm:i∈aX .any ops L:=mem_ready.2 ⟨ops[i],fO hi,by
       grind,λe Q u=>by
       have:=h.back i _ (fO hi) e Q u
       grind⟩
      grind
   exact m (E last h.has)
  |some i =>
   have hi:=bH F;obtain⟨o,ho,X3,Z⟩:=mem_ready.1 hi;have M:i<ops.size:=(eZ.1 ho).1;have H:¬L.getD i ae=ab:=by grind
   by_cases B:i=last
   .subst B;have A:Region.linearise.go .any ops f (t / (aX .any ops L).length) (L.setIfInBounds i ab) []=[]:=by
     refine Br λj hj=>?_;have hj2:(L.setIfInBounds i ab).getD j ae=ab:=by
      rw[ez (by omega)];by_cases e:j=i
      .grind
      .obtain⟨ed,Q,u,rfl⟩:=h.YJ o ho j hj e;grind
     grind
    simp only[A];refine hQ s a g.size (λt=>?_) I hh st;have:=g.slot t;unfold fX at this;cases k:idx t with
    |none=>grind
    |some j =>
     simp only[k]at this⊢;obtain⟨oj,z,_⟩:=h.xh _ _ k;by_cases e:j=i
     .rw[bn e];trivial
     .rw[a9 e];obtain⟨ed,Q,u,rfl⟩:=h.YJ o ho j (eZ.1 z).1 e;grind
   have p:(L.setIfInBounds i ab).size=ops.size:=by grind
   have r:((L.setIfInBounds i ab).toList.filter (λb=>!b)).length<=f:=by
    have h1:L.toList[i]?=aa ae:=by rw[yV,fO (by omega:i<L.size)];simpa[dH,fO (by omega:i<L.size)]using H
    grind[count_set]
   have J:∀j Y,ops[j]?=aa Y->(L.setIfInBounds i ab).getD j ae=ab->∀e∈Y.after,de e=ab->(L.setIfInBounds i ab).getD e.on ae=ab:=by grind[ez]
   have q:¬(L.setIfInBounds i ab).getD last ae=ab:=by grind[ez]
   have K:ck N σ s (c i) a:=g.H6 λt σ s v C=>h.RZ i o ho B t σ s v (by
    unfold fX at C;cases k:idx t with
    |none=>grind
    |some j =>
     simp only[k]at C⊢;split
     .grind
     .trivial)
   have w:∀(s':St) (v:ai),cN σ s σ s'->dk σ s' v (x i)->HA N σ s' (fX φ x idx (L.setIfInBounds i ab)) (a.put o.dst v):=by
    intro s' v l C;cases I:o.dst with
    |none =>
     refine⟨g.size,g.defers.imp λ_ h1=>h1.mono l.ext,λt=>?_⟩;have n:=(g.slot t).mono l.ext hh.len;simp only[Act.put];unfold fX at n⊢;cases k:idx t with
     |none=>grind
     |some j =>
      simp only[k]at n⊢;obtain⟨oj,z,U⟩:=h.xh _ _ k;grind[ez]
    |some d =>
     obtain⟨W,V⟩:=h.H7 i o d ho I;refine⟨by simp[Act.put,g.size],g.defers.imp λ_ h1=>h1.mono l.ext,λt=>?_⟩;simp only[Act.put];by_cases e:d=t
     .subst e;have T:d<a.tmps.size:=by rw[g.size];exact V
      simp only[dH,uM T,ga];unfold fX;simp only[W];rw[bn ((ez (by omega)).2 (.inl rfl))];exact C
     .have n:=(g.slot t).mono l.ext hh.len;simp only[dH]at n⊢;rw[ni e];unfold fX at n⊢;cases k:idx t with
      |none=>grind
      |some j =>
       simp only[k]at n⊢;obtain⟨oj,z,U⟩:=h.xh _ _ k;grind[ez]
   have:=h.one i o ho B s a K hh b kk cs O i (Region.linearise.go .any ops f (t / (aX .any ops L).length) (L.setIfInBounds i ab) []) hb (by grind);simp only[ql]at this;exact this λv s' C S l=>ih _ p r q J s' _ (w _ _ l C) (by cases o.dst<;>exact I) S (st.trans l) _
theorem Jd.region(h:Jd X N ops φ σ x c idx last)(u:P.follows Departure.mixedOrders=ab){r:aq->St->Prop}{b:aU}{kk:List Item}(hb:b.kind≠.early){s0:St}{a0:Act}{id:Nat}(f0:ck N σ s0 φ a0)(q:a0.defers=[])(m:aD σ s0)(y:∀s a,a.tmps.size=N->(∀t,dk σ s (a.tmps.getD t ah) (match idx t with|some j=>if j=last then .any else x j|none=>look φ t))->a.defers=[]->aD σ s->cN σ s0 σ s->fu X r (G (b.aT a (.inRegion ops [last]::kk)) cs) s):
  fu X r (G (b.aT a0 (.code (.region id ops ab)::kk)) cs) s0:=by
 refine .next rfl λg f=>?_;have f:=X.hZ f;have e:=m.rely f;have l:=f0.rely f m;have k:Step σ g σ {g with w:={g.w with drawn:=g.w.drawn+1}}:=Step.same rfl rfl rfl rfl;have n:aD σ {g with w:={g.w with drawn:=g.w.drawn+1}}:=e.same rfl;have p:=f.stepW.trans (k.n3 e);refine⟨_,{g with w:={g.w with drawn:=g.w.drawn+1}},#[],lx,⟨⟨σ,σ,e,n,k⟩,.nil⟩,?_⟩;simp only[Region.schedule,u,Bool.true_or,b5];refine h.arr hb (s0:=s0) y ops.size _ (by simp) (by simp) ?_ ?_ _ a0 ?_ q n p _
 .simp[dH,mn];split<;>simp
 .intro i o ho hi;simp[dH,mn]at hi;split at hi<;>simp at hi
 .have d:=l.mono (k.n3 e) e.len;refine⟨d.size,d.defers,λt=>?_⟩;unfold fX;cases v:idx t with
  |none=>exact d.slot t
  |some j =>
   simp only;rw[a9]
   .exact d.slot t
   .simp[dH,mn];split<;>simp
end
def oq(X:Cx P)(N:Nat)(all:List aB)(o:aB)(φ:Fr)(σ:List bd)(x:ι->D)(σ':ι->List bd):Prop :=
 ∀s a,ck N σ s φ a->aD σ s->∀(b:aU) (k:List Item) (cs:List aU) (S:aq->St->Prop) (i:Nat) (rest:List Nat),b.kind≠.early->all.toArray[i]?=aa o ->
  (∀j v s',dk (σ' j) s' v (x j)->aD (σ' j) s'->cN σ s (σ' j) s'->fu X S (G (b.aT (a.put o.dst v) (.inRegion all.toArray rest::k)) cs) s')->fu X S (G (b.aT a (.inRegion all.toArray (i::rest)::k)) cs) s
def zG:List aB->Nat->(Nat->D)->List (Option Nat×D)
 |[],_,_=>[]
 |o::r,i,x=>(o.dst,x i)::zG r (i+1) x
def vv{x:Nat->D}:∀{l:List aB}{k j:Nat},(zG l k x)[j]?=(l[j]?).map λo=>(o.dst,x (k+j))
 |[],k,j=>by simp[zG]
 |o::r,k,0=>by simp[zG]
 |o::r,k,j+1=>by simp only[zG,nj];rw[vv,show k+1+j=k+(j+1) by omega]
def jI(all:List aB)(φ:Fr)(x:Nat->D)(i:Nat):Fr:=iW (λj=>gZ j (bP (all.getD i je).after.toList)) 0 (zG all 0 x) (tS all φ)
def MB(all:List aB)(φ:Fr)(x:Nat->D):Fr:=iW (λ_=>ab) 0 (zG all 0 x) (tS all φ)
def oN(N:Nat):List aB->Bool
 |[]=>ab
 |o::r=>match fD N o.dst with|true=>oN N r|false=>ae
def xY{N:Nat}:∀{l:List aB},oN N l=ab->∀(i:Nat)(o:aB),l[i]?=aa o->fD N o.dst=ab
 |[],_,i,o,h=>by grind
 |p::r,h,i,o,hi=>by
  simp only[oN]at h;split at h
  .rename_i a;cases i with
   |zero=>grind
   |succ i=>exact xY h i o (by grind)
  grind
def tm:List aB->Nat->Bool
 |[],_=>ab
 |o::r,i=>match R2 i (bP o.after.toList)with|true=>tm r (i+1)|false=>ae
def Bo:∀{l:List aB}{k:Nat},tm l k=ab->∀(i:Nat)(o:aB),l[i]?=aa o->∀e∈bP o.after.toList,e<k+i
 |[],_,_,i,o,h=>by grind
 |p::r,k,h,i,o,hi=>by
  simp only[tm]at h;split at h
  .rename_i a;cases i with
   |zero=>simp at hi;subst hi;exact C3 a
   |succ i=>intro e b;have:=Bo h i o (by grind) e b;omega
  grind
def zH(pre:Nat->Bool):List Nat->Bool
 |[]=>ae
 |e::r=>match pre e with|true=>zH pre r|false=>ab
theorem xZ{pre:Nat->Bool}:∀{l:List Nat},zH pre l=ab->∃e∈l,pre e=ae
 |[],h=>by cases h
 |e::r,h=>by
  simp only[zH]at h;split at h
  .obtain⟨a,c,b⟩:=xZ h;grind
  grind
def zI(pre:Nat->Bool)(m:Nat):List aB->Nat->Bool
 |[],_=>ab
 |o::r,i=>match pre i with
  |true=>zI pre m r (i+1)
  |false=>match av i m with
   |true=>zI pre m r (i+1)
   |false=>match zH pre (bP o.after.toList)with|true=>zI pre m r (i+1)|false=>ae
theorem E8{pre:Nat->Bool}{m:Nat}:∀{l:List aB}{k:Nat},zI pre m l k=ab->∀(i:Nat)(o:aB),l[i]?=aa o->pre (k+i)=ae->k+i≠m->∃e∈bP o.after.toList,pre e=ae
 |[],_,_,i,o,h=>by grind
 |p::r,k,h,i,o,hi=>by
  intro b a;simp only[zI]at h;cases i with
  |zero =>
   simp at hi;subst hi;simp only[hI]at b a;grind[Nat.eq_of_beq_eq_true,xZ]
  |succ i =>
   have c:zI pre m r (k+1)=ab:=by grind
   exact E8 c i o (by grind) (by grind) (by omega)
section
variable {X:Cx P}{idx:Nat->Option Nat}
def MM{x:Nat->D}{a:Act}(c:∀t σ s v,dk σ s v (match idx t with|some j=>(if ∃e∈o.after,de e=ab/\e.on=j then x j else .any)|none=>look φ t)->dk σ s v (look (jI ops.toList φ x i) t))(d:HA N σ s (fX φ x idx L) a)(g:∀e∈o.after,de e=ab->L.getD e.on ae=ab):ck N σ s (jI ops.toList φ x i) a:=d.H6 λt σ s v f=>c t σ s v (by
 unfold fX at f;cases b:idx t with
 |none=>grind
 |some j =>
  simp only[b]at f⊢;split
  .grind
  .trivial)
def Gl{x y:Nat->D}{σ2:List bd}{a:Act}(f:∀d,o.dst=aa d->idx d=aa i/\d<N)(p:∀d j,idx d=aa j->∃o,ops[j]?=aa o/\o.dst=aa d)(ho:ops[i]?=aa o)(w:i<L.size)(q:∀j,L.getD j ae=ab->y j=x j)(c:s.β.length=σ.length)(st:cN σ s σ2 s')(b:HA N σ s (fX φ x idx L) a)(r:dk σ2 s' v (y i)):HA N σ2 s' (fX φ y idx (L.setIfInBounds i ab)) (a.put o.dst v):=by
 have old:∀t,idx t≠aa i->dk σ2 s' (a.tmps.getD t ah) (fX φ y idx (L.setIfInBounds i ab) t):=by intro t z;have l:=(b.slot t).mono st.ext c;unfold fX at l⊢;grind[ez]
 cases u:o.dst with
 |none =>
  refine⟨b.size,b.defers.imp λ_ g=>g.mono st.ext,λt=>?_⟩;refine old t λh=>?_;grind
 |some d =>
  obtain⟨n,m⟩:=f d u;refine⟨by simp[Act.put,b.size],b.defers.imp λ_ g=>g.mono st.ext,λt=>?_⟩;simp only[Act.put];by_cases e:d=t
  .subst e;have k:d<a.tmps.size:=by rw[b.size];exact m
   simp only[dH,uM k,ga];unfold fX;simp only[n];rw[bn ((ez w).2 (.inl rfl))];exact r
  .have:=old t (λh=>by grind)
   simp only[dH]at this⊢;grind
def I0{back:∀i o,ops[i]?=aa o->∀e∈o.after,de e=ab->e.on<i}(h:L.size=ops.size)(d:aX .any ops L=[]):∀i,i<ops.size->L.getD i ae=ab:=by
 intro i;induction i using Nat.strongRecOn with
 |_ i b =>
  intro hi;cases f:L.getD i ae with
  |true=>rfl
  |false =>
   have g:i∈aX .any ops L:=mem_ready.2 ⟨ops[i],fO hi,by
    grind,λe c a=>by grind⟩
   grind
def Dj{t:Nat}(a:(aX .any ops L)[t % (aX .any ops L).length]?=af):aX .any ops L=[]:=by
 cases b:aX .any ops L with
 |nil=>rfl
 |cons y c =>
  grind[Nat.mod_lt]
theorem zJ(e:L.size=ops.size)(d:(L.toList.filter (λb=>!b)).length<=0):∀i,i<ops.size->L.getD i ae=ab:=by
 intro i hi;have c:L[i]'(by omega)∈L.toList:=by simp
 cases a:L[i]'(by omega)with
 |true=>simp[dH,fO (by omega:i<L.size),a]
 |false =>
  have:L[i]'(by omega)∈L.toList.filter (λb=>!b):=g9.2 ⟨c,by grind⟩;grind
end
def cK(i:Nat)(D:Nat->Bool):Nat->Bool:=λj=>match av j i with|true=>ab|false=>D j
section
variable {X:Cx P}{g:Type}{x:g->Nat->D}{idx:Nat->Option Nat}{S:g->(Nat->Bool)->List bd}{Inv:g->(Nat->Bool)->Prop}{c:Nat}
def kP(L:Array Bool):Nat->Bool:=λi=>L.getD i ae
def Gr(hi:i<L.size):kP (L.setIfInBounds i ab)=cK i (kP L):=by funext j;have h:=ez (L:=L) (i:=i) (j:=j) hi;simp only[kP,cK];grind[Nat.eq_of_beq_eq_true,Nat.beq_refl]
def Qk{c:Nat}(d:L.size=n)(h:∀k,c<=k->¬L.getD k ae=ab):n-c<=(L.toList.filter (λb=>!b)).length:=by
 have e:(L.toList.drop c).filter (λb=>!b)=L.toList.drop c:=by rw[qS];intro b a;obtain⟨i,hi,rfl⟩:=dN a;have:=h (c+i) (by omega);simp only[qW,iS]at hi;simp only[dH,fO (by omega:c+i<L.size),ga]at this;grind
 grind[List.drop_sublist]
theorem Names.Tp(all:List aB)(c:Nat):Names all (List.range' c (all.length-c)) (all.drop c):=by
 have key:∀(l:List aB) (n:Nat),(∀j o,l[j]?=aa o->all[n+j]?=aa o)->Names all (List.range' n l.length) l:=by
  intro l;induction l with
  |nil=>intro n _;trivial
  |cons o r b =>
   intro n h;rw[gb,List.range'_succ];refine⟨by simpa using h 0 o rfl,b (n+1) λj a hj=>?_⟩;have:=h (j+1) a (by grind);grind
 have:=key (all.drop c) c λj o h=>by grind
 grind
structure Tq{P:aM}(X:Cx P)(N:Nat)(ops:Array aB)(φ:Fr){g:Type}(x:g->Nat->D)(S:g->(Nat->Bool)->List bd)(Inv:g->(Nat->Bool)->Prop)(idx:Nat->Option Nat)(c:Nat):Prop where
 back:∀i o,ops[i]?=aa o->∀e∈o.after,de e=ab->e.on<i
 H7:∀i o d,ops[i]?=aa o->o.dst=aa d->idx d=aa i/\d<N
 xh:∀d i,idx d=aa i->∃o,ops[i]?=aa o/\o.dst=aa d
 one:∀κ (D:Nat->Bool) i o,Inv κ D->ops[i]?=aa o->i<c->D i=ae->(∀e∈o.after,de e=ab->D e.on=ab)->(∀j o',ops[j]?=aa o'->D j=ab->∀e∈o'.after,de e=ab->D e.on=ab)->oq X N ops.toList o (jI ops.toList φ (x κ) i) (S κ D) (λq:{κ':g // (∀j,D j=ab->x κ' j=x κ j)/\Inv κ' (cK i D)}=>x q.1 i) (λq=>S q.1 (cK i D))
 RZ:∀(x:Nat->D) i o,ops[i]?=aa o->∀t σ s v,dk σ s v (match idx t with|some j=>(if ∃e∈o.after,de e=ab/\e.on=j then x j else .any)|none=>look φ t)->dk σ s v (look (jI ops.toList φ x i) t)
 fin:∀(x:Nat->D) t σ s v,dk σ s v (match idx t with|some j=>x j|none=>look φ t)->dk σ s v (look (MB ops.toList φ x) t)
 R8:∀i o,ops[i]?=aa o->c<=i->∀L:Array Bool,(∀i o,ops[i]?=aa o->L.getD i ae=ab->∀e∈o.after,de e=ab->L.getD e.on ae=ab)->(∀e∈o.after,de e=ab->L.getD e.on ae=ab)->∀k,k<i->L.getD k ae=ab
 cc:c<=ops.size
 Ql:∀κ (D:Nat->Bool),Inv κ D->(∀i,i<c->D i=ab)->∀i,c<=i->i<ops.size->x κ i=.any
def Fe(a:L.size=n)(hi:i<n):L.getD i ab=ae↔¬L.getD i ae=ab:=by grind
theorem Tq.seq(h:Tq X N ops φ x S Inv idx c):∀(a d:Nat)(L:Array Bool)(t:Nat),L.size=ops.size->c<=d->d<=ops.size->ops.size-d<=a->(∀k,k<ops.size->(L.getD k ae=ab↔k<d)) ->
  Region.linearise.go .any ops a t L []=List.range' d (ops.size-d):=by
 intro a;induction a with
 |zero =>
  grind[u7]
 |succ a w =>
  intro d L t u y C A s;by_cases E:d=ops.size
  .grind [Br]
  .rw[oK];have l:d<ops.size:=by omega
   have r:∀i o,ops[i]?=aa o->L.getD i ae=ab->∀e∈o.after,de e=ab->L.getD e.on ae=ab:=λi o ho hi e j hb=>by have b:=(eZ.1 ho).1;have h1:=(s i b).1 hi;have h2:=h.back i o ho e j hb;grind
   have q:∀i,i∈aX .any ops L->i=d:=λi hi=>by
    obtain⟨o,ho,hl,v⟩:=mem_ready.1 hi;have b:=(eZ.1 ho).1;have z:¬i<d:=λm=>(Fe u b).1 hl ((s i b).2 m);rcases cA d i with h1|h1
    .have:=h.R8 i o ho (by omega) L r v d h1;grind
    .omega
   have p:d∈aX .any ops L:=mem_ready.2 ⟨ops[d],fO l,(Fe u l).2 (λhh=>by grind),λe j hb=>by
    have:=h.back d _ (fO l) e j hb
    grind⟩
   have n:0<(aX .any ops L).length:=List.length_pos_of_mem p;have f:=jo t n;rw[bm f];have e1:=q _ (qX f);simp only[e1];rw[w (d+1) _ _ (by grind) (by omega) (by omega) (by omega) (λk B=>by grind[ez])]
   rw[show ops.size-d=(ops.size-(d+1))+1 by omega,List.range'_succ]
def Tq.arr(h:Tq X N ops φ x S Inv idx c){Q:aq->St->Prop}{b:aU}{kk:List Item}(hb:b.kind≠.early){σ0:List bd}{s0:St}(hQ:∀l D s a,Inv l D->(∀i,i<c->D i=ab)->ck N (S l D) s (MB ops.toList φ (x l)) a->aD (S l D) s->cN σ0 s0 (S l D) s->fu X Q (G (b.aT a (.inRegion ops (List.range' c (ops.size-c))::kk)) cs) s):
  ∀(f:Nat) (l:g) (L:Array Bool),Inv l (kP L)->L.size=ops.size->(L.toList.filter (λb=>!b)).length<=f->(∀k,c<=k->¬L.getD k ae=ab) ->
   (∀i o,ops[i]?=aa o->L.getD i ae=ab->∀e∈o.after,de e=ab->L.getD e.on ae=ab) ->
   ∀(s:St) (a:Act),HA N (S l (kP L)) s (fX φ (x l) idx L) a->aD (S l (kP L)) s->cN σ0 s0 (S l (kP L)) s ->
   ∀t,fu X Q (G (b.aT a (.inRegion ops (Region.linearise.go .any ops f t L [])::kk)) cs) s:=by
 have fin:∀(l:g) (L:Array Bool) (s:St) (a:Act) (f t:Nat),Inv l (kP L)->L.size=ops.size->(L.toList.filter (λb=>!b)).length<=f->(∀k,c<=k->¬L.getD k ae=ab)->(∀i,i<c->L.getD i ae=ab)->HA N (S l (kP L)) s (fX φ (x l) idx L) a->aD (S l (kP L)) s->cN σ0 s0 (S l (kP L)) s->fu X Q (G (b.aT a (.inRegion ops (Region.linearise.go .any ops f t L [])::kk)) cs) s:=by
  intro l L s a f t B A O w p m hh st;have R:=h.cc;rw[h.seq f c L t A (aZ _) R (by
   have h2:=Qk (n:=ops.size) (c:=c) A w;omega) (λk Z=>⟨λK=>by grind,λK=>p k K⟩)]
  exact hQ l _ s a B p (m.H6 λt σ s v H=>h.fin (x l) t σ s v (by
   unfold fX at H;cases hi:idx t with
   |none=>grind
   |some k =>
    simp only[hi]at H⊢;obtain⟨o,ho,_⟩:=h.xh _ _ hi;rcases cA k c with h1|h1
    .grind
    .rw[h.Ql l _ B p k h1 (eZ.1 ho).1];trivial)) hh st
 intro f;induction f with
 |zero =>
  intro l L B A O w C s a m hh st t;have R:=h.cc;grind[zJ]
 |succ f ih =>
  intro l L B A O w C s a m hh st t;have R:=h.cc;cases u:(aX .any ops L)[t % (aX .any ops L).length]? with
  |none=>exact fin l L s a _ t B A O w (λi hi=>I0 (back:=h.back) A (Dj u) i (by omega)) m hh st
  |some i =>
   have hi:=bH u;obtain⟨o,ho,X3,r⟩:=mem_ready.1 hi;have tM:i<ops.size:=(eZ.1 ho).1;rcases cA i c with F|F
   rotate_left
   .exact fin l L s a _ t B A O w (λk Z=>h.R8 i o ho F L C r k (by omega)) m hh st
   rw[oK,u];have J:¬L.getD i ae=ab:=by grind
   have z:((L.setIfInBounds i ab).toList.filter (λb=>!b)).length<=f:=by
    have h1:L.toList[i]?=aa ae:=by rw[yV,fO (by omega:i<L.size)];simpa[dH,fO (by omega:i<L.size)]using J
    grind[count_set]
   have M:∀j Y,ops[j]?=aa Y->(L.setIfInBounds i ab).getD j ae=ab->∀e∈Y.after,de e=ab->(L.setIfInBounds i ab).getD e.on ae=ab:=by grind[ez]
   have U:ck N (S l (kP L)) s (jI ops.toList φ (x l) i) a:=MM (h.RZ (x l) i o ho) m r;have:=h.one l (kP L) i o B ho F (by unfold kP;grind) r C s a U hh b kk cs Q i (Region.linearise.go .any ops f (t / (aX .any ops L).length) (L.setIfInBounds i ab) []) hb (by grind);simp only[ql]at this;refine this λq v s' H E y=>?_;obtain⟨V,W,I⟩:=q;have T:=Gr (L:=L) (i:=i) (by omega);simp only at H E y;rw[<-T]at H E y I;exact ih V _ I (by grind) z (λk Z=>by grind[ez]) M s' _ (Gl (λd hd=>h.H7 i o d ho hd) h.xh ho (by omega) (λj hj=>W j hj) hh.len y m H) E (st.trans y) _
def AW.reg(hf:P.follows Departure.mixedOrders=ab)(c:Nat)(x:g->Nat->D)(S:g->(Nat->Bool)->List bd)(Inv:g->(Nat->Bool)->Prop)(C:g)(hI0:Inv C λ_=>ae)(h0:S C (λ_=>ae)=σ)(Y:mS all=ab)(E:tm all 0=ab)(M:oN N all=ab)(hc:c<=all.length)(R8:∀i,c<=i->i<all.length->∀L:Nat->Prop,(∀i,i<all.length->L i->∀e∈bP (all.getD i je).after.toList,L e)->(∀e∈bP (all.getD i je).after.toList,L e)->∀k,k<i->L k)(Ql:∀f (D:Nat->Bool),Inv f D->(∀i,i<c->D i=ab)->∀i,c<=i->i<all.length->x f i=.any)(one:∀f (D:Nat->Bool) i o,Inv f D->all[i]?=aa o->i<c->D i=ae->(∀e∈bP o.after.toList,D e=ab)->(∀j o',all[j]?=aa o'->D j=ab->∀e∈bP o'.after.toList,D e=ab)->oq X N all o (jI all φ (x f) i) (S f D) (λq:{K:g // (∀j,D j=ab->x K j=x f j)/\Inv K (cK i D)}=>x q.1 i) (λq=>S q.1 (cK i D))){Q:Post}(hQ:∀f D,Inv f D->(∀i,i<c->D i=ab)->jd X N all (all.drop c) (Q .normal) (MB all φ (x f)) (S f D))(id:Nat):
  AW X N (.region id all.toArray ab) Q φ σ:=by
 have n:∀i:Nat,all.toArray[i]?=all[i]?:=λi=>by simp
 let idx:Nat->Option Nat:=λt=>(bh all.length).find? (λi=>decide ((all.getD i je).dst=aa t));have H:∀t j,idx t=aa j->∃o,all[j]?=aa o/\o.dst=aa t:=by grind
 have z:∀i o d,all[i]?=aa o->o.dst=aa d->idx d=aa i:=by
  intro i o d ho hd;have hi:i<all.length:=(b8.1 ho).1;cases hx:idx d with
  |none =>
   have:=List.find?_eq_none.1 hx i (by grind);grind
  |some j =>
   grind[sq]
 have O:∀t,oL t all=ab↔∃j,idx t=aa j:=by grind[pF,rv]
 have G:∀i o,all[i]?=aa o->all.getD i je=o:=λi o h=>by grind
 have hd:Tq X N all.toArray φ x S Inv idx c:=by
  refine⟨?_,?_,?_,?_,?_,?_,λi o ho Wl L hLc hLp k hk=>?_,by grind,λf D I U i h1 h2=>Ql f D I U i h1 (by grind)⟩
  .intro i o ho e T hb;rw[n]at ho;have:=Bo E i o ho e.on (eC.2 ⟨e,by grind,hb,rfl⟩);omega
  .intro i o d ho hd;rw[n]at ho;exact⟨z i o d ho hd,gB (xY M i o ho) d hd⟩
  .grind
  .intro f D i o I ho WX WY PE CQ;rw[n]at ho;exact one f D i o I ho WX WY (λe T=>by
    grind[eC]) λj o hj hDj e T=>by grind[eC]
  .intro x i o ho t σ s v R;rw[n]at ho;show dk σ s v (look (jI all φ x i) t);unfold jI;rw[G i o ho];rcases mT (m:=λj=>gZ j (bP o.after.toList)) (φ:=tS all φ) (t:=t) (l:=zG all 0 x) (i:=0)with⟨j,y,h1,h2,B⟩|B
   .rw[B];rw[vv]at h1;cases hj:all[j]? with
    |none=>grind
    |some oj =>
     simp only[hj,mv,dx,ln,br]at h1;rw[z j oj t hj h1.1]at R;simp only at R;rw[bn]at R
     .grind
     .simp only[br]at h2;obtain⟨e,a,b,c⟩:=eC.1 (Ic h2);grind
   .rw[B,lg];split
    .trivial
    grind
  .intro x t σ s v R;show dk σ s v (look (MB all φ x) t);unfold MB;rcases mT (m:=λ_=>ab) (φ:=tS all φ) (t:=t) (l:=zG all 0 x) (i:=0)with⟨j,y,h1,h2,B⟩|B
   .rw[B];rw[vv]at h1;grind
   .rw[B,lg];split
    .trivial
    grind
  .rw[n]at ho;refine R8 i Wl (b8.1 ho).1 (λk=>L.getD k ae=ab) (λi' hi' hl e T=>?_) (λe T=>?_) k hk
   .grind [eC]
   grind[eC]
 intro s a W hh b kk cs SS hb Wb;refine .next rfl λA u=>?_;have u:=X.hZ u;have r:=hh.rely u;have J:=W.rely u hh;have F:Step σ A σ {A with w:={A.w with drawn:=A.w.drawn+1}}:=Step.same rfl rfl rfl rfl;have CF:aD σ {A with w:={A.w with drawn:=A.w.drawn+1}}:=r.same rfl;have Yd:=u.stepW.trans (F.n3 r);refine⟨_,{A with w:={A.w with drawn:=A.w.drawn+1}},#[],lx,⟨⟨σ,σ,r,CF,F⟩,.nil⟩,?_⟩;simp only[Region.schedule,hf,Bool.true_or,b5];have V:kP (Array.replicate all.toArray.size ae)=λ_=>ae:=by funext i;simp[kP,dH,mn];split<;>simp
 refine hd.arr hb (σ0:=σ) (s0:=s) (λf D s2 a2 I U f2 h2 oe=>?_) all.toArray.size C _ (by grind) (by simp) (by simp) ?_ ?_ _ a ?_ (by grind) (by grind) _
 .refine hQ f D I U s2 a2 f2 h2 b kk cs SS _ hb ?_ λφ3 σ3 s3 a3 q3 f3 B Z=>Wb .normal _ _ s3 a3 q3 f3 B (oe.trans Z);grind[Names.Tp]
 .intro i _ hi;simp[dH,mn]at hi;split at hi<;>simp at hi
 .intro i o ho hi;simp[dH,mn]at hi;split at hi<;>simp at hi
 .rw[V,h0];have p:=J.mono (F.n3 r) r.len;refine⟨p.size,p.defers,λt=>?_⟩;unfold fX;cases hix:idx t with
  |none=>exact p.slot t
  |some j =>
   simp only;rw[a9]
   .exact p.slot t
   .simp[dH,mn];split<;>simp
def oq.to{d:Type}{y:ι->D}{σ':ι->List bd}{z:d->D}{e:d->List bd}(h:oq X N all o φ σ y σ')(l:∀j,∃k,y j=z k/\σ' j=e k):oq X N all o φ σ z e:=by intro s a f hh b k cs S i rest hb hi hK;refine h s a f hh b k cs S i rest hb hi λj v s' r1 r2 r3=>?_;obtain⟨q,p2,p3⟩:=l j;grind
def OA.HX{d:Type}{y:D}{z:d->D}{e:d->List bd}(h:OA X N all o φ σ y σ')(k:d)(h1:y=z k)(h2:σ'=e k):oq X N all o φ σ z e:=by subst h1 h2;exactλs a f hh b k' cs S i rest hb hi hK=>h s a f hh b k' cs S i rest hb hi λv s' r1 r2 r3=>hK k v s' r1 r2 r3
end
section
variable {X:Cx P}
theorem oq.mK{x:ι->D}{σ':ι->List bd}(p:o.guard=af)(h:∀s e,aD σ s->(∀y,dk σ s (e y) (bJ φ y))->∃(j:ι)(s':St)(v:ai),(ak e o).run P s.w=.ok (.value v) s'.w/\dk (σ' j) s' v (x j)/\aD (σ' j) s'/\Step σ s (σ' j) s'/\ey s ((ak e o).events P s.w #[])):oq X N all o φ σ x σ':=by intro s a f hh b k cs S i rest hb hi hK;refine zx hb hi (du p) λm d=>?_;have c:=hh.rely d;obtain⟨j,s',v,h1,h2,g,l,n⟩:=h m a.eval c (cY (f.rely d hh));exact⟨_,s',v,h1,.inl rfl,⟨⟨σ,σ' j,c,g,l⟩,n⟩,hK j v s' h2 g (d.stepW.trans (l.n3 c))⟩
def oq.xo{x:D}(h:OA X N all o φ σ x σ'):oq X N all o φ σ (λ_:Unit=>x) (λ_=>σ') :=
 λs a f hh b k cs S i rest hb hi hK=>h s a f hh b k cs S i rest hb hi λv s'=>hK () v s'
def OA.law{x:D}(h:bD P o (bJ φ) σ x σ')(a:o.guard=af):OA X N all o φ σ x σ':=.mK (λ_ _ _ _=>du a) h
def OA.eval{x:D}(a:c8 P T)(hC:bA X CT)(h:tR T CT ds all φ σ o=aa (x,af,obs))(ho:au obs):OA X N all o φ σ x σ:=en a hC h ho
def OA.dr{x:D}(a:c8 P T)(hC:bA X CT)(h:tR T CT [] all φ σ o=aa (x,af,[])):OA X N all o φ σ x σ:=en a hC h ar
def sF(X:Cx P)(N:Nat)(all:List aB)(φ:Fr)(σ:List bd)(x:Nat->D)(pre:Nat->Bool):List aB->Nat->Prop
 |[],_=>True
 |o::r,i=>(match pre i with|true=>OA X N all o (jI all φ x i) σ (x i) σ|false=>True)/\sF X N all φ σ x pre r (i+1)
def sG(X:Cx P)(N:Nat)(all:List aB)(φ:Fr)(σ:List bd)(x:Nat->D)(m:Nat):List aB->Nat->Prop
 |[],_=>True
 |o::r,i=>(match av i m with|true=>True|false=>OA X N all o (jI all φ x i) σ (x i) σ)/\sG X N all φ σ x m r (i+1)
theorem sF.get{x:Nat->D}{pre:Nat->Bool}:∀{l:List aB}{k:Nat},sF X N all φ σ x pre l k->∀(i:Nat)(o:aB),l[i]?=aa o->pre (k+i)=ab->OA X N all o (jI all φ x (k+i)) σ (x (k+i)) σ
 |[],_,_,i,o,h=>by grind
 |p::r,k,h,0,o,hi=>λa=>by simp at hi;subst hi;have h1:=h.1;grind
 |p::r,k,h,i+1,o,hi=>λa=>by have:=sF.get h.2 i o (by grind) (by grind);grind
theorem sG.get{x:Nat->D}{m:Nat}:∀{l:List aB}{k:Nat},sG X N all φ σ x m l k->∀(i:Nat)(o:aB),l[i]?=aa o->k+i≠m->OA X N all o (jI all φ x (k+i)) σ (x (k+i)) σ
 |[],_,_,i,o,h=>by grind
 |p::r,k,h,0,o,hi=>λa=>by simp at hi;subst hi;have h1:=h.1;simp only[hI]at a;grind[Nat.eq_of_beq_eq_true]
 |p::r,k,h,i+1,o,hi=>λa=>by have:=sG.get h.2 i o (by grind) (by omega);grind
def Dk(pre:Nat->Bool)(x:Nat->D)(y:ι->Nat->D)(j:ι)(i:Nat):D:=match pre i with|true=>x i|false=>y j i
def E9{m c:Nat}{pre:Nat->Bool}{x:Nat->D}{a:ι->Nat->D}{σ':ι->List bd}{S:ι->(Nat->Bool)->List bd}(u:pre m=ae)(s:zI pre m all 0=ab)(same:∀j i,pre i=ab->a j i=x i)(one:∀i o,all[i]?=aa o->pre i=ab->OA X N all o (jI all φ x i) σ (x i) σ)(two:∀j (D:Nat->Bool) i o,all[i]?=aa o->i≠m->i<c->D i=ae->(∀k g,all[k]?=aa g->D k=ab->∀e∈bP g.after.toList,D e=ab)->OA X N all o (jI all φ (a j) i) (S j D) (a j i) (S j (cK i D)))(LL:∀o,all[m]?=aa o->oq X N all o (jI all φ x m) σ (λj=>a j m) σ')(r:∀j (D:Nat->Bool),(∀i,D i=ab->pre i=ab)->σ' j=S j (cK m D)):
  ∀(b:Option ι) (D:Nat->Bool) i o,(b.isSome=D m/\(b=af->∀i,D i=ab->pre i=ab))->all[i]?=aa o->i<c->D i=ae->(∀e∈bP o.after.toList,D e=ab)->(∀j g,all[j]?=aa g->D j=ab->∀e∈bP g.after.toList,D e=ab) ->
   oq X N all o (jI all φ (b.elim x a) i) (b.elim σ λj=>S j D) (λq:{d:Option ι // (∀j,D j=ab->d.elim x a j=b.elim x a j)/\(d.isSome=cK i D m/\(d=af->∀k,cK i D k=ab->pre k=ab))}=>q.1.elim x a i) (λq=>q.1.elim σ λj=>S j (cK i D)):=by
 intro b D i o p ho WX WY PE WZ;have v:∀{k},cK i D k=ab->k=i∨D k=ab:=λ{k} f=>by unfold cK at f;grind[Nat.eq_of_beq_eq_true]
 have t:∀{k},k≠i->cK i D k=D k:=λ{k} f=>by unfold cK;grind[Nat.eq_of_beq_eq_true]
 by_cases l:i=m
 .subst l;cases b with
  |some j=>grind
  |none =>
   refine(LL o ho).to λj=>⟨⟨aa j,λk f=>same j k (p.2 rfl k f),?_,λh=>by cases h⟩,rfl,r j D (p.2 rfl)⟩
   unfold cK;grind[Nat.beq_refl]
 .cases b with
  |none =>
   have n:pre i=ab:=by grind[E8]
   exact(one i o ho n).HX ⟨af,λ_ _=>rfl,by grind,λ_ k f=>by grind⟩ rfl rfl
  |some j=>exact(two j D i o ho l WX WY WZ).HX ⟨aa j,λ_ _=>rfl,by grind,λh=>by cases h⟩ rfl rfl
def vA{m c:Nat}{pre:Nat->Bool}{a:Option ι}{D:Nat->Bool}(e:a.isSome=D m/\(a=af->∀i,D i=ab->pre i=ab))(d:m<c)(b:∀i,i<c->D i=ab):∃j,a=aa j:=by
 cases a with
 |some j=>grind
 |none=>grind
def AK.LL(l:P.follows Departure.mixedOrders=ab)(m:Nat)(pre:Nat->Bool)(x:Nat->D)(y:ι->Nat->D)(σ':ι->List bd){id:Nat}(c:mS ops.toList=ab)(b:tm ops.toList 0=ab)(d:oN N ops.toList=ab)(hm:Nat.blt m ops.toList.length=ab)(f:pre m=ae)(e:zI pre m ops.toList 0=ab)(one:sF X N ops.toList φ σ x pre ops.toList 0)(two:∀j,sG X N ops.toList φ (σ' j) (Dk pre x y j) m ops.toList 0)(LL:oq X N ops.toList (ops.toList.getD m je) (jI ops.toList φ x m) σ (λj=>Dk pre x y j m) σ')(k:∀j,AK X N Qf K .normal (MB ops.toList φ (Dk pre x y j)) (σ' j)):AK X N Qf (.code (.region id ops ab)::K) .normal φ σ:=by
 have hm:=dJ hm;have:=AW.reg (X:=X) (N:=N) (φ:=φ) (σ:=σ) l (all:=ops.toList) ops.toList.length (λa:Option ι=>a.elim x (Dk pre x y)) (λa _=>a.elim σ σ') (λa D=>a.isSome=D m/\(a=af->∀i,D i=ab->pre i=ab)) af ⟨rfl,λ_ _ h=>by cases h⟩ rfl c b d (aZ _)
  (λi h1 h2=>absurd h2 (lZ.2 h1)) (λa D _ _ i h1 h2=>absurd h2 (lZ.2 h1))
  (E9 (S:=λj _=>σ' j) f e (λj i g=>by simp only[Dk,g]) (λi o hi g=>by have:=one.get i o hi (by grind);grind) (λj D i o hi AE _ _ _=>by have:=(two j).get i o hi (by grind);grind)
   (λo ho=>by grind) (λ_ _ _=>rfl))
  (Q:=AK X N Qf K) (λa D p n=>by obtain⟨j,rfl⟩:=vA p hm n;rw[qY];exact .nil (k j)) id
 rw[ql]at this;exact this
end
def HI(p:Bs):ai:=.string ⟨p.toArray⟩
def Rp{a:ByteArray}{p:Bs}(h:a.data.toList=p):Value.string a=HI p:=by subst h;simp[HI]
theorem str_val{p:Bs}(h:Rd M v (.str p)):v=HI p/\cW v=ab:=by
 cases h with
 |str e _=>exact⟨Rp e,rfl⟩
section
variable {X:Cx P}{x:Nat->D}{S:(Nat->Bool)->List bd}
def oO:List aB->List (List Bool)->List (List Bool)
 |[],a=>a
 |o::r,a=>pK (EL a (bP o.after.toList)) λc=>oO r (a++[c])
 where pK:List Bool->(List Bool->List (List Bool))->List (List Bool)
 |[],q=>q []
 |true::r,q=>pK r λr=>q (ab::r)
 |false::r,q=>pK r λr=>q (ae::r)
theorem nG:∀(l:List Bool)(q:List Bool->List (List Bool)),oO.pK l q=q l
 |[],q=>rfl
 |true::r,q=>by simp only[oO.pK];rw[nG r]
 |false::r,q=>by simp only[oO.pK];rw[nG r]
def Ba{all:List aB}{D:Nat->Bool}(b:∀(j:Nat)(o:aB),all[j]?=aa o->D j=ab->∀e∈bP o.after.toList,D e=ab):
  ∀(r:List aB) (a:List (List Bool)),(∀k,r[k]?=all[a.length+k]?)->(∀(j:Nat) (c:List Bool),a[j]?=aa c->∀o,all[j]?=aa o->(∀e∈bP o.after.toList,D e=ab)->∀q,bit c q=ab->D q=ab) ->
   ∀(j:Nat) (c:List Bool),(oO r a)[j]?=aa c->∀o,all[j]?=aa o->(∀e∈bP o.after.toList,D e=ab)->∀q,bit c q=ab->D q=ab
 |[],a,_,h=>h
 |o::r,a,d,h=>by
  simp only[oO];rw[nG];refine Ba b r _ (λk=>?_) ?_
  .have:=d (k+1);grind
  .intro j c i;have l:=d 0;simp only[kC,hI]at l;rcases Nat.lt_trichotomy j a.length with f|rfl|g
   .grind
   .rw[fx (aZ _)]at i;grind[zo]
   grind
def fI(all:List aB)(i j:Nat):Bool:=match(oO all [])[i]? with|some c=>bit c j|none=>ae
def vl{D:Nat->Bool}(a:∀(j:Nat)(o:aB),all[j]?=aa o->D j=ab->∀e∈bP o.after.toList,D e=ab):∀(i:Nat) o,all[i]?=aa o->(∀e∈bP o.after.toList,D e=ab)->∀j,fI all i j=ab->D j=ab:=by
 intro i o ho hp j b;unfold fI at b;split at b
 .rename_i c d;exact Ba a all [] (by simp) (by simp) i c d o ho hp j b
 grind
def ET{D:Nat->Bool}(c:∀(j:Nat)(o:aB),all[j]?=aa o->D j=ab->∀e∈bP o.after.toList,D e=ab)(g:D i=ae):∀j,(j=i∨fI all j i=ab)->D j=ae:=by
 intro j f;rcases f with rfl|f
 .exact g
 .cases h:D j with
  |false=>rfl
  |true =>
   have a:∃d,all[j]?=aa d:=by
    cases a:all[j]? with
    |some d=>grind
    |none =>
     exfalso;have k:(oO all []).length=all.length:=by
      have:∀(r:List aB) (b:List (List Bool)),(oO r b).length=b.length+r.length:=by
       intro r;induction r with
       |nil=>intro b;simp[oO]
       |cons o r l=>intro b;simp only[oO];grind[nG]
      grind
     unfold fI at f;grind
   obtain⟨d,a⟩:=a;have:=vl c j d a (c j d a h) i f;grind
def eE(X:Cx P)(N:Nat)(all:List aB)(φ:Fr)(x:Nat->D)(S:(Nat->Bool)->List bd)(i:Nat)(o:aB):Prop :=
 ∀D:Nat->Bool,(∀j,fI all i j=ab->D j=ab)->(∀j,(j=i∨fI all j i=ab)->D j=ae)->OA X N all o (jI all φ x i) (S D) (x i) (S (cK i D))
def Iv{P:aM}(X:Cx P)(N:Nat)(all:List aB)(φ:Fr)(x:Nat->D)(S:(Nat->Bool)->List bd):List aB->Nat->Prop
 |[],_=>True
 |o::r,i=>eE X N all φ x S i o/\Iv X N all φ x S r (i+1)
theorem Iv.get{all:List aB}:∀{l:List aB}{k:Nat},Iv X N all φ x S l k->∀i o,l[i]?=aa o->eE X N all φ x S (k+i) o
 |[],_,_,i,o,h=>by grind
 |p::r,k,h,0,o,ho=>by simp at ho;subst ho;exact h.1
 |p::r,k,h,i+1,o,ho=>by have:=Iv.get h.2 i o (by grind);grind
def AK.flags{id:Nat}(h:P.follows Departure.mixedOrders=ab)(x:Nat->D)(S:(Nat->Bool)->List bd)(l:S (λ_=>ae)=σ)(b:mS ops.toList=ab)(a:tm ops.toList 0=ab)(e:oN N ops.toList=ab)(one:Iv X N ops.toList φ x S ops.toList 0)(k:∀D,(∀i,i<ops.toList.length->D i=ab)->AK X N Qf K .normal (MB ops.toList φ x) (S D)):AK X N Qf (.code (.region id ops ab)::K) .normal φ σ:=by
 have:=AW.reg (X:=X) (N:=N) (φ:=φ) (σ:=σ) h (all:=ops.toList) ops.toList.length (λ_:Unit=>x) (λ_=>S) (λ_ _=>True) () ar l b a e (aZ _)
  (λi h1 h2=>absurd h2 (lZ.2 h1)) (λg D _ _ i h1 h2=>absurd h2 (lZ.2 h1))
  (λg D i o _ ho _ f d c=>by have h1:=one.get i o ho;rw[br]at h1;exact(h1 D (vl c i o ho d) (ET c f)).HX ⟨(),λ_ _=>rfl,ar⟩ rfl rfl)
  (Q:=AK X N Qf K) (λg D _ j=>by rw[qY];exact .nil (k D j)) id
 rw[ql]at this;exact this
end
section
variable {X:Cx P}{x:Nat->D}{k:Bool->Bool->Bool->List bd}{g f b:Nat}
abbrev vk(k:Bool->Bool->Bool->List bd)(g f b:Nat):(Nat->Bool)->List bd:=λD=>k (D g) (D f) (D b)
def dc{D:Nat->Bool}(h:av j i=ae):cK i D j=D j:=by simp only[cK,h]
def nF{D:Nat->Bool}:cK i D i=ab:=by simp only[cK,jm]
def eE.q3(h1:av g i=ae)(h2:av f i=ae)(e:av b i=ae)(h:∀a c d,OA X N all o (jI all φ x i) (k a c d) (x i) (k a c d)):eE X N all φ x (vk k g f b) i o:=by intro D _ _;show OA X N all o _ (k (D g) (D f) (D b)) _ (k (cK i D g) (cK i D f) (cK i D b));rw[dc h1,dc h2,dc e];exact h _ _ _
def eE.Ye(e:c8 P T)(hC:bA X CT)(ho:au obs)(h:∀a c d,tR T CT [] all (jI all φ x i) (k a c d) o=aa (x i,af,obs):=by intro a c d;cases a<;>cases c<;>cases d<;>rfl)(h1:av g i=ae:=by rfl)(h2:av f i=ae:=by rfl)(j:av b i=ae:=by rfl):eE X N all φ x (vk k g f b) i o:=.q3 h1 h2 j λa c d=>OA.eval e hC (h a c d) ho
def eE.P0(e:c8 P T)(hC:bA X CT)(h:∀a c d,tR T CT [] all (jI all φ x i) (k a c d) o=aa (x i,af,[]):=by intro a c d;cases a<;>cases c<;>cases d<;>rfl)(h1:av g i=ae:=by rfl)(h2:av f i=ae:=by rfl)(j:av b i=ae:=by rfl):eE X N all φ x (vk k g f b) i o:=.Ye (obs:=[]) e hC ar h h1 h2 j
def eE.e1(hi:av g i=ab)(h1:av g i=ab)(h2:av f i=ae)(a:av b i=ae)(h:∀c d,OA X N all o (jI all φ x i) (k ae c d) (x i) (k ab c d)):eE X N all φ x (vk k g f b) i o:=by intro D _ j;have e:=bX hi;subst e;show OA X N all o _ (k (D g) (D f) (D b)) _ (k (cK g D g) (cK g D f) (cK g D b));rw[nF,dc h2,dc a,j g (.inl rfl)];exact h _ _
def eE.e2(hi:av f i=ab)(h1:av g i=ae)(d:av b i=ae)(hb:fI all b i=ab)(j:av f i=ab)(h:∀a,OA X N all o (jI all φ x i) (k a ae ae) (x i) (k a ab ae)):eE X N all φ x (vk k g f b) i o:=by intro D _ c;have e:=bX hi;subst e;show OA X N all o _ (k (D g) (D f) (D b)) _ (k (cK f D g) (cK f D f) (cK f D b));rw[nF,dc h1,dc d,c f (.inl rfl),c b (.inr hb)];exact h _
def eE.e3(hi:av b i=ab)(h1:av g i=ae)(h2:av f i=ae)(hb:fI all i f=ab)(d:av b i=ab)(h:∀a,OA X N all o (jI all φ x i) (k a ab ae) (x i) (k a ab ab)):eE X N all φ x (vk k g f b) i o:=by intro D c j;have e:=bX hi;subst e;show OA X N all o _ (k (D g) (D f) (D b)) _ (k (cK b D g) (cK b D f) (cK b D b));rw[nF,dc h1,dc h2,j b (.inl rfl),c f hb];exact h _
end
def ov(f:ai)(l:List Int):ai->(Nat->Option Obj)->Prop:=λv a=>v=f/\∃r es c,f=.map (aa r)/\(∀b,a b=if b=r then aa (.map es c)else af)/\MapKept.Stamped es c /\
 (∀e∈es.toList,∃n,e.key=.int .i64 n/\e.val=.bool ab/\bw .i64 n)/\∀n,n∈l↔∃e∈es.toList,e.key=.int .i64 n
structure Uv(σ:List bd)(s:St)(b:Nat)(f:ai)(l:List Int)(L:Loc)(r:Nat)(es:Array MapEntry)(c:Nat):Prop where
 at':s.β[b]?=aa L
 v:L.v=f
 m:f=.map (aa r)
 st:MapKept.Stamped es c
 kv:∀e∈es.toList,∃n,e.key=.int .i64 n/\e.val=.bool ab/\bw .i64 n
 mem:∀n,n∈l↔∃e∈es.toList,e.key=.int .i64 n
 heap:s.w.heap[r]?=aa (.map es c)
 bs:∀b,b∈L.bs↔b=r
def ov.open{f:ai}{l:List Int}(hh:aD σ s)(hl:σ[b]?=aa (.cf (ov f l))):∃L r es c,Uv σ s b f l L r es c:=by
 have hb:b<s.β.length:=by rw[hh.len];grind
 obtain⟨ch,⟨h1,r,es,c,h2,h,d,g,e⟩,a,i,_⟩:=hh.box b _ _ hl (bm hb);exact⟨_,r,es,c,bm hb,h1,h2,d,g,e,a r _ (by grind),λb=>by grind⟩
section
variable {T p q:aw}{z:aC}{f:ai}{l:List Int}{n:Int}
def Uw{es:Array MapEntry}(h:∀e∈es.toList,∃n,e.key=.int .i64 n/\e.val=.bool ab/\bw .i64 n):∀e∈es.toList,MapKept.IsKey (.int .i64) e.key:=λe a=>by obtain⟨n,b,_⟩:=h e a;rw[b];rfl
def RY{f:ai}{d:D}(h:dk σ s v d)(e:d=.e (.one (.v f))):v=f:=by subst e;exact Rd.fj h
def U9{n:Int}{d:D}(h:dk σ s v d)(e:d=.e (.one (.c (.int .i64 n)))):v=.int .i64 n/\bw .i64 n:=by subst e;have:=fH h;generalize v=w at this;cases this;exact⟨rfl,by assumption⟩
def bD.NC(h:o.op=.lookup T x y ae)(B:P.underlying T=aa (.map p q))(u:P.underlying p=aa (.int .i64))(H:∀w,(zeroValue q).run P w=.ok (.bool ae) w)(hl:σ[b]?=aa (.cf (ov f l)))(G:η x=.e (.one (.v f)))(J:η y=.e (.one (.c (.int .i64 n)))):bD P o η σ (.e (.one (.c (.bool (l.contains n))))) σ:=by
 refine bD.ny λs F hh hr=>?_;obtain⟨L,r,es,c,g⟩:=ov.open hh hl;have ex:F x=.map (aa r):=(RY (hr x) G).trans g.m;obtain⟨C,N⟩:=U9 (hr y) J;obtain⟨a,A⟩:=xV (d:=.int .i64) (k:=.int .i64 n) rfl (Uw g.kv);have I:oh s ⟨.obj r,ae,ae⟩:=gE (bH g.at') ((g.bs r).2 rfl);have key:∃v:Bool,(Instr.lookup T (.map (aa r)) (.int .i64 n) ae).run P s.w=.ok (.bool v) s.w/\(Instr.lookup T (.map (aa r)) (.int .i64 n) ae).events P s.w #[]=#[⟨.obj r,ae,ae⟩]/\v=l.contains n:=by
  cases a with
  |none =>
   obtain⟨i,t⟩:=tp (ok:=ae) B u g.heap A (λ_=>H s.w)
   exact⟨ae,i,t,by
    symm;rw[<-lX,yU,g.mem]
    rintro⟨e,E,u⟩;exact A.no rfl e E u⟩
  |some jv =>
   obtain⟨j,v⟩:=jv;obtain⟨i,t⟩:=tp (ok:=ae) (z:=ah) B u g.heap A (λh=>by cases h);obtain⟨e,h1,h2,K⟩:=A.yes j v rfl;have hm:e∈es.toList:=by grind
   obtain⟨_,_,M,_⟩:=g.kv e hm;exact⟨ab,i.trans (show Result.ok v s.w=_ by grind),t,by symm;rw[yU,g.mem];grind⟩
 obtain⟨v,i,t,D⟩:=key;refine⟨.bool v,?_,by rw[<-D];exact Rd.bool,?_⟩
 .simp only[ak,h,ex,C,bO,i,b9,cT]
 .simp only[ak,h,ex,C,aK,i,t,aP,Sem.events_pure];exact .one I
def bD.Rg(h:o.op=.mapUpdate T x y z)(F:P.underlying T=aa (.map p q))(H:P.underlying p=aa (.int .i64))(hl:σ[b]?=aa (.cf (ov f l)))(N:η x=.e (.one (.v f)))(K:η y=.e (.one (.c (.int .i64 n))))(V:η z=.e (.one (.c (.bool ab)))):bD P o η σ .any (σ.set b (.cf (ov f (l++[n])))):=by
 intro s D hh hr;obtain⟨L,r,es,c,g⟩:=ov.open hh hl;have ex:D x=.map (aa r):=(RY (hr x) N).trans g.m;obtain⟨G,Y⟩:=U9 (hr y) K;have E:D z=.bool ab:=by have:=hr z;rw[V]at this;have:=fH this;generalize D z=w at this;cases this;rfl
 obtain⟨a,B⟩:=xV (d:=.int .i64) (k:=.int .i64 n) rfl (Uw g.kv);have I:∀w,oh s ⟨.obj r,w,ae⟩:=λw=>gE (bH g.at') ((g.bs r).2 rfl);have S:r<s.w.heap.size:=(eZ.1 g.heap).1;have key:∃es' c',(Instr.mapUpdate T (.map (aa r)) (.int .i64 n) (.bool ab)).run P s.w=.ok () {s.w with heap:=s.w.heap.setIfInBounds r (.map es' c')}/\(Instr.mapUpdate T (.map (aa r)) (.int .i64 n) (.bool ab)).events P s.w #[]=#[⟨.obj r,ae,ae⟩,⟨.obj r,ab,ae⟩] /\
   MapKept.Stamped es' c'/\(∀e∈es'.toList,∃n,e.key=.int .i64 n/\e.val=.bool ab/\bw .i64 n)/\∀m,m∈l++[n]↔∃e∈es'.toList,e.key=.int .i64 m:=by
  cases a with
  |none =>
   obtain⟨t,u⟩:=tq (x:=.bool ab) F H g.heap B;refine⟨_,_,t,u,MapKept.stamped_push g.st (B.no rfl),λe A=>?_,λm=>?_⟩
   .rw[Array.toList_push,fz]at A;rcases A with A|A
    .exact g.kv e A
    grind
   .rw[fz,g.mem,Array.toList_push];constructor
    .rintro(⟨e,h1,h2⟩|h1)
     .grind
     .simp at h1;subst h1;exact⟨_,List.mem_append_right _ (iT.2 rfl),rfl⟩
    grind
  |some jv =>
   obtain⟨j,v⟩:=jv;obtain⟨e,h1,h2,W⟩:=B.yes j v rfl;have hm:e∈es.toList:=by grind
   obtain⟨_,_,U,_⟩:=g.kv e hm;have O:es.modify j (λe=>{key:=.int .i64 n,val:=.bool ab,born:=e.born})=es:=by
    apply Array.ext_getElem?;intro i;rw[yW];split
    .rename_i hi;subst hi;rw[h1,<-h2,<-U];rfl
    .rfl
   obtain⟨t,u⟩:=tq (x:=.bool ab) F H g.heap B;refine⟨es,c,t.trans (show Result.ok () {s.w with heap:=s.w.heap.setIfInBounds r (.map (es.modify j λe=>{key:=.int .i64 n,val:=.bool ab,born:=e.born}) c)}=_ by grind),u,g.st,g.kv,λm=>?_⟩;rw[fz,g.mem];constructor
   .rintro(J|J)
    .exact J
    grind
   grind
 obtain⟨es',c',t,u,M,R,Q⟩:=key;have C:=hh.iD (H':=ov f (l++[n])) (L':=L) (w':={s.w with heap:=s.w.heap.setIfInBounds r (.map es' c')}) hl g.at' rfl (by simp) (λb _ hb=>by show(s.w.heap.setIfInBounds r _)[b]?=_;rw[ni (by rintro rfl;exact hb ((g.bs r).2 rfl))]) (λb hb=>.inl hb)
  ⟨λb=>if b=r then aa (.map es' c')else af,⟨g.v,r,es',c',g.m,λ_=>rfl,M,R,Q⟩,λb Z hb=>by grind,λb=>by rw[g.bs];by_cases e:b=r<;>simp[e]⟩ rfl rfl rfl
 have e1:s.β.set b L=s.β:=by
  apply gK;intro i;by_cases e:b=i
  .subst e;rw[fQ (b8.1 g.at').1,g.at']
  grind
 rw[e1]at C;refine⟨.skip,_,?_,rfl,C.1,C.2,?_⟩
 .simp only[ak,h,ex,G,E,bO,t,b9,cT]
 .simp only[ak,h,ex,G,E,aK,t,u,aP,Sem.events_pure];exact .two (I _) (I _)
end
section
variable {X:Cx P}{T:aw}
def AK.Kf(h:o.op=.makeMap T af)(r:o.guard=af)(g:fD N o.dst=ab)(k:∀f,AK X N Qf (.ops all rest::K) .normal (kg o.dst (.e (.one (.v f))) φ) (σ++[.cf (ov f [])])):AK X N Qf (.ops all (o::rest)::K) .normal φ σ:=by
 refine AK.hand (ι:=ai) (λf=>.e (.one (.v f))) (λf=>σ++[.cf (ov f [])]) r g (λs a u hh=>?_) k;let w':aA:={s.w with heap:=s.w.heap.push (.map #[] 0)}
 have c:w'.heap[s.w.heap.size]?=aa (.map #[] 0):=by grind
 have m:w'.heap.size=s.w.heap.size+1:=by grind
 obtain⟨i,g2⟩:=hh.grow (M':=s.M) (w':=w') (by grind) (λb hb=>by grind) (λ_ _ _=>rfl) (λb hb o v hm=>by have:=hh.block hm;omega) rfl rfl rfl;obtain⟨j,d⟩:=i.gx g2 rfl hh (B:=.cf (ov (.map (aa s.w.heap.size)) [])) (L:=⟨.map (aa s.w.heap.size),[s.w.heap.size]⟩)
  ⟨λb=>if b=s.w.heap.size then aa (.map #[] 0)else af,⟨rfl,_,#[],0,rfl,λ_=>rfl,MapKept.stamped_empty 0,λe t=>by grind,λn=>by simp⟩,λb o hb=>by
   grind,λb=>by by_cases e:b=s.w.heap.size<;>simp[e],λb hb o=>by
   simp at hb;subst hb;show s.M _ _=af;cases hm:s.M s.w.heap.size o with
   |none=>rfl
   |some v=>have:=hh.block hm;omega⟩ (λb hb=>by grind)
 refine⟨.map (aa s.w.heap.size),.value (.map (aa s.w.heap.size)),_,.map (aa s.w.heap.size),?_,.inl rfl,Rd.val rfl,j,d,?_⟩
 .simp[ak,h,Instr.makeMap,run_newObj,w']
 .simp[ak,h,Instr.makeMap];exact .nil
end
def MN(p:Nat->Bool):List Nat->Bool
 |[]=>ae
 |e::r=>match p e with|true=>ab|false=>MN p r
def Fa{p:Nat->Bool}:∀{l:List Nat},MN p l=ab->∃e∈l,p e=ab
 |[],h=>by cases h
 |e::r,h=>by
  simp only[MN]at h;split at h
  .grind
  .obtain⟨a,c,b⟩:=Fa h;grind
def vB(all:List aB)(k:Nat):Nat->List Nat->Bool
 |0,l=>gZ k l
 |f+1,l=>match gZ k l with|true=>ab|false=>MN (λe=>vB all k f (bP (all.getD e je).after.toList)) l
def sH{all:List aB}{k:Nat}{L:Nat->Prop}(c:∀i,i<all.length->L i->∀e∈bP (all.getD i je).after.toList,L e):∀{f:Nat}{l:List Nat},vB all k f l=ab->(∀e∈l,L e)->L k
 |0,l,h,a=>a k (Ic h)
 |f+1,l,h,a=>by
  simp only[vB]at h;split at h
  .grind [Ic]
  .obtain⟨e,j,d⟩:=Fa h;rcases cA e all.length with g|g
   .exact sH c d (c e g (a e j))
   .have:all.getD e je=je:=by grind
    rw[this]at d;exact sH c d (λm b=>by simp[je,bP]at b)
def vC(all:List aB)(f:Nat)(l:List Nat):Nat->Bool
 |0=>ab
 |n+1=>match vB all n f l with|true=>vC all f l n|false=>ae
def x0{all:List aB}{f:Nat}{l:List Nat}:∀{n:Nat},vC all f l n=ab->∀k,k<n->vB all k f l=ab
 |0,_,k,a=>by omega
 |n+1,h,k,a=>by
  simp only[vC]at h;split at h
  .rename_i b;by_cases e:k=n
   .grind
   .exact x0 h k (by omega)
  grind
def zK(all:List aB)(f:Nat):Nat->Nat->Bool
 |_,0=>ab
 |i,r+1=>match vC all f (bP (all.getD i je).after.toList) i with|true=>zK all f (i+1) r|false=>ae
def x3{all:List aB}{f:Nat}:∀{i r:Nat},zK all f i r=ab->∀q,i<=q->q<i+r->vC all f (bP (all.getD q je).after.toList) q=ab
 |i,0,_,q,b,a=>by omega
 |i,r+1,h,q,b,a=>by
  simp only[zK]at h;split at h
  .rename_i c;by_cases e:q=i
   .grind
   .exact x3 h q (by omega) (by omega)
  grind
section
variable {X:Cx P}
def Gm(c:Nat)(pre:Nat->Bool)(x:Nat->D)(y:ι->Nat->D)(j:ι)(i:Nat):D:=match Nat.blt i c with|true=>Dk pre x y j i|false=>.any
def AK.Qg(u:P.follows Departure.mixedOrders=ab)(m c e:Nat)(pre:Nat->Bool)(x:Nat->D)(y:ι->Nat->D)(σ':ι->List bd){id:Nat}(d:mS ops.toList=ab)(b:tm ops.toList 0=ab)(l:oN N ops.toList=ab)(r:pre m=ae)(n:zI pre m ops.toList 0=ab)(t:Nat.blt c ops.toList.length=ab)(hm:Nat.blt m c=ab)(g:∀i,pre i=ab->i<c)(R8:zK ops.toList e c (ops.toList.length-c)=ab)(one:sF X N ops.toList φ σ x pre ops.toList 0)(two:∀j,sG X N ops.toList φ (σ' j) (Gm c pre x y j) m (ops.toList.take c) 0)(LL:oq X N ops.toList (ops.toList.getD m je) (jI ops.toList φ x m) σ (λj=>Gm c pre x y j m) σ')(k:∀j,AK X N Qf (.ops ops.toList (ops.toList.drop c)::K) .normal (MB ops.toList φ (Gm c pre x y j)) (σ' j)):AK X N Qf (.code (.region id ops ab)::K) .normal φ σ:=by
 have t:=dJ t;have hm:=dJ hm;have:=AW.reg (X:=X) (N:=N) (φ:=φ) (σ:=σ) u (all:=ops.toList) c (λa:Option ι=>a.elim x (Gm c pre x y)) (λa _=>a.elim σ σ') (λa D=>a.isSome=D m/\(a=af->∀i,D i=ab->pre i=ab)) af ⟨rfl,λ_ _ h=>by cases h⟩ rfl d b l (by omega)
  (λi h1 h2 L v f k w=>sH v (x0 (x3 R8 i h1 (by omega)) k w) f)
  (λa D s p i h1 h2=>by
   obtain⟨j,rfl⟩:=vA s hm p;have:Nat.blt i c=ae:=by
    cases hb:Nat.blt i c with
    |false=>rfl
    |true=>have:=dJ hb;omega
   simp only[Option.elim,Gm,this])
  (E9 (S:=λj _=>σ' j) r n (λj i f=>by have:Nat.blt i c=ab:=qO (g i f);simp only[Gm,this,Dk,f])
   (λi o hi f=>by have:=one.get i o hi (by grind);grind)
   (λj D i o hi AE tM _ _=>by
    have q:(ops.toList.take c)[i]?=aa o:=by grind
    have:=(two j).get i o q (by grind);grind)
   (λo ho=>by grind) (λ_ _ _=>rfl))
  (Q:=AK X N Qf K) (λa D s p=>by obtain⟨j,rfl⟩:=vA s hm p;exact k j) id
 rw[ql]at this;exact this
end
section
variable {X:Cx P}{x:Nat->D}{l:Bool->Bool->Bool->Bool->List bd}{k f e g:Nat}
abbrev rF(l:Bool->Bool->Bool->Bool->List bd)(k f e g:Nat):(Nat->Bool)->List bd:=λD=>l (D k) (D f) (D e) (D g)
theorem qz{D:Nat->Bool}(h:av j i=ae):cK i D j=D j:=by simp only[cK,h]
theorem A9{D:Nat->Bool}:cK i D i=ab:=by simp only[cK,jm]
def eE.q4(h1:av k i=ae)(h2:av f i=ae)(m:av e i=ae)(j:av g i=ae)(h:∀a b c d,OA X N all o (jI all φ x i) (l a b c d) (x i) (l a b c d)):eE X N all φ x (rF l k f e g) i o:=by intro D _ _;grind[qz]
def eE.Vi(m:c8 P T)(hC:bA X CT)(ho:au obs)(h:∀a b c d,tR T CT [] all (jI all φ x i) (l a b c d) o=aa (x i,af,obs):=by intro a b c d;cases a<;>cases b<;>cases c<;>cases d<;>rfl)(h1:av k i=ae:=by rfl)(h2:av f i=ae:=by rfl)(n:av e i=ae:=by rfl)(j:av g i=ae:=by rfl):eE X N all φ x (rF l k f e g) i o:=.q4 h1 h2 n j λa b c d=>OA.eval m hC (h a b c d) ho
def eE.SR(m:c8 P T)(hC:bA X CT)(h:∀a b c d,tR T CT [] all (jI all φ x i) (l a b c d) o=aa (x i,af,[]):=by intro a b c d;cases a<;>cases b<;>cases c<;>cases d<;>rfl)(h1:av k i=ae:=by rfl)(h2:av f i=ae:=by rfl)(n:av e i=ae:=by rfl)(j:av g i=ae:=by rfl):eE X N all φ x (rF l k f e g) i o:=.Vi (obs:=[]) m hC ar h h1 h2 n j
def eE.c1(h2:av f k=ae)(a:av e k=ae)(j:av g k=ae)(c:fI all f k=ab)(i:fI all e k=ab)(b:fI all g k=ab)(h:OA X N all o (jI all φ x k) (l ae ae ae ae) (x k) (l ab ae ae ae)):eE X N all φ x (rF l k f e g) k o:=by intro D d m;grind[A9,qz]
def eE.c2(h1:av k f=ae)(a:av e f=ae)(i:av g f=ae)(j:fI all f k=ab)(d:fI all e f=ab)(b:fI all g f=ab)(h:OA X N all o (jI all φ x f) (l ab ae ae ae) (x f) (l ab ab ae ae)):eE X N all φ x (rF l k f e g) f o:=by intro D c m;grind[A9,qz]
def eE.c3(h1:av k e=ae)(h2:av f e=ae)(d:av g e=ae)(i:fI all e k=ab)(b:fI all e f=ab)(a:fI all g e=ab)(h:OA X N all o (jI all φ x e) (l ab ab ae ae) (x e) (l ab ab ab ae)):eE X N all φ x (rF l k f e g) e o:=by intro D c j;grind[A9,qz]
def eE.c4(h1:av k g=ae)(h2:av f g=ae)(a:av e g=ae)(i:fI all g k=ab)(b:fI all g f=ab)(d:fI all g e=ab)(h:OA X N all o (jI all φ x g) (l ab ab ab ae) (x g) (l ab ab ab ab)):eE X N all φ x (rF l k f e g) g o:=by intro D c j;grind[A9,qz]
end
section
variable {T:List (Nat×TI)}
def bD.MT(K:c8 P T){w:aC}(h:o.op=.slice t x (aa w) (aa y) af){F ie:TI}(D:bE T t=aa F)(Z:F.desc=.slice E)(W:bE T E=aa ie){g q:Nat}{r p:IntKind}{i j:Int}(S:η x=.e (.one (.bp l (.sl g k q n))))(X:ie.size=k){Y k':Nat}(hl:σ[l]?=aa (.buf Y k' g es))(hw:η w=.e (.one (.c (.int r i))))(Q:η y=.e (.one (.c (.int p j))))(h0:0<=i)(h1:i<=j)(h2:q+j<=g):bD P o η σ (.e (.one (.bp l (.sl g k (q+i.toNat) (j.toNat-i.toNat))))) σ:=by
 subst X;refine .quiet λst ρ hh hr=>?_;have z:=hr x;rw[S]at z;have s:=z;change gd σ st (ρ x) (.bp l _)at s;obtain⟨lv,⟨a,a0,cap,M,N,R,V,H,B,I⟩,G,C⟩:=s;have O:g<=M:=by
  obtain⟨L,U,u⟩:=(C _ _ _ _ hl).2 rfl;rcases hh.box l _ L hl U with⟨rfl,rfl⟩|⟨b,c1,vs,zs,rfl,_,_,h5,_⟩
  .exact iN _
  .rw[B]at u;cases u;exact h5
 have f:=hr w;rw[hw]at f;replace f:=fH f;generalize v:ρ w=vw at f;cases f;have d:=hr y;rw[Q]at d;replace d:=fH d;generalize A:ρ y=vy at d;cases d;have m:=(K t F D).run_underlying (w:=st.w);rw[Z]at m;have hb:(bg ab n cap (aa (.int r i)) (aa (.int p j)) af).run P st.w=.ok (i.toNat,j.toNat,cap) st.w:=by simp[bg,run_sliceBound (P:=P) st.w p j cap _ (by omega) (by omega),run_sliceBound (P:=P) st.w r i j.toNat _ (by omega) (by omega)]
 have he:(bg ab n cap (aa (.int r i)) (aa (.int p j)) af).events P st.w #[]=#[]:=by
  simp[bg,run_sliceBound (P:=P) st.w p j cap _ (by omega) (by omega),run_sliceBound (P:=P) st.w r i j.toNat _ (by omega) (by omega),
   dW (P:=P) st.w p j cap _ (by omega) (by omega),dW (P:=P) st.w r i j.toNat _ (by omega) (by omega)]
 refine⟨.slice (if cap=i.toNat then a else a.map (·.add (i.toNat*ie.size))) (j.toNat-i.toNat) (cap-i.toNat),?_,⟨lv,⟨_,a0,_,M,rfl,by omega,by omega,H,B,λJ=>?_⟩,G,C⟩,by simp[ak,h,N,v,A,Instr.sliceAt,m,Instr.slice,hb,he]⟩
 .simp[ak,h,N,v,A,Instr.sliceAt,m,Instr.slice,hb,(K E ie W).run_sizeOf]
 .obtain⟨b,rfl,rfl⟩:=I (by omega);refine⟨b,rfl,?_⟩;rw[a9 (by omega)];simp[dm,gM]
end
section
open Go.ChangeMaps (setBlock)
section
def Dn(w:aA)(ty:aw)(r b a d:Nat)(seen:Array Nat)(es:Array MapEntry)(clock:Nat)(l:w.heap[r]?=aa (.mapIter (aa b) a seen d))(q:w.heap[b]?=aa (.map es clock))(g:∀x∈es.toList,x.born<a)(m:a<=d):
    ∀e∈(Instr.next (.pointer (aa ⟨r,0,af⟩)) ae ty).events P w #[],e.sync=ae/\(e.loc=.obj r∨e.loc=.obj b):=by
  have y:(getObj r).run P w=.ok (.mapIter (aa b) a seen d) w:=by simp only[getObj,Sem.run,l]
  have A:(getObj b).run P w=.ok (.map es clock) w:=by simp only[getObj,Sem.run,q]
  have t:∀es,(getObj r).events P w es=es.push ⟨.obj r,ae,ae⟩:=λes=>by simp only[getObj,Sem.events,Sem.runT,l];rfl
  have B:∀es,(getObj b).events P w es=es.push ⟨.obj b,ae,ae⟩:=λes=>by simp only[getObj,Sem.events,Sem.runT,q];rfl
  have C:∀(w1:aA) (sn:Array Nat) (evs:Array Event),w1.heap[r]?=aa (.mapIter (aa b) a seen d)->(setObj r (.mapIter (aa b) a sn clock)).events P w1 evs=evs.push ⟨.obj r,ab,ae⟩:=λw1 sn evs h=>by simp only[setObj,Sem.events,Sem.runT,h];rfl
  have v:∀(w1:aA) (o:Obj),w1.heap[r]?=aa (.mapIter (aa b) a seen d)->∃w2,(setObj r o).run P w1=.ok () w2:=λw1 o h=>⟨{w1 with heap:=w1.heap.setIfInBounds r o},by simp only[setObj,Sem.run,h]⟩
  simp only[Instr.next,aK,y,A,t,B,aP,next_test_false seen es a d g m,gJ,bM];generalize D:((if(Array.filter (λx=>decide (x.born<a)) (Array.filter (λe=>!seen.contains e.born) es)).isEmpty=ab then #[af]else #[])++Array.map aa (Array.filter (λx=>decide (x.born<a)) (Array.filter (λe=>!seen.contains e.born) es)++Array.filter (λx=>decide (x.born≥a)) (Array.filter (λe=>!seen.contains e.born) es)))=L;have u:∃j w1,(w1=w∨w1=w.drew)/\(choose (Question.mapNext L.size)).run P w=.ok j w1/\∀es,(choose (Question.mapNext L.size)).events P w es=es:=by
    by_cases k:L.size<=1
    · exact⟨0,w,Or.inl rfl,by simp[choose,Sem.run,Question.forced,k],λes=>by simp[choose,Sem.events,Sem.runT,Question.forced,k]⟩
    · exact⟨_,w.drew,Or.inr rfl,by
        simp only[choose,Sem.run,Question.forced,bl,k,bM,Question.cut];rfl,λes=>by simp only[choose,Sem.events,Sem.runT,Question.forced,bl,k,bM,Question.cut]⟩
  obtain⟨j,w1,p,f,n⟩:=u;have i:w1.heap[r]?=aa (.mapIter (aa b) a seen d):=by rcases p with rfl|rfl<;>exact l
  simp only[f,n,aP];intro e c;have fin:e∈(#[⟨.obj r,ae,ae⟩,⟨.obj b,ae,ae⟩,⟨.obj r,ab,ae⟩]:Array Event):=by
    cases s:L[j]? with
    | none=>rw[s]at c;simp[stuck,Sem.events,Sem.runT]at c;rcases c with h|h<;>simp[h]
    | some o =>
      rw[s]at c;cases o with
      | none=>simp at c;rcases c with h|h<;>simp[h]
      | some x =>
        obtain⟨w2,z⟩:=v w1 (.mapIter (aa b) a (seen.push x.born) clock) i;simp[C w1 _ _ i]at c;rcases c with h|h|h<;>simp[h]
  simp at fin;rcases fin with rfl|rfl|rfl<;>simp
def Bq(w:aA)(r b a:Nat)(seen:Array Nat)(es:Array MapEntry)(clock:Nat)(e:MapEntry)(c:w.heap[r]?=aa (.mapIter (aa b) a (seen.push e.born) clock))(d:w.heap[b]?=aa (.map es clock))(k:e∈es.toList)(l:(es.toList.map (·.born)).Nodup):
    (Instr.entry (.pointer (aa ⟨r,0,af⟩))).events P w #[]=#[⟨.obj r,ae,ae⟩,⟨.obj b,ae,ae⟩]:=by
  have h:es.find? (·.born==e.born)=aa e:=by rw[<-Array.find?_toList];grind[find_born]
  have g:(getObj r).run P w=.ok (.mapIter (aa b) a (seen.push e.born) clock) w:=by simp only[getObj,Sem.run,c]
  have j:(getObj b).run P w=.ok (.map es clock) w:=by simp only[getObj,Sem.run,d]
  have f:∀es,(getObj r).events P w es=es.push ⟨.obj r,ae,ae⟩:=λes=>by simp only[getObj,Sem.events,Sem.runT,c];rfl
  have i:∀es,(getObj b).events P w es=es.push ⟨.obj b,ae,ae⟩:=λes=>by simp only[getObj,Sem.events,Sem.runT,d];rfl
  simp only[Instr.entry,aK,g,j,f,i,aP,Array.back?_push,mq,gJ,bM,h];rfl
def Fc(r c:Nat)(sn:Array Nat):ai->(Nat->Option Obj)->Prop:=λv d=>∃a:Nat,v=.pointer (aa ⟨a,0,af⟩)/\d=λb=>if b=a then aa (.mapIter (aa r) c sn c)else af
def I8(H:ai->(Nat->Option Obj)->Prop)(r:Nat)(es:Array MapEntry)(c:Nat):Prop:=∀v a,H v a->a r=aa (.map es c)
variable {X:Cx P}
def aD.has(hh:aD σ s)(a:σ[l]?=aa (.cf H)){r:Nat}{es:Array MapEntry}{c:Nat}(b:I8 H r es c):s.w.heap[r]?=aa (.map es c)/\∃L∈s.β,r∈L.bs:=by
  have hl:l<s.β.length:=by rw[hh.len];grind
  obtain⟨ch,h1,h2,e,d⟩:=hh.box l _ s.β[l] a (bm hl);have:=b _ _ h1;grind
def aD.YA(hh:aD σ s){r c:Nat}{sn:Array Nat}(e:σ[l]?=aa (.cf (Fc r c sn))):∃a:Nat,s.β[l]?=aa ⟨.pointer (aa ⟨a,0,af⟩),((s.β[l]?).map (·.bs)).getD []⟩/\s.w.heap[a]?=aa (.mapIter (aa r) c sn c)/\∀L,s.β[l]?=aa L->∀b,b∈L.bs↔b=a:=by
  have hl:l<s.β.length:=by rw[hh.len];grind
  have d:=bm hl;obtain⟨ch,⟨a,g,h1⟩,h2,h,i⟩:=hh.box l _ s.β[l] e d;refine⟨a,?_,h2 a _ (by grind),λL f b=>?_⟩
  · rw[d];simp[<-g]
  grind
def AK.range{t x d:Nat}{n i:aw}(ho:o.op=.range t (.tmp x))(F:o.dst=aa d)(A:o.guard=af)(E:fD N o.dst=ab)(l:P.underlying t=aa (.map n i)){r:Nat}(q:∀s a,ck N σ s φ a->aD σ s->a.eval (.tmp x)=.map (aa r)){mb:Nat}{H:ai->(Nat->Option Obj)->Prop}{es:Array MapEntry}{c:Nat}(I:σ[mb]?=aa (.cf H))(p:I8 H r es c)(k:AK X N Qf (.ops all rest::K) .normal ((d,.e (.one (.ref σ.length)))::φ) (σ++[.cf (Fc r c #[])])):AK X N Qf (.ops all (o::rest)::K) .normal φ σ:=by
  refine AK.hand (ι:=Unit) (λ_=>.e (.one (.ref σ.length))) (λ_=>σ++[.cf (Fc r c #[])]) A E ?_ λ_=>by rw[F];exact k
  intro s a C hh;have m:a.eval (.tmp x)=.map (aa r):=q s a C hh;obtain⟨f,L,u,g⟩:=hh.has I p;have h1:=run_range_map s.w t n i r es c l f;have h2:(Instr.range t (.map (aa r))).events P s.w #[]=#[⟨.obj r,ae,ae⟩]:=by
    have D:∀es,(getObj r).events P s.w es=es.push ⟨.obj r,ae,ae⟩:=λes=>by simp only[getObj,Sem.events,Sem.runT,f];rfl
    have G:∀(o:Obj) (w:aA) es,(newObj o).events P w es=es:=λo w es=>by simp only[newObj,Sem.events,Sem.runT]
    simp[Instr.range,run_underlying l,MapKept.run_getObj_map f,D,G]
  have J:∀b,s.w.heap.size<=b->∀o,s.M b o=af:=λb hb o=>by
    cases hm:s.M b o with
    | none=>rfl
    | some v=>have:=hh.block hm;omega
  let w':aA:=s.w.alloc (.mapIter (aa r) c #[] c);have z:w'.heap.size=s.w.heap.size+1:=by show(s.w.heap.push _).size=_;simp
  have j:w'.heap[s.w.heap.size]?=aa (.mapIter (aa r) c #[] c):=dF _ _;obtain⟨y,g2⟩:=hh.grow (M':=s.M) (w':=w') (by omega) (λb hb=>cM _ _ hb) (λ_ _ _=>rfl) (λb hb o v hm=>by grind) rfl rfl rfl;obtain⟨a1,a2⟩:=y.gx (B:=.cf (Fc r c #[])) (L:=⟨.pointer (aa ⟨s.w.heap.size,0,af⟩),[s.w.heap.size]⟩) g2 rfl hh
    ⟨λb=>if b=s.w.heap.size then aa (.mapIter (aa r) c #[] c)else af,⟨_,rfl,rfl⟩,λb o hb=>by grind,λb=>by by_cases e:b=s.w.heap.size<;>simp[e],λb hb o=>by grind⟩
    (λb hb=>by grind)
  refine⟨(),.value (.pointer (aa ⟨s.w.heap.size,0,af⟩)),_,.pointer (aa ⟨s.w.heap.size,0,af⟩),?_,.inl rfl,⟨λB h=>?_,⟨.pointer (aa ⟨s.w.heap.size,0,af⟩),[s.w.heap.size]⟩,?_,rfl,rfl⟩,a1,a2,?_⟩
  · simp only[ak,ho,m,bO,h1,b9,cT];rfl
  · rw[fx (aZ _)]at h;simp at h;subst h;rfl
  · show(s.β++_)[σ.length]?=_
    rw[<-hh.len,fx (aZ _)];simp
  · exact pL (ey.of_eq h2 (.one (gE u g))) (by simp only[ak,ho,m])
def ck.To{x:Nat}(c:look φ x=.e (.one (.v v))):∀s a,ck N σ s φ a->aD σ s->a.eval (.tmp x)=v:=λs a b _=>by have:=b.slot x;rw[c]at this;exact Rd.fj this
inductive x7 (es:Array MapEntry) (sn:Array Nat)
  | over (h:∀e∈es.toList,e.born∈sn)
  | one (e:MapEntry) (h:e∈es.toList) (hn:e.born∉sn)
def x7.d{es:Array MapEntry}{sn:Array Nat}:x7 es sn->D
  | .over _=>.fw [.one (.c (.bool ae))]
  | .one e _ _=>.fw [.one (.c (.bool ab)),.one (.v e.key),.one (.v e.val)]
def x7.sn{es:Array MapEntry}{sn:Array Nat}:x7 es sn->Array Nat
  | .over _=>sn
  | .one e _ _=>sn.push e.born
def AK.next{x d:Nat}{ty:aw}(ho:o.op=.next (.tmp x) ae)(S:o.type=ty)(V:o.dst=aa d)(O:o.guard=af)(U:fD N o.dst=ab){mb ib:Nat}(M:look φ x=.e (.one (.ref ib))){r c:Nat}{sn:Array Nat}(G:σ[ib]?=aa (.cf (Fc r c sn))){H:ai->(Nat->Option Obj)->Prop}{es:Array MapEntry}(hB:σ[mb]?=aa (.cf H))(J:I8 H r es c)(n:MapKept.Stamped es c)(u:∀e∈es.toList,cW e.key=ab/\cW e.val=ab)(k:∀i:x7 es sn,AK X N Qf (.ops all rest::K) .normal ((d,i.d)::φ) (σ.set ib (.cf (Fc r c i.sn)))):AK X N Qf (.ops all (o::rest)::K) .normal φ σ:=by
  refine AK.hand (ι:=x7 es sn) (λi=>i.d) (λi=>σ.set ib (.cf (Fc r c i.sn))) O U ?_ λi=>by rw[V];exact k i
  intro s a T hh;obtain⟨f,h1,h2,D⟩:=hh.YA G;have j:a.eval (.tmp x)=.pointer (aa ⟨f,0,af⟩):=by
    have:=T.slot x;rw[M]at this;obtain⟨_,L,y,j,_⟩:=(show gd _ s _ (.ref ib)from this)
    rw[h1]at y;cases y;exact j
  obtain⟨E,L,y,Z⟩:=hh.has hB J;have v:=bH h1;have A:=(D _ h1 f).2 rfl;have p:ey s ((Instr.next (.pointer (aa ⟨f,0,af⟩)) ae o.type).events P s.w #[]):=by
    intro e t;obtain⟨q1,q2|q2⟩:=Dn s.w o.type f r c c sn es c h2 E n.1 (aZ _) e t
    · obtain⟨z,wr,I⟩:=e;grind[gE]
    · obtain⟨z,wr,I⟩:=e;grind[gE]
  have q:σ.set ib (.cf (Fc r c sn))=σ:=by apply gK;grind
  rcases run_next_at (P:=P) s.w o.type f r c c sn es c h2 E n.1 (aZ _)with⟨W,C⟩|⟨e,t,w1,B,C⟩
  · have m:∀e∈es.toList,e.born∈sn:=by intro e t;have:=Array.eq_empty_of_size_eq_zero W;unfold leftOf at this;grind[Array.filter_eq_empty_iff]
    refine⟨.over m,.value (.tuple #[.bool ae]),s,_,?_,.inl rfl,⟨[.bool ae],rfl,Rd.bool,ar⟩,?_,?_,?_⟩
    · simp only[ak,ho,j,bO,C,b9,cT]
    · show aD (σ.set ib (.cf (Fc r c sn))) s
      grind
    · show Step σ s (σ.set ib (.cf (Fc r c sn))) s
      rw[q];exact .refl _ _
    · exact pL p (by simp only[ak,ho,j])
  · have h:e∈es.toList/\e.born∉sn:=by simp[leftOf]at t;grind
    have g:w1.heap=s.w.heap/\w1.os=s.w.os/\w1.tape=s.w.tape/\w1.output=s.w.output:=by rcases B with rfl|rfl<;>exact⟨rfl,rfl,rfl,rfl⟩
    have R:f<s.w.heap.size:=hh.lt _ v f A;have F:f<w1.heap.size:=by grind
    obtain⟨t1,Q⟩:=hh.iD (l:=ib) (H':=Fc r c (sn.push e.born)) (L':=⟨.pointer (aa ⟨f,0,af⟩),((s.β[ib]?).map (·.bs)).getD []⟩) (w':=setBlock w1 f (.mapIter (aa r) c (sn.push e.born) c)) G h1 rfl
      (by simp[setBlock,g.1]) (λb hb hn=>by
        have Y:f≠b:=by grind
        simp only[setBlock]
        grind) (λb hb=>.inl hb)
      ⟨λb=>if b=f then aa (.mapIter (aa r) c (sn.push e.born) c)else af,⟨f,rfl,rfl⟩,λb o hb=>by
        by_cases e1:b=f
        · subst e1
          simp only[b5]at hb;cases hb;simp only[setBlock];grind
        grind,λb=>by
        rw[D _ h1 b]
        by_cases e1:b=f<;>simp[e1]⟩ (by simp[setBlock,g.2.1]) (by simp[setBlock,g.2.2.1]) (by simp[setBlock,g.2.2.2])
    obtain⟨c1,c2⟩:=u e h.1;refine⟨.one e h.1 h.2,.value (.tuple #[.bool ab,e.key,e.val]),_,_,?_,.inl rfl,⟨[.bool ab,e.key,e.val],rfl,Rd.bool,Rd.val c1,Rd.val c2,ar⟩,t1,Q,?_⟩
    · simp only[ak,ho,j,bO,C,b9,cT]
    · exact pL p (by simp only[ak,ho,j])
def AK.entry{x d:Nat}(ho:o.op=.entry (.tmp x))(z:o.dst=aa d)(t:o.guard=af)(v:fD N o.dst=ab){mb ib:Nat}(q:look φ x=.e (.one (.ref ib))){r c:Nat}{sn:Array Nat}{e:MapEntry}(B:σ[ib]?=aa (.cf (Fc r c (sn.push e.born)))){es:Array MapEntry}(E:σ[mb]?=aa (.cf H))(p:I8 H r es c)(b:MapKept.Stamped es c)(l:e∈es.toList){y:D}(n:∀s:St,dk σ s (.tuple #[e.key,e.val]) y)(k:AK X N Qf (.ops all rest::K) .normal ((d,y)::φ) σ):AK X N Qf (.ops all (o::rest)::K) .normal φ σ:=by
  refine AK.hand (ι:=Unit) (λ_=>y) (λ_=>σ) t v ?_ λ_=>by rw[z];exact k
  intro s a u hh;obtain⟨g,h1,h2,m⟩:=hh.YA B;have h:a.eval (.tmp x)=.pointer (aa ⟨g,0,af⟩):=by
    have:=u.slot x;rw[q]at this;obtain⟨_,L,f,h,_⟩:=(show gd _ s _ (.ref ib)from this)
    rw[h1]at f;cases f;exact h
  obtain⟨j,L,f,i⟩:=hh.has E p;have A:=run_entry_at (P:=P) s.w g r c sn es c e h2 j l b.2.1;have C:=Bq (P:=P) s.w g r c sn es c e h2 j l b.2.1;refine⟨(),.value (.tuple #[e.key,e.val]),s,_,?_,.inl rfl,n s,hh,.refl _ _,?_⟩
  · simp only[ak,ho,h,bO,A,b9,cT]
  · exact pL (ey.of_eq C (.two (gE (bH h1) ((m _ h1 g).2 rfl)) (gE f i))) (by simp only[ak,ho,h])
end
end
inductive tP where
 |nil (a:Option Addr)
 |row (b cap:Nat)
def se(bf:tP)(n:Nat):ai:=match bf with
 |.nil a=>.slice a 0 0
 |.row b cap=>.slice (aa ⟨b,0,af⟩) n cap
def Mc(xs:List ai):Nat->List C:=λi=>[.val (xs.getD i ah)]
section
variable {X:Cx P}
def AW.CW{Q:Post}{φ':ι->Fr}{σ':ι->List bd}(h:∀s a,ck N σ s φ a->aD σ s->∃(i:ι)(s':St),s'.w=s.w/\ck N (σ' i) s' (φ' i) a/\aD (σ' i) s'/\Step σ s (σ' i) s')(k:∀i,AW X N c Q (φ' i) (σ' i)):AW X N c Q φ σ:=by intro s a l hh b kk cs S hb hQ;obtain⟨i,s',n,j,f,st⟩:=h s a l hh;have d:=st.n3 hh;refine .ghost (.of hh f n d) ?_;exact k i s' a j f b kk cs S hb λe g σ2 s2 a2 q m h2 oe=>hQ e g σ2 s2 a2 q m h2 (d.trans oe)
def AK.Sx(l:Nat){B:bd}(B':ι->bd)(hl:σ[l]?=aa B)(h:∀s L,eH σ s B L->∃i,(∀σ',eH σ' s (B' i) L)/\hU B L (B' i) L)(kk:∀i,AK X N Qf (.code c::K) .normal φ (σ.set l (B' i))):AK X N Qf (.code c::K) .normal φ σ:=by
 refine AW.CW (φ':=λ_=>φ) (σ':=λi=>σ.set l (B' i)) (λs a j hh=>?_) kk;have f:l<σ.length:=(b8.1 hl).1;have g:l<s.β.length:=by rw[hh.len];grind
 have d:=bm g;generalize s.β[l]=L at d;obtain⟨i,hi,k⟩:=h s L (hh.box l _ L hl d);have ex:Ext σ s (σ.set l (B' i)) s:=by
  refine⟨λ_ _ _ h=>h,λl' B2 L' lQ gm=>?_⟩;by_cases e:l=l'
  .subst e;rw[hl]at lQ;cases lQ;rw[d]at gm;cases gm;exact⟨B' i,_,by grind,d,k⟩
  .exact⟨B2,L',by grind,gm,.refl _ _⟩
 have st:Step σ s (σ.set l (B' i)) s :=
  ⟨aZ _,λ_ _ _=>rfl,λ_ _ _ h=>h,λ_ _ _ _=>rfl,λL h b hb=>.inr ⟨L,h,hb⟩,ex.box,rfl,rfl,rfl,rfl⟩
 refine⟨i,s,rfl,⟨j.size,j.defers.imp λ_ h1=>h1.mono st.ext,λu=>(j.slot u).mono st.ext hh.len⟩,⟨hh.mem,by simp[hh.len],?_,hh.eU,hh.lt,hh.own⟩,st⟩;intro l' B2 L' lQ gm;by_cases e:l=l'
 .subst e;rw[fQ f]at lQ;cases lQ;rw[d]at gm;cases gm;exact hi _
 .rw[kF e]at lQ;exact(hh.box l' B2 L' lQ gm).carry ex hh.len λ_ _=>⟨rfl,λ_=>rfl⟩
def AK.HU(l:Nat)(H':ι->ai->(Nat->Option Obj)->Prop)(hl:σ[l]?=aa (.cf H))(h:∀v ch,H v ch->∃i,H' i v ch)(kk:∀i,AK X N Qf (.code c::K) .normal φ (σ.set l (.cf (H' i)))):AK X N Qf (.code c::K) .normal φ σ :=
 AK.Sx l (λi=>.cf (H' i)) hl (λs L ⟨ch,a,b⟩=>let ⟨i,hi⟩:=h _ _ a;⟨i,λ_=>⟨ch,hi,b⟩,rfl⟩) kk
def AK.Sy(l:Nat){E:Nat}(es':Nat->List C)(hl:σ[l]?=aa (.buf E k n es))(p:∀i,i<n->(es' i).length=k)(h:∀(M:Mem) (i:Nat),i<n->∀(j:Nat) a,(es' i)[j]?=aa a->∃c,(es i)[j]?=aa c/\∀v,Rd M v c->Rd M v a)(kk:AK X N Qf (.code c::K) .normal φ (σ.set l (.buf E k n es'))):AK X N Qf (.code c::K) .normal φ σ:=by
 refine AK.Sx (ι:=Unit) l (λ_=>.buf E k n es') hl (λs L hb=>⟨(),λσ'=>?_,λ_=>rfl,aZ _⟩) λ_=>kk;rcases hb with x|⟨b,o,vs,w,h1,h2,f,t,u,e,g⟩
 .exact .inl x
 .refine .inr ⟨b,o,vs,w,h1,h2,f,t,u,⟨e.len,p,λi hi j a hj=>?_⟩,g⟩;obtain⟨c,r,m⟩:=h s.M i hi j a hj;obtain⟨v,q,d⟩:=e.rd i hi j c r;exact⟨v,q,m v d⟩
end
def tO:C->Bool
 |.int _ _|.bool _|.str _|.oG|.oI|.y7|.val _=>ab
 |_=>ae
def uR:A->Bool
 |.c x=>tO x
 |.any=>ab
 |_=>ae
def L9:List A->Bool
 |[]=>ab
 |a::r=>match uR a with|true=>L9 r|false=>ae
def HT:E1->Bool
 |.one a=>uR a
 |.agg cs=>L9 cs
def EB:List E1->Bool
 |[]=>ab
 |a::r=>match HT a with|true=>EB r|false=>ae
def Ma:D->Bool
 |.e x=>HT x
 |.fw xs=>EB xs
 |.any=>ab
section
theorem pE{M':Mem}{c:C}(h:tO c=ab)(r:Rd M v c):Rd M' v c:=by
 cases r<;>first|(simp[tO]at h;done)|skip
 case int h1=>exact .int h1
 case bool=>exact .bool
 case str h1 h2=>exact .str h1 h2
 case oG=>exact .oG
 case oI=>exact .oI
 case y7=>exact .y7
 case val h1=>exact .val h1
def EC{a:A}(h:uR a=ab)(r:gd σ s v a):gd σ' s' v a:=by
 cases a with
 |c x=>exact pE h r
 |any=>exact r
 |_=>simp[uR]at h
def ED:∀{vs:List ai}{cs:List A},L9 cs=ab->dZ σ s vs cs->dZ σ' s' vs cs
 |[],[],_,_=>trivial
 |[],_::_,_,r=>r.elim
 |_::_,[],_,r=>r.elim
 |v::vs,c::cs,h,r=>by
  simp only[L9]at h;cases a:uR c with
  |false=>grind
  |true=>simp only[a]at h;exact⟨EC a r.1,ED h r.2⟩
def y8{x:E1}(h:HT x=ab)(r:nh σ s v x):nh σ' s' v x:=by
 cases x with
 |one a=>exact EC h r
 |agg cs=>obtain⟨vs,c,b⟩:=r;exact⟨vs,c,ED h b⟩
def AQ:∀{vs:List ai}{cs:List E1},EB cs=ab->gC σ s vs cs->gC σ' s' vs cs
 |[],[],_,_=>trivial
 |[],_::_,_,r=>r.elim
 |_::_,[],_,r=>r.elim
 |v::vs,c::cs,h,r=>by
  simp only[EB]at h;cases a:HT c with
  |false=>grind
  |true=>simp only[a]at h;exact⟨y8 a r.1,AQ h r.2⟩
def Mb{d:D}(h:Ma d=ab)(r:dk σ s v d):dk σ' s' v d:=by
 cases d with
 |e x=>exact y8 h r
 |fw xs=>obtain⟨vs,b,a⟩:=r;exact⟨vs,b,AQ h a⟩
 |any=>trivial
end
def AR:List bd->Bool
 |[]=>ab
 |.cf _::r=>AR r
 |.dead::r=>AR r
 |_=>ae
def AS:∀{l:List bd},AR l=ab->∀B∈l,(∃H,B=.cf H)∨B=.dead
 |[],_,B,a=>by grind
 |b::r,h,B,a=>by
  have c:((∃H,b=.cf H)∨b=.dead)/\AR r=ab:=by cases b<;>simp_all[AR]
  rcases dK.1 a with rfl|a
  .exact c.1
  .exact AS c.2 B a
def ic(σ:List bd)(a:Nat)(u:ai)(k n:Nat)(es:Nat->List C):Prop :=
 ∀s,aD σ s->∃(L:Loc) (M':Mem),s.β[a]?=aa L/\(∀b o v,s.M b o=aa v->M' b o=aa v)/\(∀b,b∉L.bs->∀o,M' b o=s.M b o)/\(∀b o v,M' b o=aa v->s.w.cell? ⟨b,o,af⟩=aa v) /\
  (∀b∈L.bs,∀o,s.M b o=af)/\Rd M' u (.sl ae k n es)
section
variable {X:Cx P}
def cg.setAt{σ:List bd}{s:St}{d:D}:∀{vs:List ai}{ds:List D}{p:Nat}{v:ai},cg σ s vs ds->vs[p]?=aa v->dk σ s v d->cg σ s vs (ds.set p d)
 |[],[],_,_,_,h,_=>by grind
 |[],_::_,_,_,h,_,_=>h.elim
 |_::_,[],_,_,h,_,_=>h.elim
 |u::vs,e::ds,0,v,h,b,a=>by simp at b;subst b;exact⟨a,h.2⟩
 |u::vs,e::ds,p+1,v,h,b,a=>⟨h.1,cg.setAt (p:=p) h.2 (by grind) a⟩
def ju(σ:List bd)(ds EE:List D):Prop :=
 ∀s vs,aD σ s->cg σ s vs ds->∃(B:Nat->Prop) (M':Mem),(∀b,B b->∃L∈s.β,b∈L.bs)/\(∀b o v,s.M b o=aa v->M' b o=aa v)/\(∀b,¬B b->∀o,M' b o=s.M b o) /\
  (∀b o v,M' b o=aa v->s.w.cell? ⟨b,o,af⟩=aa v)/\(∀b,B b->∀o,s.M b o=af)/\cg σ {s with M:=M'} vs EE
def ju.refl(σ:List bd)(ds:List D):ju σ ds ds:=λs vs hh hr=>⟨λ_=>False,s.M,λ_ h=>h.elim,λ_ _ _ h=>h,λ_ _ _=>rfl,hh.mem,λ_ h=>h.elim,hr⟩
def ju.step{ds EE:List D}(h:ju σ ds EE)(p x:Nat){u:ai}(w:EE[p]?=aa (.e (.one (.v u))))(hl:ic σ x u k n es):ju σ ds (EE.set p (.e (.one (.c (.sl ae k n es))))):=by
 classical
 intro s vs hh hr;obtain⟨B,M1,C,q,E,A,H,m⟩:=h s vs hh hr;obtain⟨L,a,j,F,I,G,J,r⟩:=hl s hh;have h1:∀b o v,M1 b o=aa v->(M1 b o).or (a b o)=aa v:=λb o v d=>by grind
 have h2:∀b o v,a b o=aa v->(M1 b o).or (a b o)=aa v:=λb o v d=>by
  cases e:M1 b o with
  |none=>grind
  |some v' =>
   grind
 refine⟨λb=>B b∨b∈L.bs,λb o=>(M1 b o).or (a b o),?_,λb o v d=>h1 b o v (q b o v d),?_,?_,?_,?_⟩
 .grind
 .grind
 .intro b o v d;cases e:M1 b o with
  |none=>grind
  |some v'=>grind
 .grind
 .have e1:Ext σ {s with M:=M1} σ {s with M:=λb o=>(M1 b o).or (a b o)}:=⟨h1,λl B L z j=>⟨B,L,z,j,.refl _ _⟩⟩
  have t:=m.mono e1 hh.len;obtain⟨y,f⟩:=cg.get m;have g:p<vs.length:=by grind
  have i:vs[p]?=aa u:=by have:=f p;rw[w,bm g]at this;have:=Rd.fj (show Rd M1 vs[p] (.val u)from this);grind
  exact t.setAt i (show dk σ {s with M:=λb o=>(M1 b o).or (a b o)} u (.e (.one (.c (.sl ae k n es))))from Rd.mono h2 r)
end
def iL(E:aw)(k:Nat)(bf:tP)(n:Nat)(xs:List ai):ai->(Nat->Option Obj)->Prop:=λv a=>v=.nilFunc/\(∀x∈xs,cW x=ab)/\xs.length=n*k/\match bf with
 |.nil _=>n=0/\a=λ_=>af
 |.row b cap=>n<=cap/\cap<=9223372036854775807/\∃c,(xs++c).length=cap*k/\a=λd=>if d=b then aa (.cells (xs++c).toArray E (0,0))else af
def sh(k:Nat)(xs:List ai):Nat->List C:=λi=>((xs.drop (i*k)).take k).map .val
def AT{xs:List ai}(a:xs.length=n*k)(hi:i<n):(sh k xs i).length=k:=by
 have:i*k+k<=n*k:=by rw[<-kH];exact eu _ hi
 simp[sh,a];omega
def AU{xs:List ai}{c:C}(h:(sh k xs i)[j]?=aa c):∃u,xs[i*k+j]?=aa u/\c=.val u:=by simp only[sh,nq,fR,oy]at h;grind
def iL.lookup{cap:Nat}{xs:List ai}{ch:Nat->Option Obj}(h:iL E k (.row b cap) n xs v ch):∃a,(xs++a).length=cap*k/\ch b=aa (.cells (xs++a).toArray E (0,0))/\∀c,(ch c).isSome=ab↔c=b:=by obtain⟨_,_,_,_,_,a,h1,h2⟩:=h;grind
def Rd.Sz{cap:Nat}{xs:List ai}(d:∀x∈xs,cW x=ab)(hl:xs.length=n*k)(f:n<=cap)(e:cap<=9223372036854775807)(h:∀o,M b o=xs[o]?):Rd M (.slice (aa ⟨b,0,af⟩) n cap) (.sl ae k n (sh k xs)):=by refine Rd.qm (M:=M) (k:=k) (n:=n) (es:=sh k xs) (vs:=xs) (a:=aa ⟨b,0,af⟩) (b:=b) (off:=0) (cap:=cap) (t:=ae) ⟨hl,λi hi=>AT hl hi,λi hi j c hj=>?_⟩ (λ_=>rfl) f e (by simp) (λp u g=>by grind);obtain⟨u,h1,rfl⟩:=AU hj;exact⟨u,h1,.val (d u (bH h1))⟩
section
variable {X:Cx P}
def iL.EF{f:Nat}{bf:tP}{xs:List ai}(hl:σ[f]?=aa (.cf (iL E k bf n xs)))(es:Nat->List C)(q:∀i,i<n->(es i).length=k/\∀M j c x,(es i)[j]?=aa c->xs[i*k+j]?=aa x->Rd M x c):ic σ f (se bf n) k n es:=by
 intro s hh;have J:f<σ.length:=(b8.1 hl).1;have m:f<s.β.length:=by rw[hh.len];grind
 have z:=bm m;generalize s.β[f]=L at z;obtain⟨ch,B,d,D,e⟩:=hh.box f _ L hl z;cases bf with
 |nil a0 =>
  obtain⟨_,_,_,rfl,_⟩:=B;exact⟨L,s.M,z,λ_ _ _ h=>h,λ_ _ _=>rfl,hh.mem,e,Rd.jr⟩
 |row b cap =>
  obtain⟨S,Q,y,I⟩:=B.lookup;obtain⟨O,H,l,w,G,_⟩:=B;have A:b∈L.bs:=(D b).2 (by grind)
  have g:=d b _ y;obtain⟨c1,c2⟩:=hh.y0 (b:=b) (vs:=xs) (e b A) (λo v ho=>by
   simp only[aV,g]
   grind)
  refine⟨L,λF o=>if F=b then xs[o]? else s.M F o,z,c2,λF N o=>a9 (by grind),c1.mem,e,?_⟩;refine Rd.qm (k:=k) (n:=n) (es:=es) (vs:=xs) (a:=aa ⟨b,0,af⟩) (b:=b) (off:=0) (cap:=cap) (t:=ae) ⟨l,λi hi=>(q i hi).1,λi hi j c hj=>?_⟩ (λ_=>rfl) w G (by simp) (λp u R=>by grind);have K:j<k:=by grind
  have r:i*k+j<xs.length:=by
   rw[l];have:i*k+k<=n*k:=by rw[<-kH];exact eu _ hi
   omega
  exact⟨xs[i*k+j],bm r,(q i hi).2 _ j c _ hj (bm r)⟩
def jL.qt(h:lr P o x y E ie)(hs:ie.size=k){bf:tP}{xs:List ai}(hx:bJ φ x=.e (.one (.v (se bf n))))(hl:σ[l]?=aa (.cf (iL E k bf n xs))){tx:Bool}{es':Nat->List C}(hy:bJ φ y=.e (.one (.c (.sl tx k 1 es')))){xv:List ai}(hxv:xv.length=k)(hcx:∀(M:Mem) (v:ai) (j:Nat) (c:C),(es' 0)[j]?=aa c->Rd M v c->xv[j]?=aa v/\cW v=ab)(hb:(n+1)*ie.bytes<=140737488355328):
  jL P N o φ σ (λU:tP=>.e (.one (.v (se U (n+1))))) λU=>σ.set l (.cf (iL E k U (n+1) (xs++xv))):=by
 intro s a hf hh;obtain⟨t,t2,i,i2,ho,hi,D,G,B⟩:=h.op;have Pm:l<σ.length:=(b8.1 hl).1;have Pn:l<s.β.length:=by rw[hh.len];grind
 have Z:=bm Pn;generalize s.β[l]=L at Z;obtain⟨ch,V,O,Sm,ZG⟩:=hh.box l _ L hl Z;have J:=bH Z;have R:=cY hf x;rw[hx]at R;have R:=Rd.fj R;have hw:=cY hf y;rw[hy]at hw;have hw:=fH hw;have K:=V.2.1;have S:=V.2.2.1;have nM:∀b,s.w.heap.size<=b->∀o,s.M b o=af:=λb hb o=>by
  cases hm:s.M b o with
  |none=>rfl
  |some v=>have:=hh.block hm;omega
 have mk:∀(M':Mem) (a0:Option Addr) (cap:Nat),se bf n=.slice a0 n cap->cap<n+1->aD (σ.map λ_=>.dead) {s with M:=M'}->(∀f o v,s.M f o=aa v->M' f o=aa v) ->
   Rd M' (.slice a0 n cap) (.sl ae k n (sh k xs))->(∀{es},ey {s with M:=M'} es->ey s es) ->
   ∃i nx s' v,(ak a.eval o).run P s.w=.ok nx s'.w/\(nx=.value v∨(nx=.skip/\v=ah))/\dk (σ.set l (.cf (iL E k i (n+1) (xs++xv)))) s' v (.e (.one (.v (se i (n+1)))))/\aD (σ.set l (.cf (iL E k i (n+1) (xs++xv)))) s'/\Step σ s (σ.set l (.cf (iL E k i (n+1) (xs++xv)))) s'/\ey s ((ak a.eval o).events P s.w #[]):=by
  intro M' a0 cap ZH F1 LH ZI hR U5;have H:Rd ({s with M:=M'}:St).M (a.eval y) (.sl tx ie.size 1 es'):=by rw[hs];exact hw.mono ZI
  have Y:Rd ({s with M:=M'}:St).M (.slice a0 n cap) (.sl ae ie.size n (sh k xs)):=by grind
  obtain⟨vs,g,r,A,W,f3,f4,f5⟩:=ia (P:=P) (s:={s with M:=M'}) (ty:=o.type) hi D G B h.elem LH Y H F1 hb h.bytes;have f6:=iJ (P:=P) (s:={s with M:=M'}) (ty:=o.type) hi D G B h.elem LH Y H F1 hb h.bytes;rw[hs]at A f4;have Oo:vs.length=(n+1)*k:=A.len;have CQ:xs.length+k=(n+1)*k:=by grind
  have ZJ:0<k:=by have:=h.size;omega
  have RU:∀j,j<k->∃v,vs[n*k+j]?=aa v/\xv[j]?=aa v/\cW v=ab:=λj hj=>by
   have Pt:=A.width n (by omega);have ZK:cy n (sh k xs) es' n=es' 0:=by simp[cy]
   rw[ZK]at Pt;obtain⟨v,v1,v2⟩:=A.rd n (by omega) j ((es' 0)[j]'(by omega)) (by grind);grind
  have RV:vs=xs++xv:=by
   apply gK;intro q;by_cases e:q<xs.length
   .have hi:q / k<n:=pn (by grind);have Sl:q / k*k+q % k=q:=pr q k;have ZL:=AT (k:=k) S hi;have hap:cy n (sh k xs) es' (q / k)=sh k xs (q / k):=by simp[cy,hi]
    have ZM:q % k<(sh k xs (q / k)).length:=by rw[ZL];exact jo _ ZJ
    obtain⟨v,v1,v2⟩:=A.rd (q / k) (by omega) (q % k) ((sh k xs (q / k))[q % k]) (by grind);obtain⟨u,u1,u2⟩:=AU (bm ZM);grind[Rd.fj]
   grind
  subst RV;have VO:∀x∈xv,cW x=ab:=λx hx=>by grind[List.getElem_of_mem]
  let w':aA:=s.w.drew.alloc (.cells (xs++xv++g).toArray E);have Pu:w'.heap[s.w.heap.size]?=aa (.cells (xs++xv++g).toArray E (0,0)):=dF s.w.drew _;have Ps:w'.heap.size=s.w.heap.size+1:=by show(s.w.drew.heap.push _).size=_;simp
  obtain⟨t1,Q⟩:=hh.iD (l:=l) (H':=iL E k (.row s.w.heap.size r) (n+1) (xs++xv)) (L':=⟨L.v,[s.w.heap.size]⟩) (w':=w') hl Z rfl (by omega)
   (λb hb _=>cM s.w.drew _ hb) (λb hb=>by grind)
   ⟨λf=>if f=s.w.heap.size then aa (.cells (xs++xv++g).toArray E (0,0))else af,⟨V.1,λx hx=>by
    grind,by grind,W,f3,g,by rw[f4],rfl⟩,λb o hb=>by grind,λb=>by by_cases e:b=s.w.heap.size<;>simp[e]⟩ rfl rfl rfl
  refine⟨.row s.w.heap.size r,.value (.slice (aa ⟨s.w.heap.size,0,af⟩) (n+1) r),_,_,?_,.inl rfl,Rd.val rfl,t1,Q,?_⟩
  .rw[db ho,R,ZH];simp only[bO,cT];have ZN:(Builtin.append_ #[t,t2] o.type #[.slice a0 n cap,a.eval y]).run P s.w=_:=f5;rw[ZN];rfl
  grind[db,ek]
 cases bf with
 |nil a0 =>
  obtain⟨_,_,_,rfl,_⟩:=V;refine mk s.M a0 0 rfl (by simp) (by have:=hh.kU;exact⟨this.mem,this.len,this.box,this.eU,this.lt,this.own⟩) (λ_ _ _ h=>h) Rd.jr (λh=>h)
 |row b cap =>
  obtain⟨g,VP,Pv,SA⟩:=V.lookup;obtain⟨Po,_,_,F1,LW,_⟩:=V;have F:b∈L.bs:=(Sm b).2 (by grind);have p:=O b _ Pv;have XZ:=ZG b F;have VQ:b<s.w.heap.size:=hh.lt L J b F;have On:∀o v,xs[o]?=aa v->s.w.cell? ⟨b,o,af⟩=aa v:=by intro o v ho;simp only[aV,p];grind
  obtain⟨c1,c2⟩:=hh.y0 (b:=b) (vs:=xs) XZ On;have U5:∀{es:Array Event},ey {s with M:=λf o=>if f=b then xs[o]? else s.M f o} es->ey s es:=λhe =>
   he.uN (b:=b) J F c2 λf o v R=>by grind
  have hR:=Rd.Sz (M:=λf o=>if f=b then xs[o]? else s.M f o) (b:=b) (cap:=cap) (xs:=xs) K S F1 LW (λo=>by simp);by_cases m:n+1<=cap
  .have H:Rd ({s with M:=λf o=>if f=b then xs[o]? else s.M f o}:St).M (a.eval y) (.sl tx ie.size 1 es'):=by rw[hs];exact hw.mono c2
   obtain⟨d,A,W⟩:=jT (P:=P) (s:={s with M:=λf o=>if f=b then xs[o]? else s.M f o}) (ty:=o.type) (n:=n) (b:=b) (cap:=cap) hi D G B h.elem c1 p (by grind) H m;have f6:=lu (P:=P) (s:=s) (ty:=o.type) (n:=n) (b:=b) (cap:=cap) hi D G B h.elem hh p (by grind) (x:=a.eval y) (tx:=tx) (es':=es') (by grind) m J F (λo _=>XZ o);rw[hs]at A W;have RS:d.length=k:=by have:=A.len;omega
   have ZO:=A.width 0 (by omega);have RU:∀j,j<k->∃v,d[j]?=aa v/\xv[j]?=aa v/\cW v=ab:=λj hj=>by obtain⟨v,v1,v2⟩:=A.rd 0 (by omega) j ((es' 0)[j]'(by omega)) (bm (by omega));grind
   have T:d=xv:=by apply gK;grind
   subst T;have VO:∀x∈d,cW x=ab:=λx hx=>by grind[List.getElem_of_mem]
   have hfk:n*k+k<=cap*k:=by rw[<-kH];exact eu _ m
   have hzk:k<=g.length:=by grind
   have I:((xs++g).take (n*k)++d++(xs++g).drop (n*k+d.length))=xs++d++g.drop k:=by rw[<-S,RS];simp[List.drop_append]
   rw[I]at W;have VR:(s.w.setRow b (xs++d++g.drop k).toArray).heap[b]?=aa (.cells (xs++d++g.drop k).toArray E (0,0)):=setRow_heap s.w b _ _ E _ p;have CX:∀f,f≠b->(s.w.setRow b (xs++d++g.drop k).toArray).heap[f]?=s.w.heap[f]?:=λf z=>setRow_other s.w b f _ z;obtain⟨t1,Q⟩:=hh.iD (l:=l) (H':=iL E k (.row b cap) (n+1) (xs++d)) (L':=L) (w':=s.w.setRow b (xs++d++g.drop k).toArray) hl Z rfl (by simp)
    (λf z hn=>CX f (by grind)) (λf z=>.inl z)
    ⟨λf=>if f=b then aa (.cells (xs++d++g.drop k).toArray E (0,0))else af,⟨Po,λx hx=>by
     grind,by grind,m,LW,g.drop k,by grind,rfl⟩,λf o z=>by
     grind,λf=>by grind⟩ rfl rfl rfl
   refine⟨.row b cap,.value (.slice (aa ⟨b,0,af⟩) (n+1) cap),_,_,?_,.inl rfl,Rd.val rfl,t1,Q,?_⟩
   .rw[db ho,R];simp only[bO,cT,se];have ZP:(Builtin.append_ #[t,t2] o.type #[.slice (aa ⟨b,0,af⟩) n cap,a.eval y]).run P s.w=_:=W;rw[ZP];rfl
   .rw[db ho,R];exact ek f6
  .exact mk _ (aa ⟨b,0,af⟩) cap rfl (by omega) c1 c2 hR U5
def AK.qt(h:lr P o x y E ie)(p:ie.size=k){d:Nat}(m:o.dst=aa d)(r:o.guard=af)(i:fD N o.dst=ab){bf:tP}{xs:List ai}(g:bJ φ x=.e (.one (.v (se bf n))))(hl:σ[l]?=aa (.cf (iL E k bf n xs))){tx:Bool}{es':Nat->List C}(q:bJ φ y=.e (.one (.c (.sl tx k 1 es')))){xv:List ai}(f:xv.length=k)(b:∀(M:Mem) (v:ai) (j:Nat) (c:C),(es' 0)[j]?=aa c->Rd M v c->xv[j]?=aa v/\cW v=ab)(hb:(n+1)*ie.bytes<=140737488355328)(kk:∀a:tP,AK X N Qf (.ops all rest::K) .normal ((d,.e (.one (.v (se a (n+1)))))::φ) (σ.set l (.cf (iL E k a (n+1) (xs++xv))))):AK X N Qf (.ops all (o::rest)::K) .normal φ σ :=
 AK.hand (ι:=tP) (λa=>.e (.one (.v (se a (n+1))))) (λa=>σ.set l (.cf (iL E k a (n+1) (xs++xv)))) r i (.qt h p g hl q f b hb) λa=>by rw[m];exact kk a
def AK.Md(t:Nat)(E:aw)(k:Nat){i:Nat}(g:look φ t=.e (.one (.c (.sl ab i 0 es))))(kk:∀bf:tP,AK X N Qf (.code c::K) .normal ((t,.e (.one (.v (se bf 0))))::φ) (σ++[.cf (iL E k bf 0 [])])):AK X N Qf (.code c::K) .normal φ σ:=by
 refine AW.CW (λs a d hh=>?_) kk;have f:=d.slot t;rw[g]at f;obtain⟨a0,cap,vs,h,_,_,b,_,_⟩:=(fH f).flat;have b:=b rfl;subst b;obtain⟨j,g2⟩:=hh.gx (B:=.cf (iL E k (.nil a0) 0 [])) (L:=⟨.nilFunc,[]⟩) (.refl _ _) rfl hh ⟨λ_=>af,⟨rfl,by simp,by simp,rfl,rfl⟩,by simp,by simp,by simp⟩ (by simp);refine⟨.nil a0,{s with β:=s.β++[⟨.nilFunc,[]⟩]},rfl,⟨d.size,d.defers.imp λ_ h1=>h1.mono g2.ext,λu=>?_⟩,j,g2⟩;simp only[look];cases hb:av t u with
 |false=>exact(d.slot u).mono g2.ext hh.len
 |true =>
  have e:=bX hb;subst e;show Rd _ _ _;rw[h];exact Rd.val rfl
def AK.uS(t l:Nat){bf:tP}{xs:List ai}(es:Nat->List C)(w:look φ t=.e (.one (.v (se bf n))))(hl:σ[l]?=aa (.cf (iL E k bf n xs)))(g:∀i,i<n->(es i).length=k/\∀M j c x,(es i)[j]?=aa c->xs[i*k+j]?=aa x->Rd M x c)(kk:AK X N Qf (.code c::K) .normal ((t,.e (.one (.c (.sl ae k n es))))::φ) (σ.set l .dead)):AK X N Qf (.code c::K) .normal φ σ:=by
 refine AK.ghost (λs a f hh=>?_) kk;obtain⟨L,M',p,m,q,z,G,F⟩:=iL.EF hl es g s hh;have d:l<σ.length:=(b8.1 hl).1;have r:=f.slot t;rw[w]at r;have D:=Rd.fj r;have ex:Ext σ s (σ.set l .dead) {s with M:=M'}:=by
  refine⟨m,λl' B L' lQ gm=>?_⟩;by_cases e:l=l'
  .subst e;rw[hl]at lQ;cases lQ;exact⟨.dead,L',by grind,gm,rfl⟩
  .exact⟨B,L',by grind,gm,.refl _ _⟩
 have st:Step σ s (σ.set l .dead) {s with M:=M'}:=by refine⟨aZ _,λ_ _ _=>rfl,m,λb _ A o=>q b (A L (bH p)) o,λL h b hb=>.inr ⟨L,h,hb⟩,ex.box,rfl,rfl,rfl,rfl⟩
 refine⟨{s with M:=M'},rfl,⟨f.size,f.defers.imp λ_ h1=>h1.mono st.ext,λu=>?_⟩,⟨z,by simp[hh.len],?_,hh.eU,hh.lt,hh.own⟩,st⟩
 .simp only[look];cases hb:av t u with
  |false=>exact(f.slot u).mono st.ext hh.len
  |true =>
   have e:=bX hb;subst e;show Rd _ _ _;grind
 .intro l' B L' lQ gm;by_cases e:l=l'
  .subst e;rw[fQ d]at lQ;cases lQ;trivial
  .rw[kF e]at lQ;exact(hh.box l' B L' lQ gm).carry ex hh.len λb hb=>⟨rfl,q b λy=>e (hh.eU l l' L L' p gm b y hb)⟩
end
structure ig(k n:Nat)(es:Nat->List C)(xs:List ai):Prop where
 len:xs.length=n*k
 wid:∀i,i<n->(es i).length=k
 at':∀i,i<n->∀j c,(es i)[j]?=aa c->∃x,xs[i*k+j]?=aa x/\∀M,Rd M x c
def ig.rd{xs:List ai}(h:ig k n es xs):∀i,i<n->(es i).length=k/\∀M j c x,(es i)[j]?=aa c->xs[i*k+j]?=aa x->Rd M x c:=λi hi =>
 ⟨h.wid i hi,λM j c x hj hx=>by obtain⟨y,h1,h2⟩:=h.at' i hi j c hj;grind⟩
def OO(v:ai):A->A
 |.vec 0 _ _ _=>.v v
 |a=>a
def Jb(v:ai):E1->E1
 |.one a=>.one (OO v a)
 |e=>e
def Dp(v:ai):List E1->List E1
 |[]=>[]
 |a::r=>Jb v a::Dp v r
def OP(v:ai):D->D
 |.e x=>.e (Jb v x)
 |.fw xs=>.fw (Dp v xs)
 |.any=>.any
def l9(n:Nat):A->Bool
 |.vec 0 _ b _=>av b n
 |a=>uR a
def pR(n:Nat):E1->Bool
 |.one a=>l9 n a
 |e=>HT e
def oT(n:Nat):List E1->Bool
 |[]=>ab
 |a::r=>match pR n a with|true=>oT n r|false=>ae
def uC(n:Nat):D->Bool
 |.e x=>pR n x
 |.fw xs=>oT n xs
 |.any=>ab
section
variable {L:Loc}
def Jc(g:s.β[0]?=aa L){a:A}(h:l9 n a=ab)(r:gd [bd.vec E k n es] s v a):gd σ' s' v (OO L.v a):=by
 cases a with
 |c x=>exact pE h r
 |any=>exact r
 |vec l k' n' es' =>
  cases l with
  |zero =>
   obtain⟨i,_,b⟩:=r;have b:=b E k n es rfl;have e:=bX h;obtain⟨L',d,f⟩:=b.2 e.symm;rw[g]at d;cases d;show Rd _ _ _;rw[f];exact .val (f▸i.cell)
  |succ l=>simp[l9,uR]at h
 |ptr=>simp[l9,uR]at h
 |ref=>simp[l9,uR]at h
 |bp=>simp[l9,uR]at h
def Bu(b:s.β[0]?=aa L){x:E1}(h:pR n x=ab)(r:nh [bd.vec E k n es] s v x):nh σ' s' v (Jb L.v x):=by
 cases x with
 |one a=>exact Jc b h r
 |agg cs=>exact y8 (x:=.agg cs) h r
def x8(a:s.β[0]?=aa L):∀{vs:List ai}{cs:List E1},oT n cs=ab->gC [bd.vec E k n es] s vs cs->gC σ' s' vs (Dp L.v cs)
 |[],[],_,_=>trivial
 |[],_::_,_,r=>r.elim
 |_::_,[],_,r=>r.elim
 |v::vs,c::cs,h,r=>by
  simp only[oT]at h;cases b:pR n c with
  |false=>grind
  |true=>simp only[b]at h;exact⟨Bu a b r.1,x8 a h r.2⟩
def Bv(a:s.β[0]?=aa L){d:D}(h:uC n d=ab)(r:dk [bd.vec E k n es] s v d):dk σ' s' v (OP L.v d):=by
 cases d with
 |e x=>exact Bu a h r
 |fw xs=>obtain⟨vs,c,b⟩:=r;exact⟨vs,c,x8 a h b⟩
 |any=>trivial
end
def uD:List ResultVar->Bool
 |[]=>ab
 |.tmp _::r=>uD r
 |.cell _ _::_=>ae
def tv{P:aM}{a:Act}:∀{rs:List ResultVar},uD rs=ab->∃vs,(∀w,(rs.mapM (fT a)).run P w=Result.ok vs w)/\cV P (rs.mapM (fT a))
 |[],_=>⟨[],by simp,by rw[List.mapM_nil];exact .pure⟩
 |.tmp t::r,h=>by
  obtain⟨vs,c,b⟩:=tv (P:=P) (a:=a) (rs:=r) h;refine⟨a.tmps.getD t ah::vs,λw=>?_,?_⟩
  .simp only[kQ,bO,fT,cT,b9,c]
  .rw[kQ];exact .bind .pure λ_=>.bind b λ_=>.pure
def tL.tmp{f:aJ}{fn:Func}{fr:aU}(h:tL P f fr v s)(p:P.funcs[f]?=aa fn)(j:uD fn.results.toList=ab)(hm:∀b o u,s.M b o=aa u->s.w.cell? ⟨b,o,af⟩=aa u):tL P f fr v s':=by
 obtain⟨h1,h2,i,l,c,n,m⟩:=h;have e:c=fn:=by grind
 subst e;let a:Act:={tmps:=fr.tmps,defers:=[]}
 obtain⟨vs,k1,g⟩:=tv (P:=P) (a:=a) j;have e1:∀w,(c.results.mapM (fT a)).run P w=Result.ok vs.toArray w:=λw=>by grind[Array.mapM_eq_mapM_toList,Sem.run_map,Go.Result.andThen_ok]
 have e2:∀w,(results c fr.tmps).run P w=.ok (if h:vs.toArray.size=1 then vs.toArray[0]else .tuple vs.toArray) w:=λw=>by unfold results;rw[bO];refine(dA (λr=>Result.andThen r _) (e1 w)).trans ?_;simp
 have e3:cV P (results c fr.tmps):=by
  unfold results;have e:cV P (c.results.mapM (fT a)):=by rw[qk];exact .map g
  exact .bind e λ_=>.pure
 have d:=(m s.w hm).1;rw[e2]at d;cases d;exact⟨h1,h2,i,l,c,n,λw _=>⟨e2 w,λe k=>by rw[e3 w #[]]at k;grind⟩⟩
def Ev.thaw{X:Cx P}[X.ic]{f:aJ}{args:List D}{res:D}(h:Ev X f args [] res [.vec E k n es]){fn:Func}(hf:P.funcs[f]?=aa fn)(ht:uD fn.results.toList=ab)(O:uC n res=ab)(J:∀i,i<n->(es i).length=k/\∀c∈es i,tO c=ab):
  dL (ι:={q:tP×List ai // ig k n es q.2}) X f args [] (λq=>OP (se q.1.1 n) res) (λq=>[.cf (iL E k q.1.1 n q.1.2)]):=by
 refine⟨h.1,λs vs hr hh S cs hS=>h.2 s vs hr hh S cs λfr v s' hl lR jf st=>?_⟩;have hβ0:s.β=[]:=jg hh.len;have hlen:s'.β.length=1:=jf.len;obtain⟨L,I⟩:∃L,s'.β=[L]:=by
  match hq:s'.β with
  |[L]=>grind
  |[]=>grind
  |_::_::_=>grind
 have Y:s'.β[0]?=aa L:=by grind
 obtain⟨Yf,Yc⟩:=jf.box 0 _ L rfl Y;rcases Yc with⟨⟨Sm,Z⟩,z⟩|⟨b,cap,cells,V,A,CQ,EP⟩
 .subst Z;obtain⟨a,cap,vs0,hv,F1,LW,htc,_⟩:=z.flat;have C:cap=0:=htc rfl;subst C;let t:St:={s' with β:=[⟨.nilFunc,[]⟩]}
  have hg:eK s' t:=⟨rfl,λ_ _ _ h=>h,λ_ _ _=>rfl,jf.mem,λb hb=>by grind⟩
  have y:ig k 0 es []:=⟨by simp,λi hi=>by omega,λi hi=>by omega⟩
  refine .ghost hg (hS ⟨(.nil a,[]),y⟩ fr v t (hl.tmp hf ht jf.mem) ?_ ?_ ?_)
  .have:=Bv (σ':=[bd.cf (iL E k (.nil a) 0 [])]) (s':=t) Y O lR;rw[hv]at this;exact this
  .refine⟨jf.mem,rfl,λl B L' hB gm=>?_,?_,by grind,λb hb=>⟨(jf.own b hb).1,by grind⟩⟩
   .cases l with
    |zero=>cases hB;cases gm;exact⟨λ_=>af,⟨rfl,by simp,by simp,rfl,rfl⟩,by simp,by simp,by simp⟩
    |succ l=>grind
   grind
  .refine⟨st.size,st.keep,st.mem,st.iI,λL' gm b hb=>?_,λl B L' hB=>by grind,st.os,st.tape,st.output,st.own⟩;grind
 .subst V;have K:b∈(⟨.slice (aa ⟨b,0,af⟩) n cap,[b]⟩:Loc).bs:=by simp
  have YI:s.w.heap.size<=b:=by
   rcases st.ur _ (by grind) b K with h1|⟨L0,h1,_⟩
   .exact h1
   grind
  have VQ:b<s'.w.heap.size:=jf.lt _ (by grind) b K;obtain⟨a1,abg,m,W,r,R,_,hF,hm⟩:=Yf.flat;cases W;have Q:m.length=n*k:=hF.len;have abh:∀p u,m[p]?=aa u->cells[p]?=aa u:=λp u hp=>by obtain⟨b1,abi,e,Ts⟩:=hm p u hp;cases e;have:=jf.mem _ _ _ Ts;simp only[aV,A]at this;simpa using this
  have hnk:n*k<=cells.length:=by rw[CQ];exact eu _ r
  have U:cells.take (n*k)=m:=by apply gK;grind
  have Pk:m++cells.drop (n*k)=cells:=by grind[List.take_append_drop]
  have y:ig k n es m:=by refine⟨Q,λi hi=>(J i hi).1,λi hi j c hj=>?_⟩;obtain⟨u,u1,u2⟩:=hF.rd i hi j c hj;grind[pE]
  have H:∀x∈m,cW x=ab:=λx hx=>by
   obtain⟨p,hp,rfl⟩:=dN hx;have hk:0<k:=by grind
   have hi:p / k<n:=pn (by grind);have Sl:p / k*k+p % k=p:=pr p k;have hj:p % k<(es (p / k)).length:=by rw[(J _ hi).1];exact jo _ hk
   obtain⟨u,u1,u2⟩:=y.at' _ hi _ _ (bm hj);rw[Sl,bm hp]at u1;cases u1;exact(u2 s.M).cell
  have G:∀d o v',s.M d o=aa v'->d≠b:=λd o v' hm' e=>by have:=hh.block hm';omega
  let N:Mem:=λd o=>if d=b then af else s'.M d o;let s1:St:={s' with β:=[],own:=λx=>s'.own x∨x=b}
  let s2:St:={s1 with M:=N}
  let t:St:={s' with β:=[⟨.nilFunc,[b]⟩],M:=N}
  have F:∀d o v',N d o=aa v'->s'.M d o=aa v':=λd o v' h'=>by grind
  have T:eK s' s1:=⟨rfl,λ_ _ _ h=>h,λ_ _ _=>rfl,jf.mem,λd g=>by
   rcases g with(g|g)|⟨L',gm,_⟩
   .grind
   .exact .inr ⟨_,by rw[I];simp;rfl,by grind⟩
   grind⟩
  have Vb:mz s1 s2:=⟨rfl,rfl,rfl,F,λd o v' h'=>by grind⟩
  have hg3:eK s2 t:=⟨rfl,λ_ _ _ h=>h,λ_ _ _=>rfl,λd o v' h'=>jf.mem _ _ _ (F _ _ _ h'),λd g=>by grind⟩
  refine .ghost T (.forget Cx.ic.ok Vb (.ghost hg3 (hS ⟨(.row b cap,m),y⟩ fr v t (hl.tmp hf ht jf.mem) ?_ ?_ ?_)))
  .exact Bv (L:=⟨.slice (aa ⟨b,0,af⟩) n cap,[b]⟩) Y O lR
  .refine⟨λd o v' h'=>jf.mem _ _ _ (F _ _ _ h'),rfl,λl B L' hB gm=>?_,?_,λL' gm d g=>?_,λd g=>⟨(jf.own d g).1,λL' gm=>?_⟩⟩
   .cases l with
    |zero =>
     cases hB;cases gm;refine⟨λd=>if d=b then aa (.cells (m++cells.drop (n*k)).toArray E (0,0))else af,⟨rfl,H,Q,r,R,cells.drop (n*k),?_,rfl⟩,λd o g=>?_,λd=>?_,λd g o=>?_⟩
     .grind
     .grind
     .by_cases e:d=b<;>simp[e]
     grind
    |succ l=>grind
   .grind
   .grind
   .simp[t]at gm;subst gm;have:=(jf.own d g).2 _ (by rw[I];simp;rfl);grind
  .refine⟨st.size,st.keep,λd o v' h'=>?_,λd g hn o=>?_,λL' gm d g=>?_,λl B L' hB=>by grind,st.os,st.tape,st.output,st.own⟩
   .simp only[t,N,a9 (G d o v' h')];exact st.mem _ _ _ h'
   .have:d≠b:=by omega
    simp only[t,N,a9 this];exact st.iI d g hn o
   grind
section
variable {X:Cx P}
def AK.fact{p:Prop}(h:∀s,aD σ s->p)(k:p->AK X N Qf (.code c::K) .normal φ σ):AK X N Qf (.code c::K) .normal φ σ :=
 λs a b hh=>k (h s hh) s a b hh
def AK.Ot{p:Prop}(h:∀s,aD σ s->p)(k:p->AK X N Qf (.ops all rest::K) .normal φ σ):AK X N Qf (.ops all rest::K) .normal φ σ :=
 λs a b hh=>k (h s hh) s a b hh
def iL.len{E:aw}{k n l:Nat}{bf:tP}{xs:List ai}(hl:σ[l]?=aa (.cf (iL E k bf n xs)))(s:St)(hh:aD σ s):xs.length=n*k/\n<=9223372036854775807/\(0<n->∃b cap,bf=.row b cap)/\∀a,bf=.nil a->n=0:=by
 have c:l<s.β.length:=by rw[hh.len];grind
 obtain⟨ch,e,_⟩:=hh.box l _ _ hl (bm c);cases bf with
 |nil a=>obtain⟨_,_,f,rfl,_⟩:=e;grind
 |row b cap=>obtain⟨_,_,f,g,h,_⟩:=e;grind
def qb:List A->Bool
 |[]=>ab
 |.c x::r=>match tO x with|true=>qb r|false=>ae
 |_=>ae
def nA(vs:List ai)(cs:List A):Prop:=vs.length=cs.length/\∀(j:Nat)(c:C),cs[j]?=aa (A.c c)->∃v,vs[j]?=aa v/\∀M,Rd M v c
theorem nA.of{σ:List bd}{s:St}:∀{vs:List ai}{cs:List A},qb cs=ab->dZ σ s vs cs->nA vs cs
 |[],[],_,_=>⟨rfl,λj c h=>by grind⟩
 |[],_::_,_,r=>r.elim
 |_::_,[],_,r=>r.elim
 |v::vs,.c x::cs,h,r=>by
  simp only[qb]at h;cases a:tO x with
  |false=>grind
  |true =>
   simp only[a]at h;obtain⟨h1,h2⟩:=nA.of h r.2;refine⟨by grind,λj c hj=>?_⟩;cases j with
   |zero=>simp at hj;subst hj;exact⟨v,rfl,λM=>pE a r.1⟩
   |succ j=>grind
 |_::_,.ptr _ _::_,h,_=>by simp[qb]at h
 |_::_,.vec _ _ _ _::_,h,_=>by simp[qb]at h
 |_::_,.ref _::_,h,_=>by simp[qb]at h
 |_::_,.bp _ _::_,h,_=>by simp[qb]at h
 |_::_,.any::_,h,_=>by simp[qb]at h
theorem dZ.cW{σ:List bd}{s:St}:∀{vs:List ai}{cs:List A},dZ σ s vs cs->∀v∈vs,AM.cW v=ab
 |[],[],_,v,h=>by grind
 |[],_::_,r,_,_=>r.elim
 |_::_,[],r,_,_=>r.elim
 |u::vs,c::cs,r,v,h=>by
  rcases dK.1 h with rfl|h
  .exact gd.cell r.1
  .exact dZ.cW r.2 v h
def jL.CY(hT:c8 P T)(l:Nat){cap:Nat}{xs:List ai}{new:List A}{i:TI}(h:o.op=.store t x y)(hi:bE T t=aa i)(hx:bJ φ x=.e (.one (.v (.pointer (aa ⟨b,off,af⟩)))))(hy:kI (bJ φ y)=aa new)(Pu:new.length=i.size)(U:qb new=ab)(hl:σ[l]?=aa (.cf (iL E k (.row b cap) n xs)))(SB:off+new.length<=xs.length):
  jL P N o φ σ (ι:={vs:List ai // nA vs new}) (λ_=>.any) (λvs=>σ.set l (.cf (iL E k (.row b cap) n (xs.take off++vs.1++xs.drop (off+vs.1.length))))):=by
 intro s a hf hh;have M:=cY hf x;rw[hx]at M;have M:=Rd.fj M;have D:=ld hy (cY hf y);have Pm:l<σ.length:=(b8.1 hl).1;have H:l<s.β.length:=by rw[hh.len];grind
 have S:=bm H;generalize s.β[l]=L at S;obtain⟨ch,hH,z,V,Y⟩:=hh.box l _ L hl S;obtain⟨f,VP,R,SA⟩:=iL.lookup hH;obtain⟨W,SC,ZQ,Q,Z,_⟩:=hH;have I:b∈L.bs:=(V b).2 (by grind);have g:=z b _ R;let vs:=(a.eval y).cells.toList;have F:nA vs new:=nA.of U D;have Oo:vs.length=new.length:=F.1;have q:off+0+vs.length<=(xs++f).toArray.size:=by grind
 have B:=run_storeCells_at P b off E vs 0 (xs++f).toArray s.w g q D.cell;simp only[hI]at B;have C:(xs++f).take off++vs++(xs++f).drop (off+vs.length)=(xs.take off++vs++xs.drop (off+vs.length))++f:=by grind
 rw[C]at B;have ZR:(xs.take off++vs++xs.drop (off+vs.length)).length=xs.length:=by grind
 have VR:=setRow_heap s.w b (xs++f).toArray ((xs.take off++vs++xs.drop (off+vs.length))++f).toArray E (0,0) g;have G:∀c,c≠b->(s.w.setRow b ((xs.take off++vs++xs.drop (off+vs.length))++f).toArray).heap[c]?=s.w.heap[c]?:=λc p=>setRow_other s.w b c _ p;obtain⟨t1,t2⟩:=hh.iD (l:=l) (H':=iL E k (.row b cap) n (xs.take off++vs++xs.drop (off+vs.length))) (L':=L) (w':=s.w.setRow b ((xs.take off++vs++xs.drop (off+vs.length))++f).toArray) hl S rfl (by simp)
  (λc p hn=>G c (by grind)) (λc p=>.inl p)
  ⟨λc=>if c=b then aa (.cells ((xs.take off++vs++xs.drop (off+vs.length))++f).toArray E (0,0))else af,⟨W,λx hx=>by
   grind[dZ.cW],by grind,Q,Z,f,by grind,rfl⟩,λc o p=>by
   simp_all,λc=>by simp_all⟩ rfl rfl rfl
 have K:(a.eval y).cells.size=i.size:=by grind
 refine⟨⟨vs,F⟩,.skip,_,ah,?_,.inr ⟨rfl,rfl⟩,ar,t1,t2,?_⟩
 .have J:(storeCells ⟨b,off,af⟩ (a.eval y).cells.toList).run P s.w=_:=B;simp[ak,h,M,Instr.storeAt,Instr.sureAddr,storeVar,(hT t i hi).run_sizeOf,K,J]
 .intro ev m;have e:ak a.eval o=(do storeVar t ⟨b,off,af⟩ (a.eval y);pure .skip):=by simp[ak,h,M,Instr.storeAt,Instr.sureAddr]
  rw[e]at m;have O:ev∈(storeCells ⟨b,off,af⟩ (a.eval y).cells.toList).events P s.w #[]:=by
   simp only[storeVar,aK,(hT t i hi).run_sizeOf,K,aP,events_sizeOf,cR,fa,bM,bO,b9,Sem.events_pure]at m;generalize(storeCells ⟨b,off,af⟩ (a.eval y).cells.toList).run P s.w=r at m;cases r with
   |ok v w'=>simpa using m
   |halt x w'=>simpa using m
  rcases eh (a.eval y).cells.toList 0 (xs++f).toArray s.w #[] g q D.cell ev O with LH|⟨j,_,_,rfl⟩
  .grind
  .exact kT (bH S) I (Y b I _)
def AK.CY{T:List (Nat×TI)}(g:c8 P T)(l:Nat){t:aw}{x y:aC}{E:aw}{k n b cap off:Nat}{xs:List ai}{new:List A}{i:TI}(h:o.op=.store t x y)(hi:bE T t=aa i)(j:bJ φ x=.e (.one (.v (.pointer (aa ⟨b,off,af⟩)))))(p:kI (bJ φ y)=aa new)(c:new.length=i.size)(f:qb new=ab)(hl:σ[l]?=aa (.cf (iL E k (.row b cap) n xs)))(a:off+new.length<=xs.length)(q:o.guard=af)(m:fD N o.dst=ab)(kk:∀vs,nA vs new->AK X N Qf (.ops all rest::K) .normal (kg o.dst .any φ) (σ.set l (.cf (iL E k (.row b cap) n (xs.take off++vs++xs.drop (off+vs.length)))))):AK X N Qf (.ops all (o::rest)::K) .normal φ σ :=
 AK.hand _ _ q m (jL.CY g l h hi j p c f hl a) λvs=>kk vs.1 vs.2
def AK.swap(i j:Nat){H1 H2:ai->(Nat->Option Obj)->Prop}(F:i≠j)(hi:σ[i]?=aa (.cf H1))(hj:σ[j]?=aa (.cf H2))(h1:∀v ch,H1 v ch->v=.nilFunc)(h2:∀v ch,H2 v ch->v=.nilFunc)(kk:AK X N Qf (.code c::K) .normal φ ((σ.set i (.cf H2)).set j (.cf H1))):AK X N Qf (.code c::K) .normal φ σ:=by
 refine AK.ghost (λs a z hh=>?_) kk;have A:i<σ.length:=(b8.1 hi).1;have D:j<σ.length:=(b8.1 hj).1;have w:i<s.β.length:=by rw[hh.len];grind
 have p:j<s.β.length:=by rw[hh.len];grind
 obtain⟨n,r⟩:∃L,s.β[i]?=aa L:=⟨_,bm w⟩;obtain⟨m,x⟩:∃L,s.β[j]?=aa L:=⟨_,bm p⟩;have E:=hh.box i _ n hi r;have C:=hh.box j _ m hj x;have I:n.v=.nilFunc:=by obtain⟨ch,G,_⟩:=E;grind
 have J:m.v=.nilFunc:=by obtain⟨ch,G,_⟩:=C;grind
 let s':St:={s with β:=(s.β.set i m).set j n}
 have t:∀l,((σ.set i (.cf H2)).set j (.cf H1))[l]?=if l=j then aa (.cf H1)else if l=i then aa (.cf H2)else σ[l]?:=λl=>by grind
 have k:∀l,s'.β[l]?=if l=j then aa n else if l=i then aa m else s.β[l]?:=λl=>by grind
 have y:∀L∈s'.β,L∈s.β:=λL f=>by grind
 have ex:Ext σ s ((σ.set i (.cf H2)).set j (.cf H1)) s':=by
  refine⟨λ_ _ _ h=>h,λl B L g f=>?_⟩;rw[t,k];by_cases e:l=j
  .subst e;rw[hj]at g;cases g;rw[x]at f;cases f;exact⟨.cf H1,n,by simp,by simp,by show n.v=_;grind⟩
  .by_cases o:l=i
   .subst o;rw[hi]at g;cases g;rw[r]at f;cases f;exact⟨.cf H2,m,by simp[e],by simp[e],by show m.v=_;grind⟩
   .exact⟨B,L,by grind,by grind,.refl _ _⟩
 have st:Step σ s ((σ.set i (.cf H2)).set j (.cf H1)) s':=by exact⟨aZ _,λ_ _ _=>rfl,λ_ _ _ h=>h,λ_ _ _ _=>rfl,λL h b hb=>.inr ⟨L,y L h,hb⟩,ex.box,rfl,rfl,rfl,rfl⟩
 refine⟨s',rfl,⟨z.size,z.defers.imp λ_ h1=>h1.mono ex,λu=>(z.slot u).mono ex hh.len⟩,⟨hh.mem,by simp[s',hh.len],?_,?_,λL f b hb=>hh.lt L (y L f) b hb,λb hb=>⟨(hh.own b hb).1,λL f=>(hh.own b hb).2 L (y L f)⟩⟩,st⟩
 .intro l B L g f;rw[t]at g;rw[k]at f;split at g
  .rename_i e;rw[bn e]at f;cases g;cases f;exact E
  .rename_i e;rw[a9 e]at f;split at g
   .rename_i o;rw[bn o]at f;cases g;cases f;exact C
   .rename_i o;rw[a9 o]at f;exact(hh.box l B L g f).carry ex hh.len λb hb=>⟨rfl,λ_=>rfl⟩
 .intro l l' L1 L2 q1 q2 b hb nZ;rw[k]at q1 q2;have key:∀l L,(if l=j then aa n else if l=i then aa m else s.β[l]?)=aa L->s.β[if l=j then i else if l=i then j else l]?=aa L:=λl L q=>by grind
  have:=hh.eU _ _ L1 L2 (key l L1 q1) (key l' L2 q2) b hb nZ;by_cases e1:l=j<;>by_cases e2:l'=j<;>by_cases e3:l=i<;>by_cases H:l'=i<;>simp_all
def AK.HV(Q:c8 P T){i:TI}{O H:IntKind}(h:o.op=.makeSlice t x y)(hi:bE T t=aa i)(hd:i.desc=.slice E)(hE:bE T E=aa ie)(Z:bJ φ x=.e (.one (.c (.int O n))))(W:bJ φ y=.e (.one (.c (.int H n))))(hb:n*ie.bytes<=140737488355328)(R:n<=140737488355328)(hg:o.guard=af)(hN:fD N o.dst=ab)(kk:∀b xs,AK X N Qf (.ops all rest::K) .normal (kg o.dst (.e (.one (.v (se (.row b n) n)))) φ) (σ++[.cf (iL E ie.size (.row b n) n xs)])):AK X N Qf (.ops all (o::rest)::K) .normal φ σ:=by
 refine AK.hand (ι:=Nat×List ai) (λq=>.e (.one (.v (se (.row q.1 n) n)))) (λq=>σ++[.cf (iL E ie.size (.row q.1 n) n q.2)]) hg hN (λs a S hh=>?_) λq=>kk q.1 q.2;have j:=cY S x;rw[Z]at j;have j:=fH j;generalize B:a.eval x=vx at j;cases j;have k:=cY S y;rw[W]at k;have k:=fH k;generalize C:a.eval y=vy at k;cases k;have l:=(Q t i hi).RX;rw[hd]at l;obtain⟨g,z,D,z2,z3,V,U,z6,z7⟩:=(Q E ie hE).info;have f:(g.bytes:Int)*(n:Int)<=281474976710656:=by grind
 have m:=run_make (P:=P) (w:=s.w) t E g z l D V O H n n (by omega) (Int.le_refl _) f (by omega);simp only[bL]at m;let xs:=(madeCells z.cells (n*g.size)).toList;have G:xs.length=n*ie.size:=by grind[size_madeCells]
 have Y:∀v∈z.cells.toList,cW v=ab:=dZ.cW (ki (σ:=σ) (s:=s) U);have VP:z.cells.toList.length=ie.size:=by have:=dA List.length U;grind
 have F:∀v∈xs,cW v=ab:=by intro v hv;simp only[xs,madeCells,Array.toList_map,jS]at hv;grind[Nat.mod_lt]
 have hB:eH (σ++[.cf (iL E ie.size (.row s.w.heap.size n) n xs)]) {s with w:=s.w.alloc (.cells xs.toArray E),β:=s.β++[⟨.nilFunc,[s.w.heap.size]⟩]} (.cf (iL E ie.size (.row s.w.heap.size n) n xs)) ⟨.nilFunc,[s.w.heap.size]⟩:=by
  refine⟨λr=>if r=s.w.heap.size then aa (.cells (xs++[]).toArray E (0,0))else af,⟨rfl,F,G,aZ _,by omega,[],by grind,rfl⟩,λr o f=>?_,λr=>?_,λr f o=>?_⟩
  .by_cases e:r=s.w.heap.size
   .subst e;simp only[b5]at f;grind[dF]
   grind
  .by_cases e:r=s.w.heap.size<;>simp[e]
  .simp at f;subst f;cases hm:s.M s.w.heap.size o with
   |none=>rfl
   |some v=>have:=hh.block hm;omega
 have A:aD σ {s with w:=s.w.alloc (.cells xs.toArray E)}/\Step σ s σ {s with w:=s.w.alloc (.cells xs.toArray E)} :=
  hh.grow (by simp) (λb hb=>cM s.w _ hb) (λb hb o=>rfl) (λb hb o v hm=>by have:=hh.block hm;omega) rfl rfl rfl
 obtain⟨g1,g2⟩:=A.1.gx A.2 rfl hh hB (λb hb=>by simp_all)
 refine⟨(s.w.heap.size,xs),.value (.slice (aa ⟨s.w.heap.size,0,af⟩) n n),_,_,?_,.inl rfl,Rd.val rfl,g1,g2,?_⟩
 .simp[ak,h,B,C,m,xs]
 .have e:ak a.eval o=(do pure (.value (<-Instr.makeSlice t (.int O n) (.int H n)))):=by simp[ak,h,B,C]
  rw[e];refine ek ?_;intro e p;have hu:∀u,(underlying t).run P u=.ok (.slice E) u:=λu=>by simp[underlying,l]
  have I:∀u,(typeInfo E).run P u=.ok g u:=λu=>by simp[typeInfo,D]
  have J:∀u,(zeroValue E).run P u=.ok z u:=λu=>by simp[zeroValue,typeInfo,D,V]
  have L:∀u,(sizeOf E).run P u=.ok g.size u:=λu=>by simp[sizeOf,typeInfo,D]
  have wl:IntKind.i64.wrap (n:Int)=n:=by grind[IntKind.wrap_i64]
  have n1:¬(n:Int)<0:=by omega
  have n2:¬(281474976710656<(g.bytes:Int)*n):=by omega
  simp[Instr.makeSlice,hu,I,L,asInt,asIntOf,wl,n1,n2]at p;rw[J]at p;simp only[aP,(cV.newRow (P:=P)) _ _,ite_self]at p;unfold askRoom at p;split at p
  .have:e=⟨.mark .noRoom,ae,ab⟩:=by simpa using p
   rw[this];exact .inl rfl
  .simp at p
end
section
variable {d:Nat}{u:ai}
end
def tQ{xs vs:List α}{a:Nat}(h:a+vs.length<=xs.length)(p:Nat):(xs.take a++vs++xs.drop (a+vs.length))[p]?=if a<=p/\p<a+vs.length then vs[p-a]? else xs[p]?:=by
 have b:(xs.take a).length=a:=by grind
 grind
def ig.fe{es':Nat->List C}{xs:List ai}{new:List A}(h:ig k n es xs)(i j:Nat)(hi:i<n)(p:nA vs new)(o:j+new.length<=k)(r:∀a,a<n->a≠i->es' a=es a)(hl:(es' i).length=k)(w:∀(q:Nat) (c:C),(es' i)[q]?=aa c->(j<=q/\q<j+new.length/\new[q-j]?=aa (A.c c))∨(¬(j<=q/\q<j+new.length)/\(es i)[q]?=aa c)):ig k n es' (xs.take (i*k+j)++vs++xs.drop (i*k+j+vs.length)):=by
 have x:i*k+k<=n*k:=by rw[<-kH];exact eu _ hi
 have v:=p.1;have y:=h.len;have f:i*k+j+vs.length<=xs.length:=by omega
 refine⟨by grind,λa b=>?_,λa b q c t=>?_⟩
 .by_cases e:a=i
  .grind
  .rw[r a b e];exact h.wid a b
 .rw[tQ f];by_cases e:a=i
  .subst e;rcases w q c t with⟨h1,h2,s⟩|⟨h1,h2⟩
   .rw[bn (by omega),show a*k+q-(a*k+j)=q-j by omega];exact p.2 _ c s
   .rw[a9 (by omega)];exact h.at' a b q c h2
  .have m:(es a)[q]?=aa c:=by grind
   have z:q<k:=by rw[<-h.wid a b];grind
   rw[a9 ?_]
   .exact h.at' a b q c m
   .rcases Nat.lt_or_gt_of_ne e with g|l
    .have:a*k+k<=i*k:=by rw[<-kH];exact eu _ g
     omega
    .have:i*k+k<=a*k:=by rw[<-kH];exact eu _ l
     omega
def ig.snoc{es':Nat->List C}{xs:List ai}(h:ig k n es xs)(f:∀i,i<n->es' i=es i)(hl:(es' n).length=k)(g:vs.length=k)(o:∀(q:Nat)(c:C),(es' n)[q]?=aa c->∃v,vs[q]?=aa v/\∀M,Rd M v c):ig k (n+1) es' (xs++vs):=by
 have j:=h.len;refine⟨by grind,λi hi=>?_,λi hi q c m=>?_⟩
 .by_cases e:i=n
  .grind
  .rw[f i (by omega)];exact h.wid i (by omega)
 .by_cases e:i=n
  .grind
  .have a:i<n:=by omega
   have b:(es i)[q]?=aa c:=by grind
   have l:q<k:=by rw[<-h.wid i a];grind
   have:i*k+k<=n*k:=by rw[<-kH];exact eu _ a
   rw[jh (by omega)];exact h.at' i a q c b
def zf(T:List (Nat×TI))(φ:Fr):List ResultVar->Option (List D)
 |[]=>aa []
 |.tmp t::r=>match zf T φ r with
  |some q=>aa (look φ t::q)
  |none=>af
 |.cell ad t::r=>match zf T φ r with
  |some q=>match look φ ad with
   |.e (.one (.c (.rp cs)))=>match bE T t with
    |some i=>match mD i (cs.map A.c)with
     |some e=>aa (.e e::q)
     |none=>af
    |none=>af
   |_=>af
  |none=>af
def zg{P:aM}{T:List (Nat×TI)}(O:c8 P T){N:Nat}{σ:List bd}{s:St}{φ:Fr}{a:Act}(f:ck N σ s φ a):∀{rs:List ResultVar}{ds:List D},zf T φ rs=aa ds ->
  ∃vs,cg σ s vs ds/\∀w,(∀b o u,s.M b o=aa u->w.cell? ⟨b,o,af⟩=aa u)->(rs.mapM (fT a)).run P w=Result.ok vs w/\∀es,∀e∈(rs.mapM (fT a)).events P w es,e∈es∨∃b o u,e=⟨.cell ⟨b,o,af⟩,ae,ae⟩/\s.M b o=aa u
 |[],ds,h=>by cases h;exact⟨[],ar,λw _=>⟨by simp,λes e l=>.inl (by simpa using l)⟩⟩
 |.tmp t::r,ds,h=>by
  simp only[zf]at h;cases z:zf T φ r with
  |none=>grind
  |some q =>
   simp[z]at h;subst h;obtain⟨vs,U,Y⟩:=zg O f z;refine⟨a.tmps.getD t ah::vs,⟨f.slot t,U⟩,λw p=>?_⟩;obtain⟨k1,R⟩:=Y w p;refine⟨by simp only[kQ,bO,fT,cT,b9,k1],λes e l=>R es e ?_⟩;simpa[kQ,fT,k1]using l
 |.cell ad t::r,ds,h=>by
  simp only[zf]at h;cases z:zf T φ r with
  |none=>grind
  |some q =>
   simp only[z]at h;have hs:=f.slot ad;generalize look φ ad=x at h hs;split at h
   case h_2=>cases h
   rename_i cs;cases hi:bE T t with
   |none=>grind
   |some i =>
    simp only[hi]at h;cases k:mD i (cs.map A.c)with
    |none=>grind
    |some e0 =>
     simp[k]at h;subst h;obtain⟨vs,U,Y⟩:=zg O f z;have F:=fH hs;generalize Q:a.tmps.getD ad ah=vx at F;cases F;rename_i b off g V LI;let y:=(bh cs.length).map g;have L:dZ σ s y (cs.map A.c):=by
      have key:∀(n:Nat) (ds:List C),(∀j c,ds[j]?=aa c->Rd s.M (g (n+j)) c)->dZ σ s ((bh ds.length).map λj=>g (n+j)) (ds.map A.c):=by
       intro n ds;induction ds generalizing n with
       |nil=>intro _;trivial
       |cons d ds ih =>
        intro hd;rw[gb,yS];refine⟨hd 0 d rfl,?_⟩;have:=ih (n+1) (λj c m=>by have:=hd (j+1) c (by grind);grind);grind[Function.comp_def]
      have:=key 0 cs (by grind);grind
     have H:∀(j:Nat) (v:ai),y[j]?=aa v->s.M b (off+j)=aa v:=λj v m=>by
      simp only[y,nq]at m;by_cases I:j<cs.length
      .simp[I]at m;subst m;exact V j cs[j] (bm I)
      grind
     let w0:aA:={s.w with heap:=s.w.heap}
     have E:∃v,nh σ s v e0/\∀w,(∀b o u,s.M b o=aa u->w.cell? ⟨b,o,af⟩=aa u)->(loadVar t ⟨b,off,af⟩).run P w=.ok v w:=by
      have Z:=O t i hi;cases W:i.agg<;>simp only[mD,W]at k
      .cases G:eB 0 (cs.map A.c)with
       |none=>grind
       |some a0 =>
        simp[G]at k;subst k;obtain⟨v,hv,U6⟩:=L.get (cX G);refine⟨v,U6,λw p=>?_⟩;have:=p _ _ _ (H 0 v hv);simp only[loadVar,bO,Z.jU,b9,W];grind[run_load]
      .cases G:n6 i.size (cs.map A.c)with
       |none=>grind
       |some r0 =>
        simp[G]at k;subst k;obtain⟨q1,q2⟩:=mN G;have B:=L.take i.size;rw[<-q1]at B;have hl:(y.take i.size).length=i.size:=by grind
        refine⟨.agg (y.take i.size).toArray,⟨y.take i.size,rfl,B⟩,λw p=>?_⟩
        have J:=run_loadCells_list (P:=P) w ⟨b,off,af⟩ (y.take i.size) (λj v m=>by grind[dm])
        rw[hl]at J;simp only[loadVar,bO,Z.jU,b9,W];simp[Z.run_sizeOf,J]
     obtain⟨v,S,U7⟩:=E;refine⟨v::vs,⟨S,U⟩,λw p=>?_⟩;obtain⟨k1,R⟩:=Y w p;have K:(fT a (.cell ad t))=loadVar t ⟨b,off,af⟩:=by simp[fT,Q,asAddr]
     refine⟨by grind[Go.Sem.run_bind,Go.Sem.run_pure,Go.Result.andThen_ok],λes e l=>?_⟩;rw[kQ,K]at l;simp only[aK,U7 w p,aP,k1,Sem.events_pure]at l;rcases R _ e l with l|l
     .rcases CP l with l|l
      .grind
      .obtain⟨j,m,rfl⟩:=iV (O t i hi) (w:=w) (n:=cs.length) (λj m=>⟨g j,p _ _ _ (V j cs[j] (bm m))⟩) (by have:=oJ k;grind) e l;exact .inr ⟨b,off+j,g j,rfl,V j cs[j] (bm m)⟩
     grind
theorem A1.U8(j:c8 P T){fn:Func}{ds:List D}{d:D}(h:zf T φ fn.results.toList=aa ds)(hj:rr ds=aa d):A1 P fn φ d:=by
 intro N σ s a f;obtain⟨vs,h1,h2⟩:=zg j f h;refine⟨_,A0 hj h1,λw k=>?_⟩;obtain⟨k1,g⟩:=h2 w k;have e1:(fn.results.mapM (fT a)).run P w=Result.ok vs.toArray w:=by grind[Array.mapM_eq_mapM_toList,Sem.run_map,Go.Result.andThen_ok]
 have e2:∀es,∀e∈(fn.results.mapM (fT a)).events P w es,e∈es∨∃b o u,e=⟨.cell ⟨b,o,af⟩,ae,ae⟩/\s.M b o=aa u:=by rw[qk];intro es e c;exact g es e (by simpa using c)
 constructor
 .unfold results;rw[bO];refine(dA (λr=>Result.andThen r _) (Eq.trans ?_ e1)).trans ?_
  .congr 2
  .simp
 .intro e c;have i:e∈(fn.results.mapM (fT a)).events P w #[]:=by unfold results at c;rw[aK]at c;change e∈((fn.results.mapM (fT a)).run P w).evThen ((fn.results.mapM (fT a)).events P w #[]) _ at c;rw[e1]at c;simpa using c
  grind
section
variable {X:Cx P}
def Mf(T:List (Nat×TI))(rs:List ResultVar)(ks:List Nat)(φ:Fr)(res:D):Option (List Prop) :=
 match zf T φ rs with
 |some ds=>match rr ds with
  |some d=>match uV ks.length res with
   |true=>CH d (iE ks res)
   |false=>af
  |none=>af
 |none=>af
def AK.zh(c:c8 P T){fn:Func}{a:Nat}{res:D}(ks:List Nat)(h:Mf T fn.results.toList ks φ res=aa ps)(e:au ps)(g:jV ks σ=aa σ')(b:kJ σ'=ab)(f:dX ks=ab)(d:∀j,j<a->ks[j]?=aa j):
  AK X N (A2 P fn a res σ') (.code .ret::K) .normal φ σ:=by refine AK.ret ⟨.inl rfl,ks,?_⟩;unfold Mf at h;grind[A1.U8]
def Ev.n7{f:aJ}{fn:Func}{args:List D}{res:D}(d:P.funcs[f]?=aa fn)(a:(fn.name== "runtime.NumGoroutine")=ae)(hb:fn.body=aa c)(b:bu args.length fn.ntmps=ab)(h:Fits args σ->AK X fn.ntmps (A2 P fn σ.length res σ') [.code c] .normal (jb 0 args) σ):Ev X f args σ res σ':=by refine⟨⟨fn,d,a,by grind⟩,λs vs hr hh=>?_⟩;have:=dL.HZ (X:=X) (ι:=Unit) (σ':=λ_=>σ') (res:=λ_=>res) d a hb (dJ b) (AW.mono (AK.of_code (h ⟨s,vs,hr,hh⟩)) λ_ _ _ q=>⟨(),q⟩);exact this.F3.2 s vs hr hh
def cd.mk{fn:Func}{a:Nat}{res:D}(ks:List Nat)(h:zi fn.results.toList ks φ res=aa ps)(d:au ps)(f:jV ks σ=aa σ')(b:kJ σ'=ab)(e:dX ks=ab)(c:∀j,j<a->ks[j]?=aa j):cd fn a res σ' .ret φ σ:=by refine⟨.inl rfl,ks,?_⟩;unfold zi at h;grind
end
def FV{X:Cx P}{b:aU}{k:List Item}{a:Act}{rest:List Nat}{f:aJ}(z:b.kind≠.early)(ho:ops[i]?=aa o)(B:aY o (yielded ops a.tmps)=ab)(y:aD σ s)(p:∀w,(ak a.eval o).run P w=.ok (.enter f vs.toArray) w)(n:∀w,(ak a.eval o).events P w #[]=#[])(u:dL X f cm σ res σ1)(m:cg σ s vs cm)(h:∀j v s',dk (σ1 j) s' v (res j)->aD (σ1 j) s'->cN σ s (σ1 j) s'->fu X S (G (b.aT (a.put o.dst v) (.inRegion ops rest::k)) cs) s'):
  fu X S (G (b.aT a (.inRegion ops (i::rest)::k)) cs) s:=by
 obtain⟨_,l⟩:=u;refine .next rfl λx t=>?_;have q:=X.hZ t;have g:=y.rely q;have d:cg σ x vs cm:=m.mono q.stepW.ext y.len;refine⟨_,x,_,oB ho B z (p x.w),?_,l _ vs d g S _ λj C v s2 hl lR CF oe=>?_⟩
 .refine⟨⟨σ,σ,g,g,.refl _ _⟩,ey.seen ?_⟩;rw[n];exact .nil
 refine px (cs:=cs) (c:=b.aT a (.inRegion ops (i::rest)::k)) CF hl λA e=>?_;have r:=ja (b:=b) (a:=a) (k:=k) ops i rest v;rw[ho]at r;simp only[mr]at r;rw[r];exact h j v A (lR.mono e.stepW.ext CF.len) (CF.rely e) (q.stepW.trans (oe.trans e.stepW))
def AK.LS{X:Cx P}{f:aJ}(r:dL X f cm σ res σ1)(F:o.guard=af)(ho:o.op=.call {callee:=.value fo,args:=xs,argTypes:=jJ})(x:ei (bJ φ fo)=aa (f,cap))(l:tK (xs.toList.map (bJ φ)++fC cap) cm=aa ps)(D:au ps)(J:fD N o.dst=ab)(k:∀j,AK X N Qf (.ops all rest::K) .normal (kg o.dst (res j) φ) (σ1 j)):AK X N Qf (.ops all (o::rest)::K) .normal φ σ:=by
 intro s a e hh b kk cs S idx hb iC hQ;cases idx with
 |nil=>exact iC.elim
 |cons i idx =>
 obtain⟨hi,iC⟩:=iC;have p:=cY e fo;unfold ei at x;split at x
 case h_2=>cases x
 case h_1 f' HK he =>
  cases x;rw[he]at p;have g:=fH p;generalize G:a.eval fo=fv at g;cases g with
  |fn fs lS hl CG f1 f2 h1 h2 r1 r2 =>
   have y:fs=[]:=jg hl;subst y;have m:cg σ s lS (fC cap):=lq (λj c hj=>⟨f2 j,h2 j (by grind),r2 j c hj⟩) CG;have n:cg σ s (xs.toList.map a.eval++lS) cm:=rh l D ((nv (cY e) xs.toList).append m);obtain⟨fn,u,h,d⟩:=r.1;refine FV hb hi (du F) hh (λw=>(gG ho u h d G w).1) (λw=>(gG ho u h d G w).2) r n λj v s' hr jf st=>?_;refine k j s' _ ?_ jf b kk cs S idx hb iC λA z I a3 q L H C=>hQ A z I a3 q L H (st.trans C);have B:=gB J;cases E:o.dst with
   |none=>exact e.mono st hh.len
   |some t=>exact(e.mono st hh.len).put (B t E) hr
def Ff{α:Type}{l:Nat}{x:α}:∀{ks:List Nat}{a r:List α},jV ks a=aa r->l∉ks->jV ks (a.set l x)=aa r
 |[],a,r,h,_=>h
 |k::ks,a,r,h,b=>by
  simp only[dK,not_or]at b;simp only[jV,eW]at h⊢;rw[kF b.1];cases d:a[k]? with
  |none=>simp[d]at h
  |some y =>
   simp only[d]at h⊢;cases c:jV ks a with
   |none=>simp[c]at h
   |some q=>rw[Ff c b.2];simp only[c]at h;exact h
def Bt{l:List Nat}(h:gZ k l=ae):k∉l:=λa=>by rw[uw a]at h;cases h
def oR:Option (Tmp×E1)->List ResultVar
 |none=>[]
 |some q=>[.tmp q.1]
def oD(cs:List A):Option (Tmp×E1)->D
 |none=>.e (.agg cs)
 |some q=>.fw [.agg cs,q.2]
def I9(T:List (Nat×TI))(fn:Func)(a:Nat)(res:D)(σ':List bd):Post:=λe φ σ1 =>
 (e=.ret∨e=.normal)/\∃ks l E cs t ty it ps,∃o:Option (Tmp×E1),(∀q,o=aa q->look φ q.1=.e q.2)/\fn.results.toList=.cell t ty::oR o/\bE T ty=aa it/\it.agg=ab/\cs.length=it.size/\look φ t=.e (.one (.ptr l 0))/\σ1[l]?=aa (.cells E cs)/\l∉ks /\
  CH (oD cs o) (iE ks res)=aa ps/\au ps/\uV ks.length res=ab/\jV ks σ1=aa σ'/\kJ σ'=ab/\dX ks=ab/\(∀j,j<a->ks[j]?=aa j)
def dL.Qm{X:Cx P}(hT:c8 P T){f:aJ}{fn:Func}{args:List D}{σ':ι->List bd}(hf:P.funcs[f]?=aa fn)(IM:(fn.name== "runtime.NumGoroutine")=ae)(hb:fn.body=aa c)(hlen:args.length<=fn.ntmps)(h:∀s a,ck fn.ntmps σ s (jb 0 args) a->aD σ s->∀(b:aU) (k:List Item) (cs:List aU) (S:aq->St->Prop),b.kind≠.early->b.roundOf=af ->
  (∀e φ' σ1 s' a',(∃j,I9 T fn σ.length (res j) (σ' j) e φ' σ1)->ck fn.ntmps σ1 s' φ' a'->aD σ1 s'->cN σ s σ1 s'->ends X S b k cs e a' s')->fu X S (G (b.aT a (.code c::k)) cs) s):dL X f args σ res σ':=by
 refine⟨⟨fn,hf,IM,by rw[hb];rfl⟩,λs vs hr hh S cs hS=>?_⟩;obtain⟨hl,hg⟩:=cg.get hr;let b:aU:={fn:=f,tmps:=#[],todo:=[],defers:=[],mode:=.run,kind:=.normal,roundOf:=af}
 have H:Frame.enter P f vs.toArray .normal=b.aT {tmps:=vs.toArray++Array.replicate (fn.ntmps-vs.toArray.size) ah,defers:=[]} [.code c]:=by simp[Frame.enter,Frame.aT,hf,hb,b]
 rw[H];refine h s {tmps:=vs.toArray++Array.replicate (fn.ntmps-vs.toArray.size) ah,defers:=[]} ⟨by simp;omega,⟨[],ar⟩,λt=>?_⟩ hh b [] cs S (by simp[b]) rfl ?_
 .rw[nB];simp only[iN,b5,j3];have:=hg t;rcases cA t vs.length with tM|R3
  .have e:(vs.toArray++Array.replicate (fn.ntmps-vs.toArray.size) ah).getD t ah=(vs[t]?).getD ah:=by simp only[dH];grind
   rw[e];exact this
  .rw[qP (by omega)];trivial
 .rintro e φ' σ0 s0 a1 ⟨jj,he,ks,l,E,YC,t,ty,it,ps,o,q0,q1,q2,q3,q4,q5,q6,q7,h3,h4,h5,h6',h7',h8,h9⟩ f0 h0 Ww;obtain⟨h7,h7n⟩:=xU h7';have C:=f0.slot t;rw[q5]at C;obtain⟨_,L,bb,p,Vq,Y⟩:=C;obtain⟨b2,d,V7,N,YD,hM⟩:=h0.box l _ L q6 p;subst V7;cases Vq;let M':Mem:=λm o=>if m=bb then d[o]? else s0.M m o;have SC:∀o v,d[o]?=aa v->s0.w.cell? ⟨bb,o,af⟩=aa v:=λo v ho=>by simpa[aV,N]using ho
  have Sn:∀m o v,s0.M m o=aa v->M' m o=aa v:=λm o v hv=>by grind
  have Z:∀m o v,M' m o=aa v->s0.w.cell? ⟨m,o,af⟩=aa v:=λm o v hv=>by
   by_cases e:m=bb
   .grind
   .simp only[M',e,bM]at hv;exact h0.mem m o v hv
  obtain⟨h',I⟩:=h0.hX (M':=M') (w':=s0.w) (B':=.dead) (L':=⟨.pointer (aa ⟨bb,0,af⟩),[]⟩) q6 p rfl (aZ _) (λ_ _ _=>rfl) (λm _ O o=>by grind) Sn Z (by simp) rfl rfl rfl ar
  have Vn:eK s0 ⟨s0.β.set l ⟨.pointer (aa ⟨bb,0,af⟩),[]⟩,M',s0.w,s0.own⟩:=⟨rfl,Sn,λm O o=>by
   have:m≠bb:=by rintro rfl;exact O _ (bH p) (by simp)
   simp only[M',this,bM],Z,λm O=>by grind⟩
  have f':ck fn.ntmps (σ0.set l .dead) ⟨s0.β.set l ⟨.pointer (aa ⟨bb,0,af⟩),[]⟩,M',s0.w,s0.own⟩ φ' a1:=⟨f0.size,f0.defers.imp λ_ h1=>h1.mono I.ext,λu=>(f0.slot u).mono I.ext h0.len⟩
  have h6:=Ff (x:=bd.dead) h6' q7;have W1:dZ (σ0.set l .dead) ⟨s0.β.set l ⟨.pointer (aa ⟨bb,0,af⟩),[]⟩,M',s0.w,s0.own⟩ d YC:=YD.mono I.ext h0.len;have st:=Ww.trans (I.n3 h0);let V:ai:=match o with|none=>.agg d.toArray|some q=>.tuple #[.agg d.toArray,a1.tmps.getD q.1 ah]
  have J:∀w,(∀b o u,M' b o=aa u->w.cell? ⟨b,o,af⟩=aa u)->(results fn a1.tmps).run P w=.ok V w/\∀e∈(results fn a1.tmps).events P w #[],∃b o u,e=⟨.cell ⟨b,o,af⟩,ae,ae⟩/\M' b o=aa u:=by
   intro w hw;have R:=hT ty it q2;have YE:d.length=it.size:=by rw[YD.length,q4]
   have RU:∀j v,d[j]?=aa v->w.cell? ⟨bb,0+j,af⟩=aa v:=λj v hj=>hw _ _ _ (by grind);have Ve:=run_loadCells_list (P:=P) w ⟨bb,0,af⟩ d (λj v hj=>by rw[dm];exact RU j v hj);rw[YE]at Ve;have FX:(loadVar ty ⟨bb,0,af⟩).run P w=.ok (.agg d.toArray) w:=by simp only[loadVar,bO,R.jU,b9,q3];simp[R.run_sizeOf,Ve]
   have U6:fn.results=(ResultVar.cell t ty::oR o).toArray:=by apply Array.ext';simpa using q1
   have K:asAddr (a1.tmps[t]?.getD ah)=(pure ⟨bb,0,af⟩:Sem Addr):=by rw[<-dH,Y];rfl
   refine⟨by cases o<;>simp[results,U6,K,FX,V,oR],λe he=>?_⟩;have SH:e∈(loadVar ty ⟨bb,0,af⟩).events P w #[]:=by cases o<;>simpa[results,U6,K,FX,oR]using he
   obtain⟨j,hj,rfl⟩:=iV R (w:=w) (n:=d.length) (λj hj=>⟨_,RU j d[j] (bm hj)⟩) (by rw[q3,YE];simp) e SH;exact⟨bb,0+j,d[j],rfl,by grind⟩
  have fin:∀(fr:aU) s2,bU (⟨s0.β.set l ⟨.pointer (aa ⟨bb,0,af⟩),[]⟩,M',s0.w,s0.own⟩:St) s2->fr.fn=f->fr.tmps=a1.tmps->fr.defers=a1.defers->fr.mode=.returning->fr.kind=.normal->fu X S (G fr cs) s2:=by
   intro fr s2 r7 e1 e2 e3 e4 e5;have f2:=f'.rely r7 h';have z:=h'.rely r7;have g:=st.trans r7.stepW;have r2:dk (σ0.set l .dead) s2 V (oD YC o):=by
    have YF:=W1.mono r7.stepW.ext h'.len;cases o with
    |none=>exact⟨d,rfl,YF⟩
    |some q =>
     have hx:=f2.slot q.1;rw[q0 q rfl]at hx;exact⟨[.agg d.toArray,a1.tmps.getD q.1 ah],rfl,⟨d,rfl,YF⟩,hx,ar⟩
   obtain⟨i,F⟩:=y9 (l':=s2.β) h6 z.len;have r4:=(qu h3 h4 r2).sub h6 F h5;obtain⟨c1,c2⟩:=iu h6;obtain⟨d1,d2⟩:=iu F;have Q:∀L∈i,L∈s2.β:=zd F;have Sa:aD (σ' jj) {s2 with β:=i}:=by obtain⟨W,_⟩:=z.sub h6 F h7 h8;refine⟨W.mem,W.len,λj B L hB p=>?_,W.eU,W.lt,λb hb=>⟨(z.own b hb).1,λL p=>(z.own b hb).2 L (Q L p)⟩⟩;exact eH.plain (σ:=σ' jj) (s:={s2 with β:=i,own:=zc s2 i}) (s':={s2 with β:=i}) rfl rfl (kl h7 B (bH hB)) (W.box j B L hB p)
   have Tr:cN σ s (σ' jj) {s2 with β:=i}:=by refine⟨g.size,g.keep,g.mem,g.iI,λL p b hb=>g.ur _ (Q L p) b hb,λl B L hB p=>?_,g.os,g.tape,g.output,g.own⟩;have hl:l<σ.length:=(b8.1 hB).1;obtain⟨B',L',p1,p2,p3⟩:=g.box l B L hB p;grind
   obtain⟨ls,Vr⟩:=f2.defers;refine qy ls fr s2 _ z.kU (by grind) e4 (by rw[e3];exact Vr.taken z) λU r=>?_;have A:bU {s2 with β:=i} {U with β:=i}:=by
    refine⟨rfl,r.M,r.own,r.size,λb hb=>r.keep b (hb.imp id ?_),r.mem,r.os,r.tape,r.output⟩;rintro⟨L,p,hb⟩;obtain⟨j,hj,rfl⟩:=dN p;have YG:j<ks.length:=by rw[<-d1];exact hj
    obtain⟨y,y1,y2⟩:=d2 j _ (bm YG);obtain⟨x,x1,x2⟩:=c2 j _ (bm YG);rw[bm hj]at y1;cases y1;refine⟨_,_,y2,λhc=>?_,hb⟩;rw[Vr.Bj _ hc]at x2;cases x2;exact mQ h7n _ (bH x1) rfl
   have hG:eK U {U with β:=i}:=⟨rfl,λ_ _ _ h=>h,λ_ _ _=>rfl,λb o v hv=>r.mem b o v (by rw[<-r.M];exact hv),λb hb=>hb.imp id λ⟨L,p,hb⟩=>⟨L,by rw[r.β];exact Q L p,hb⟩⟩
   have W2:s2.M=M':=r7.M;refine .ghost hG (hS jj _ V _ ⟨e1,e4,rfl,e5,fn,by grind,λw hw=>?_⟩ (r4.mono A.stepW.ext Sa.len) (Sa.rely A) (Tr.trans A.stepW));show(results fn fr.tmps).run P w=_/\∀e∈(results fn fr.tmps).events P w #[],_;rw[e2];have YH:∀b o u,M' b o=aa u->w.cell? ⟨b,o,af⟩=aa u:=λb o u h=>hw b o u (by show U.M b o=aa u;rw[r.M,W2];exact h);refine⟨(J w YH).1,λe he=>?_⟩;obtain⟨b,o,u,q1,q2⟩:=(J w YH).2 e he;exact⟨b,o,u,q1,by show U.M b o=aa u;rw[r.M,W2];exact q2⟩
  rcases he with rfl|rfl
  .intro pre;exact .ghost Vn (.ctl h' rfl (λ_=>CR rfl) λs2 r7=>fin _ s2 r7 rfl rfl (jR _) rfl rfl)
  .exact .ghost Vn (.ctl h' rfl (λ_=>CU rfl) λs2 r7=>fin _ s2 r7 rfl rfl (jR _) rfl rfl)
def dL.n7{X:Cx P}(l:c8 P T){f:aJ}{fn:Func}{args:List D}{σ':ι->List bd}(i:P.funcs[f]?=aa fn)(d:(fn.name== "runtime.NumGoroutine")=ae)(hb:fn.body=aa c)(g:bu args.length fn.ntmps=ab)(h:Fits args σ->AK X fn.ntmps (λe φ σ1=>∃j,I9 T fn σ.length (res j) (σ' j) e φ σ1) [.code c] .normal (jb 0 args) σ):dL X f args σ res σ':=by refine⟨⟨fn,i,d,by rw[hb];rfl⟩,λs0 vs hr LH=>?_⟩;have:=dL.Qm (X:=X) (σ':=σ') (res:=res) l i d hb (dJ g) λs a f hh b k cs S m _ n=>(show AW X fn.ntmps c _ (jb 0 args) σ from AK.of_code (h ⟨s0,vs,hr,LH⟩)) s a f hh b k cs S m n;exact this.2 s0 vs hr LH
def dZ.set{σ:List bd}{s:St}{a:A}{v:ai}:∀{vs:List ai}{cs:List A}{j:Nat},dZ σ s vs cs->vs[j]?=aa v->gd σ s v a->dZ σ s vs (cs.set j a)
 |[],[],_,_,h,_=>by grind
 |[],_::_,_,h,_,_=>h.elim
 |_::_,[],_,h,_,_=>h.elim
 |u::vs,c::cs,0,h,b,d=>by simp at b;subst b;exact⟨d,h.2⟩
 |u::vs,c::cs,j+1,h,b,d=>⟨h.1,dZ.set h.2 (by grind) d⟩
section
variable {X:Cx P}
def AK.gf(l j:Nat)(E k:Nat)(es':Nat->List C){E0:aw}{cs:List A}{k':Nat}{t:Nat->List C}(hl:eB l σ=aa (.cells E0 cs))(hj:eB j cs=aa (.c (.sl ab k' 0 t)))(kk:AK X N Qf (.code c::K) .normal φ ((σ++[bd.vec E k 0 es']).set l (.cells E0 (cs.set j (.vec σ.length k 0 es'))))):AK X N Qf (.code c::K) .normal φ σ:=by
 refine AK.ghost (λs a z hh=>?_) kk;have H:=cX hl;have J:=cX hj;have F:l<σ.length:=(b8.1 H).1;have g:l<s.β.length:=by rw[hh.len];grind
 have x:=bm g;generalize s.β[l]=L at x;obtain⟨b,vs,r,d,f,S⟩:=hh.box l _ L H x;obtain⟨v,O,I⟩:=f.get J;have h1:Rd s.M v (.sl ab k 0 es'):=(Rd.uo (k:=k') (k':=k) (.inr rfl) I).CN λi hi=>by omega
 have D:eH (σ++[bd.vec E k 0 es']) {s with β:=s.β++[⟨v,[]⟩]} (.vec E k 0 es') ⟨v,[]⟩:=⟨h1.loose,.inl ⟨⟨rfl,rfl⟩,h1⟩⟩;obtain⟨G,g2⟩:=hh.gx (.refl _ _) rfl hh D (by simp)
 have y:(σ++[bd.vec E k 0 es'])[l]?=aa (.cells E0 cs):=by grind
 have p:(s.β++[(⟨v,[]⟩:Loc)])[l]?=aa L:=by grind
 have m:(s.β++[(⟨v,[]⟩:Loc)]).set l L=s.β++[⟨v,[]⟩]:=by apply gK;grind
 have q:hU (.cells E0 cs) L (.cells E0 (cs.set j (.vec σ.length k 0 es'))) L:=rfl;have Q:σ.length≠l:=by omega
 have o:eH ((σ++[bd.vec E k 0 es']).set l (.cells E0 (cs.set j (.vec σ.length k 0 es')))) ⟨(s.β++[(⟨v,[]⟩:Loc)]).set l L,s.M,s.w,s.own⟩ (.cells E0 (cs.set j (.vec σ.length k 0 es'))) L:=by
  rw[m];refine⟨b,vs,r,d,?_,S⟩;have ex:Ext (σ++[bd.vec E k 0 es']) {s with β:=s.β++[⟨v,[]⟩]} ((σ++[bd.vec E k 0 es']).set l (.cells E0 (cs.set j (.vec σ.length k 0 es')))) {s with β:=s.β++[⟨v,[]⟩]}:=by
   refine⟨λ_ _ _ h=>h,λi B L' lQ gm=>?_⟩;by_cases e:l=i
   .grind
   .exact⟨B,L',by grind,gm,.refl _ _⟩
  have n:dZ (σ++[bd.vec E k 0 es']) {s with β:=s.β++[⟨v,[]⟩]} vs cs:=f.mono g2.ext hh.len;refine dZ.set (n.mono ex G.len) O ?_;refine⟨h1.loose,by simp,λE2 k2 n2 yZ h=>?_⟩;rw[kF (by omega),fx (by omega),Nat.sub_self]at h;cases h;refine⟨aZ _,λ_=>⟨⟨v,[]⟩,?_,rfl⟩⟩;simp[<-hh.len]
 obtain⟨R,q2⟩:=G.hX (M':=s.M) (w':=s.w) (L':=L) y p q (aZ _) (λ_ _ _=>rfl) (λ_ _ _ _=>rfl) (λ_ _ _ h=>h) hh.mem (λb hb=>⟨.inl hb,hh.lt L (bH x) b hb⟩) rfl rfl rfl o;have st:=g2.trans q2;exact⟨⟨(s.β++[(⟨v,[]⟩:Loc)]).set l L,s.M,s.w,s.own⟩,rfl,⟨z.size,z.defers.imp λ_ h1=>h1.mono st.ext,λu=>(z.slot u).mono st.ext hh.len⟩,R,st⟩
end
end Go.AM
