/- Part 2. No condition. -/
import Derived.Test.YtpddeenenibhjaaGreatDoorA1
import Derived.Test.YtpddeenenibhjaaGreatDoorProg
import Derived.MapKept
import Derived.Maps.RangeRun
import Derived.Laws.MakeOwn
set_option linter.all false
set_option maxHeartbeats 8000000
open Go.Proofs
open Go.Conc (G)
open Go renaming Value → aj, TypeId → ay, undef → ah, Operand → aC, execOp → aq, World → aA, Program → aK, Oper → aB, Goroutine → ak, stepG → aG, FuncId → aP
open Option renaming some → aa, none → af
open Bool renaming true → ab, false → ae
open Go.World renaming cell? → aU
open List renaming getD_eq_getElem?_getD → ai, range → a9
open Go.Sem renaming events_bind → aJ
open Go.Result renaming evThen_ok → aO
open Go.Region renaming wanted → aX, ready → aW
open Nat renaming beq → av, ble → bn
open Go.Proofs.Tryz renaming prog → ag
namespace Go.AM
variable {n k l b i j:Nat}{E:ay}{H:aj->(Nat->Option Obj)->Prop}{L:Array Bool}{M:Mem}{N:Nat}{P:aK}{S:ak->St->Prop}{c:Code}{g:ak}{o:aB}{s:St}{t:ay}{v:aj}{w:aA}{x y:aC}{α:Type}{η:aC->D}{ι:Type}{σ:List ba}{φ:Fr}{all:List aB}{jK:Array ay}{cap:List C}{cu:List D}{cs:List Frame}{ds:List (Nat×Bool)}{es:Nat->List C}{fo:aC}{obs:List Prop}{off:Nat}{op:BinOp}{ops:Array aB}{ps:List Prop}{rest:List aB}{s':St}{ty:ay}{val:Nat->Nat->aj}{vs:List aj}{w':aA}{xs:Array aC}{σ' σs:List ba}{res:ι->D}{σ1:ι->List ba}
section force
variable {p:Type}
def uB:C->(C->Option p)->Option p
 |.int k n,q=>q (.int k n)
 |.bool b,q=>q (.bool b)
 |.str s,q=>q (.str s)
 |.sl ab k n es,q=>q (.sl ab k n es)
 |.sl ae k n es,q=>q (.sl ae k n es)
 |.rp cs,q=>c9 cs λcs=>q (.rp cs)
 |.KQ t cs,q=>c9 cs λcs=>q (.KQ t cs)
 |.fn f a b,q=>c9 a λa=>c9 b λb=>q (.fn f a b)
 |c,q=>q c
def EP(c:C)(q:C->Option p):uB c q=q c:=by
 cases c with
 |sl t=>cases t<;>rfl
 |rp cs=>simp[uB,cM]
 |KQ t cs=>simp[uB,cM]
 |fn f a b=>simp[uB,cM]
 |_=>rfl
def uC:A->(A->Option p)->Option p
 |.c x,q=>uB x λx=>q (.c x)
 |.ptr l o,q=>q (.ptr l o)
 |.vec l k n es,q=>q (.vec l k n es)
 |.ref l,q=>q (.ref l)
 |.bp l (.sl g k o n),q=>q (.bp l (.sl g k o n))
 |.bp l (.el g k i f),q=>q (.bp l (.el g k i f))
 |.any,q=>q .any
def wY(a:A)(q:A->Option p):uC a q=q a:=by
 cases a with
 |bp l w=>cases w<;>simp[uC]
 |_=>simp[uC,EP]
def tI:List A->(List A->Option p)->Option p
 |[],q=>q []
 |a::r,q=>uC a λa=>tI r λr=>q (a::r)
def BY(l:List A)(q:List A->Option p):tI l q=q l:=by
 induction l generalizing q with
 |nil=>rfl
 |cons a r b=>simp[tI,wY,b]
def yx:E1->(E1->Option p)->Option p
 |.one a,q=>uC a λa=>q (.one a)
 |.agg cs,q=>tI cs λcs=>q (.agg cs)
def wZ(a:E1)(q:E1->Option p):yx a q=q a:=by cases a<;>simp[yx,wY,BY]
def tJ:List E1->(List E1->Option p)->Option p
 |[],q=>q []
 |a::r,q=>yx a λa=>tJ r λr=>q (a::r)
def BZ(l:List E1)(q:List E1->Option p):tJ l q=q l:=by
 induction l generalizing q with
 |nil=>rfl
 |cons a r b=>simp[tJ,wZ,b]
def mR:D->(D->Option p)->Option p
 |.e x,q=>yx x λx=>q (.e x)
 |.fe xs,q=>tJ xs λxs=>q (.fe xs)
 |.any,q=>q .any
theorem l9(a:D)(q:D->Option p):mR a q=q a:=by cases a<;>simp[mR,wZ,BZ]
end force
def zY:D->Option (Bool×Nat×Nat×(Nat->List C))
 |.e (.one (.c (.sl t k n es)))=>aa (t,k,n,es)
 |.e (.one (.vec _ k n es))=>aa (ae,k,n,es)
 |_=>af
theorem oP{d:D}{t:Bool}(h:zY d=aa (t,k,n,es))(σ:List ba)(s:St)(v:aj)(r:dc σ s v d):Rd s.M v (.sl t k n es):=by
 unfold zY at h;split at h
 .cases h;exact r
 .cases h;exact r.1
 grind
def ik(l:List UInt8)(j:Int):UInt8:=l.getD j.toNat 0
def Oi(T:List (Nat×TI))(t:ay)(d:D):Option D :=
 match bz T t with
 |none=>af
 |some i=>match i.desc with
  |.slice _=>match zY d with
   |some (_,_,n,_)=>aa (.e (.one (.c (.int .i64 n))))
   |none=>af
  |.string=>match d with
   |.e (.one (.c (.str s)))=>aa (.e (.one (.c (.int .i64 s.length))))
   |_=>af
  |_=>af
def G7(T:List (Nat×TI))(a b:ay)(d:D):Option (D×List Prop) :=
 match bz T a with
 |none=>af
 |some i1=>match bz T b with
  |none=>af
  |some i2=>match i2.desc with
   |.int k'=>match d with
    |.e (.one (.c (.int _ j)))=>aa (.e (.one (.c (.int k' j))),[bq k' j])
    |_=>af
   |.string=>match d with
    |.e (.one (.c (.str s)))=>aa (.e (.one (.c (.str s))),[])
    |d=>match i1.desc with
     |.slice E=>match bz T E with
      |some ie=>match ie.desc with
       |.int .u8=>match zY d with
        |some (_,k,n,es)=>match av k 1 with
         |true=>match uD es 0 n with
          |some r=>aa (.e (.one (.c (.str r))),[])
          |none=>af
         |false=>af
        |none=>af
       |_=>af
      |none=>af
     |_=>af
   |_=>af
def B4(T:List (Nat×TI))(η:aC->D)(t:ay)(x:aC)(lo hi:Option aC):Option (D×List Prop) :=
 match bz T t with
 |none=>af
 |some i=>match tc η lo with
  |none=>af
  |some l=>match tc η hi with
   |none=>af
   |some u=>match i.desc with
    |.string=>match η x with
     |.e (.one (.c (.str s)))=>aa (.e (.one (.c (.str (qH s l u)))),gh s.length l u)
     |_=>af
    |.slice E=>match bz T E with
     |none=>af
     |some ie=>match zY (η x)with
      |some (tt,k,n,es)=>match av k ie.size with
       |true=>aa (.e (.one (.c (.sl (Oj tt u) ie.size (cU n u-cU 0 l) (lV (cU 0 l) es)))),gh n l u)
       |false=>af
      |none=>af
    |_=>af
def w5(op:BinOp)(k:IntKind)(a:Int)(k':IntKind)(b:Int):Option (D×List Prop) :=
 match zJ op k a k' b with
 |some (c,obs)=>aa (.e (.one (.c (.int k c))),obs)
 |none=>af
theorem qI{k k':IntKind}{a b:Int}{d:D}(h:w5 op k a k' b=aa (d,obs)):∃c,d=.e (.one (.c (.int k c)))/\zJ op k a k' b=aa (c,obs):=by unfold w5 at h;grind
def Nd(T:List (Nat×TI))(op:BinOp)(t:ay)(x y:D):Option (D×List Prop) :=
 match x,y with
 |.e (.one (.c (.bool a))),.e (.one (.c (.bool b)))=>match bz T t with
  |some i=>match i.desc with
   |.bool=>match kY op (a==b)with
    |some c=>aa (.e (.one (.c (.bool c))),[])
    |none=>af
   |_=>af
  |none=>af
 |.e (.one (.c a)),.e (.one (.c b))=>match op with
  |.xor=>match a,b with
   |.int .i64 a,.int .i64 b=>aa (.e (.one (.c (.int .i64 ((a.toNat ^^^ b.toNat:Nat):Int)))),[0<=a,0<=b])
   |.int .u64 a,.int k' b=>w5 .xor .u64 a k' b
   |_,_=>af
  |.shl=>match a,b with
   |.int k a,.int k' b=>w5 .shl k a k' b
   |_,_=>af
  |.shr=>match a,b with
   |.int k a,.int k' b=>w5 .shr k a k' b
   |_,_=>af
  |.and=>match a,b with
   |.int k a,.int k' b=>w5 .and k a k' b
   |_,_=>af
  |_=>match KV op a b with
   |some (c,obs)=>aa (.e (.one (.c c)),obs)
   |none=>af
 |.e (.agg cs),.e (.agg es)=>match bz T t with
  |some i=>match i.eq with
   |[]=>af
   |d::ds=>match Nf (d::ds) cs es with
    |some b=>match kY op b with
     |some c=>aa (.e (.one (.c (.bool c))),[])
     |none=>af
    |none=>af
  |none=>af
 |_,_=>af
def TP(T:List (Nat×TI))(CT:List (Nat×di))(φ:Fr)(o:aB):Option (D×List Prop) :=
 match o.op with
 |.move x|.assign x=>aa (bH φ x,[])
 |.index t x y=>match bz T t with
  |some i=>match i.desc with
   |.string=>match bH φ x,bH φ y with
    |.e (.one (.c (.str l))),.e (.one (.c (.int _ j)))=>aa (.e (.one (.c (.int .u8 (ik l j).toNat))),[0<=j,j<l.length])
    |_,_=>af
   |_=>af
  |none=>af
 |.indexAddr t x y=>match bz T t with
  |some i=>match i.desc with
   |.slice E=>match bz T E with
    |some ie=>match zY (bH φ x),bH φ y with
     |some (_,k,n,es),.e (.one (.c (.int _ j)))=>match av k ie.size with
      |true=>aa (.e (.one (.c (.rp (es j.toNat)))),[0<=j,j<n])
      |false=>af
     |_,_=>af
    |none=>af
   |_=>af
  |none=>af
 |.slice t x lo hi af=>B4 T (bH φ) t x lo hi
 |.convert src dst x=>G7 T src dst (bH φ x)
 |.call c=>match c.callee with
  |.builtin .len=>match c.args.toList,c.argTypes[0]? with
   |[x],aa t=>match Oi T t (bH φ x)with
    |some d=>aa (d,[])
    |none=>af
   |_,_=>af
  |.value fo=>zZ CT φ fo c.args.toList
  |_=>af
 |.pick c a b=>match bH φ c with
  |.e (.one (.c (.bool ab)))=>aa (bH φ a,[])
  |.e (.one (.c (.bool ae)))=>aa (bH φ b,[])
  |_=>af
 |.binOp op t x y _=>Nd T op t (bH φ x) (bH φ y)
 |.unOp op _ x=>match bH φ x with
  |.e (.one (.c a))=>match TQ op a with
   |some c=>aa (.e (.one (.c c)),[])
   |none=>af
  |_=>af
 |.extract x j=>match bH φ x with
  |.fe xs=>match eh j xs with
   |some e=>aa (.e e,[])
   |none=>af
  |_=>af
 |.fieldAddr t x f=>match iY T t f with
  |some (k,_)=>match bH φ x with
   |.e (.one (.ptr l off))=>aa (.e (.one (.ptr l (off+k))),[])
   |.e (.one (.c (.rp cs)))=>aa (.e (.one (.c (.rp (gH k cs)))),[])
   |_=>af
  |none=>af
 |.field t x f=>match iY T t f with
  |some (k,j)=>match bH φ x with
   |.e (.agg cs)=>match lU j (gH k cs)with
    |some e=>aa (.e e,[])
    |none=>af
   |_=>af
  |none=>af
 |.nilCheck x=>match bH φ x with
  |.e (.one (.ptr l off))=>aa (.e (.one (.ptr l off)),[])
  |.e (.one (.c (.rp cs)))=>aa (.e (.one (.c (.rp cs))),[])
  |_=>af
 |.build t parts=>match yy T (bH φ) t parts.toList with
  |some cs=>aa (.e (.agg cs),[])
  |none=>af
 |.buildSlice t n parts=>match KW T (bH φ) t n parts.toList with
  |some (k,es)=>aa (.e (.one (.c (.sl ab k n λi=>es.getD i []))),[])
  |none=>af
 |.makeFunc fn a b=>match uE (bH φ) a.toList with
  |some ca=>match uE (bH φ) b.toList with
   |some cb=>aa (.e (.one (.c (.fn fn ca cb))),[])
   |none=>af
  |none=>af
 |.makeInterface t x=>match bz T t with
  |some i=>match z0 i.desc with
   |false=>match tK t (bH φ x)with
    |some c=>aa (.e (.one (.c c)),[])
    |none=>af
   |true=>af
  |none=>af
 |_=>af
def G0(T:List (Nat×TI))(φ:Fr)(σ:List ba)(t:ay)(x:aC):Option D :=
 match bz T t with
 |some i=>match bH φ x with
  |.e (.one (.ptr l off))=>match eh l σ with
   |some (.cells _ cs)=>match lU i (gH off cs)with
    |some e=>aa (.e e)
    |none=>af
   |_=>af
  |.e (.one (.c (.rp cs)))=>match lU i (cs.map A.c)with
   |some e=>aa (.e e)
   |none=>af
  |_=>af
 |none=>af
def UJ(T:List (Nat×TI))(φ:Fr)(o:aB):Option (D×List Prop) :=
 match o.op with
 |.indexAddr t x y=>match bz T t with
  |some i=>match i.desc with
   |.slice E=>match bz T E with
    |some ie=>match bH φ x,bH φ y with
     |.e (.one (.bp l (.sl g k q m))),.e (.one (.c (.int _ j)))=>match av k ie.size with
      |true=>aa (.e (.one (.bp l (.el g ie.size (q+j.toNat) 0))),[0<=j,j<m])
      |false=>af
     |.e (.one (.c (.val (.slice (aa ⟨b,off,af⟩) n _)))),.e (.one (.c (.int _ j)))=>aa (.e (.one (.c (.val (.pointer (aa ⟨b,off+j.toNat*ie.size,af⟩))))),[0<=j,j<n])
     |_,_=>af
    |none=>af
   |_=>af
  |none=>af
 |.fieldAddr t x f=>match iY T t f with
  |some (k,_)=>match bH φ x with
   |.e (.one (.bp l (.el g a i q)))=>aa (.e (.one (.bp l (.el g a i (q+k)))),[])
   |.e (.one (.c (.val (.pointer (aa ⟨b,off,af⟩)))))=>aa (.e (.one (.c (.val (.pointer (aa ⟨b,off+k,af⟩))))),[])
   |_=>af
  |none=>af
 |.nilCheck x=>match bH φ x with
  |.e (.one (.bp l (.el g a i q)))=>aa (.e (.one (.bp l (.el g a i q))),[])
  |_=>af
 |.slice t x lo hi af=>match bz T t with
  |none=>af
  |some i=>match tc (bH φ) lo with
   |none=>af
   |some lw=>match tc (bH φ) hi with
    |none=>af
    |some u=>match i.desc with
     |.slice E=>match bz T E with
      |none=>af
      |some ie=>match bH φ x with
       |.e (.one (.bp l (.sl g k q m)))=>match av k ie.size with
        |true=>aa (.e (.one (.bp l (.sl g ie.size (q+cU 0 lw) (cU m u-cU 0 lw)))),gh m lw u)
        |false=>af
       |_=>af
     |_=>af
 |.slice t x af (aa y) (aa z)=>match bz T t with
  |none=>af
  |some i=>match i.desc with
   |.slice E=>match bz T E with
    |none=>af
    |some _=>match zY (bH φ x),bH φ y,bH φ z with
     |some (_,k,n,es),.e (.one (.c (.int _ j))),.e (.one (.c (.int _ m)))=>aa (.e (.one (.c (.sl ae k j.toNat es))),[0<=j,j<=m,m<=n])
     |_,_,_=>af
   |_=>af
 |.slice t x (aa w) (aa y) (aa z)=>match bz T t with
  |none=>af
  |some i=>match i.desc with
   |.slice E=>match bz T E with
    |none=>af
    |some _=>match bH φ x,bH φ w,bH φ y,bH φ z with
     |.e (.one (.bp _ (.sl _ _ _ n))),.e (.one (.c (.int _ i))),.e (.one (.c (.int _ j))),.e (.one (.c (.int _ m)))=>aa (.e (.one .any),[0<=i,i<=j,j<=m,m<=n])
     |_,_,_,_=>af
   |_=>af
 |.call c=>match c.callee with
  |.builtin .len=>match c.args.toList,c.argTypes[0]? with
   |[x],aa t=>match bz T t with
    |some i=>match i.desc with
     |.slice _=>match bH φ x with
      |.e (.one (.bp _ (.sl _ _ _ m)))=>aa (.e (.one (.c (.int .i64 m))),[])
      |.e (.one (.c (.val (.slice _ n _))))=>aa (.e (.one (.c (.int .i64 n))),[n<=9223372036854775807])
      |_=>af
     |_=>af
    |none=>af
   |_,_=>af
  |_=>af
 |_=>af
def yu(T:List (Nat×TI))(φ:Fr)(σ:List ba)(t:ay)(x:aC):Option (D×List Prop) :=
 match bz T t with
 |some it=>match bH φ x with
  |.e (.one (.bp l (.el g k i f)))=>match eh l σ with
   |some (.buf _ k' n es)=>match av k' k with
    |true=>match lU it ((gH f (es i)).map A.c)with
     |some e=>aa (.e e,[g=n,i<n])
     |none=>af
    |false=>af
   |_=>af
  |_=>af
 |none=>af
def G8:Nat->List C->Nat->Bool
 |0,cc,k=>av cc.length k
 |_+1,_,_=>ae
def yz(T:List (Nat×TI))(φ:Fr)(σ:List ba)(t:ay)(x y:aC):Option (D×List ba×List Prop) :=
 match bz T t with
 |some it=>match bH φ x with
  |.e (.one (.bp l (.el g k i f)))=>match eh l σ with
   |some (.buf E k' n es)=>match av k' k with
    |true=>match kg (bH φ y)with
     |some new=>match av new.length it.size with
      |true=>match gE new with
       |some cc=>match G8 f cc k with
        |true=>c9 (dL.rB l (.buf E k' n (n5 i cc es)) σ) λσ'=>aa (.any,σ',[g=n,i<n])
        |false=>match eQ f cc (es i)with
         |some ci=>c9 (dL.rB l (.buf E k' n (n5 i ci es)) σ) λσ'=>aa (.any,σ',[g=n,i<n])
         |none=>af
       |none=>af
      |false=>af
     |none=>af
    |false=>af
   |_=>af
  |_=>af
 |none=>af
def KS(T:List (Nat×TI))(CT:List (Nat×di))(φ:Fr)(σ:List ba)(o:aB):Option (D×List Prop) :=
 match o.op with
 |.load t x=>match G0 T φ σ t x with
  |some d=>aa (d,[])
  |none=>yu T φ σ t x
 |_=>match TP T CT φ o with
  |some r=>aa r
  |none=>UJ T φ o
def KX(T:List (Nat×TI))(t a:ay):Option (ay×TI) :=
 match bz T t with
 |none=>af
 |some i=>match bz T a with
  |none=>af
  |some i2=>match i.desc with
   |.slice E=>match i2.desc with
    |.slice E2=>match av E2 E with
     |false=>af
     |true=>match bz T E with
      |none=>af
      |some ie=>match bn 1 ie.bytes,bn 1 ie.size with
       |true,ab=>aa (E,ie)
       |_,_=>af
    |_=>af
   |_=>af
def G9(T:List (Nat×TI))(η:aC->D)(y:aC)(t a:ay):Option (ay×TI×Nat×(Nat->List C)) :=
 match KX T t a with
 |none=>af
 |some (E,ie)=>match zY (η y)with
  |none=>af
  |some (_,k',m,es')=>match av k' ie.size with
   |false=>af
   |true=>aa (E,ie,m,es')
def Ol(T:List (Nat×TI))(η:aC->D)(σ:List ba)(x y:aC)(t a:ay):Option (D×List ba×List Prop) :=
 match G9 T η y t a with
 |none=>af
 |some (E,ie,m,es')=>match η x with
  |.e (.one (.c (.sl ab k n es)))=>match av k ie.size with
   |true=>c9 (σ++[.vec E ie.size (n+m) (cD n es es')]) λσ'=>aa (.e (.one (.vec σ.length ie.size (n+m) (cD n es es'))),σ',[(n+m)*ie.bytes<=140737488355328,n=0∨0<m])
   |false=>match av n 0 with
    |true=>c9 (σ++[.vec E ie.size (n+m) (cD n es es')]) λσ'=>aa (.e (.one (.vec σ.length ie.size (n+m) (cD n es es'))),σ',[(n+m)*ie.bytes<=140737488355328,n=0∨0<m])
    |false=>af
  |.e (.one (.vec l k n es))=>match eh l σ with
   |some (.vec E' k2 n2 yb)=>match av E' E,av k ie.size,av k2 ie.size with
    |true,ab,ab=>c9 (dL.rB l (.vec E ie.size (n+m) (cD n es es')) σ) λσ'=>aa (.e (.one (.vec l ie.size (n+m) (cD n es es'))),σ',[n2=n,yb=es,(n+m)*ie.bytes<=140737488355328])
    |_,_,_=>af
   |_=>af
  |.e (.one (.bp l (.sl g k 0 n)))=>match eh l σ with
   |some (.buf E' k2 n2 yb)=>match av E' E,av k ie.size,av k2 ie.size with
    |true,ab,ab=>c9 (dL.rB l (.buf E ie.size (n2+m) (cD n2 yb es')) σ) λσ'=>aa (.e (.one (.bp l (.sl (n2+m) ie.size 0 (n2+m)))),σ',[g=n2,n=n2,(n2+m)*ie.bytes<=140737488355328])
    |_,_,_=>af
   |_=>af
  |_=>af
def UK(T:List (Nat×TI))(CT:List (Nat×di))(φ:Fr)(σ:List ba)(o:aB):Option (D×List ba×List Prop) :=
 match o.op with
 |.alloc _|.box _ _=>TR T φ σ o
 |.store t x y=>match TR T φ σ o with
  |some r=>aa r
  |none=>yz T φ σ t x y
 |.call c=>match c.callee with
  |.builtin .append=>match c.args.toList,c.argTypes.toList with
   |[x,y],[t,a]=>Ol T (bH φ) σ x y t a
   |_,_=>af
  |.value fo=>Ha CT φ σ fo c.args.toList
  |_=>af
 |_=>af
def Om(T:List (Nat×TI))(η:aC->D)(x y:aC)(t a:ay):Option (D×List Prop) :=
 match G9 T η y t a with
 |none=>af
 |some (_,ie,m,es')=>match η x with
  |.e (.one (.c (.sl ab k n es)))=>match av n 0 with
   |true=>aa (.e (.one (.c (.sl ae ie.size (n+m) (cD n es es')))),[(n+m)*ie.bytes<=140737488355328,n=0∨0<m])
   |false=>af
  |_=>af
def UL(T:List (Nat×TI))(φ:Fr)(o:aB):Option (D×List Prop) :=
 match o.op with
 |.call c=>match c.callee with
  |.builtin .append=>match c.args.toList,c.argTypes.toList with
   |[x,y],[t,a]=>Om T (bH φ) x y t a
   |_,_=>af
  |_=>af
 |_=>af
def z8:List (Nat×Bool)->Nat->Option Bool
 |[],_=>af
 |(i,b)::r,t=>match av i t with|true=>aa b|false=>z8 r t
def Uz(ds:List (Nat×Bool)):Option Nat->Bool
 |none=>ae
 |some t=>match z8 ds (2000000+t)with
  |some ab=>ab
  |_=>ae
def YO(ds:List (Nat×Bool)):Option Nat->Bool
 |none=>ae
 |some t=>match z8 ds (3000000+t)with
  |some ab=>ab
  |_=>ae
def On(E:ay)(ie:TI)(η:aC->D)(σ:List ba)(x y:aC):Option (D×List ba×List Prop) :=
 match η x,η y with
 |.e (.one (.bp l (.sl g k 0 i))),.e (.one (.bp l' (.sl g' k' j m)))=>match av l' l with
  |false=>af
  |true=>match eh l σ with
   |some (.buf E' k2 n es)=>match av E' E,av k ie.size,av k' ie.size,av k2 ie.size with
    |true,ab,ab,ab=>c9 (dL.rB l (.buf E ie.size n (EI i j m es)) σ) λσ'=>aa (.e (.one (.bp l (.sl n ie.size 0 (i+m)))),σ',[g=n,g'=n,i+m<=n,j+m<=n])
    |_,_,_,_=>af
   |_=>af
 |_,_=>af
def appW(w:Bool)(T:List (Nat×TI))(η:aC->D)(σ:List ba)(x y:aC)(t a:ay):Option (D×List ba×List Prop) :=
 match w with
 |true=>match G9 T η y t a with
  |none=>af
  |some (E,ie,m,es')=>match η x with
   |.e (.one (.c (.sl ab _ n es)))=>match av n 0 with
    |true=>c9 (σ++[.buf E ie.size (0+m) (cD 0 es es')]) λσ'=>aa (.e (.one (.bp σ.length (.sl (0+m) ie.size 0 (0+m)))),σ',[(0+m)*ie.bytes<=140737488355328])
    |false=>af
   |_=>af
 |false=>match KX T t a with
  |none=>af
  |some (E,ie)=>On E ie η σ x y
def TS(w:Bool)(T:List (Nat×TI))(φ:Fr)(σ:List ba)(o:aB):Option (D×List ba×List Prop) :=
 match o.op with
 |.call c=>match c.callee with
  |.builtin .append=>match c.args.toList,c.argTypes.toList with
   |[x,y],[t,a]=>appW w T (bH φ) σ x y t a
   |_,_=>af
  |_=>af
 |_=>af
def Rf(ds:List (Nat×Bool))(T:List (Nat×TI))(CT:List (Nat×di))(φ:Fr)(σ:List ba)(o:aB):Option (D×List ba×List Prop) :=
 match YO ds o.dst with
 |true=>TS ab T φ σ o
 |false=>match UK T CT φ σ o with
  |some r=>aa r
  |none=>TS ae T φ σ o
def G5(ds:List (Nat×Bool))(d:Option Nat)(x:D)(obs:List Prop):Option (D×List Prop) :=
 match d with
 |none=>aa (x,obs)
 |some t=>match z8 ds t with
  |none=>aa (x,obs)
  |some b=>match x with
   |.e (.one (.c (.bool e)))=>aa (.e (.one (.c (.bool b))),jC obs [e=b])
   |_=>af
def KY{d:Option Nat}{x y:D}{a:List Prop}(h:G5 ds d x obs=aa (y,a))(b:au a):y=x/\au obs:=by
 unfold G5 at h;split at h
 .grind
 .split at h
  .grind
  .split at h
   .cases h;rw[au.cat]at b;have:_=_:=b.2;grind
   grind
def wv(T:List (Nat×TI))(CT:List (Nat×di))(ds:List (Nat×Bool))(all:List aB)(φ:Fr)(σ:List ba)(o:aB):Option (D×Option (List ba)×List Prop) :=
 let go:Option (D×Option (List ba)×List Prop):=match KS T CT φ σ o with
  |some (x,obs)=>match G5 ds o.dst x obs with
   |some (y,a)=>mR y λy=>aa (y,af,a)
   |none=>af
  |none=>match Uz ds o.dst with
   |true=>match UL T φ o with
    |some (x,obs)=>mR x λx=>aa (x,af,obs)
    |none=>af
   |false=>match Rf ds T CT φ σ o with
    |some (x,σ',obs)=>mR x λx=>aa (x,aa σ',obs)
    |none=>af
 match o.guard with
 |none=>go
 |some (j,b)=>match yA φ all j with
  |some (aa b')=>match b,b' with
   |true,ab=>go
   |false,ae=>go
   |_,_=>aa (.fe [],af,[])
  |some af=>aa (.fe [],af,[])
  |none=>af
section
variable {X:Cx P}{T:List (Nat×TI)}{CT:List (Nat×di)}
def DH(e:c6 P T){a:ay}{ie:TI}(g:o.op=.call {callee:=.builtin .append,args:=#[x,y],argTypes:=#[t,a]})(h:KX T t a=aa (E,ie)):kQ P o x y E ie:=by
 unfold KX at h;split at h
 .cases h
 rename_i i hi;split at h
 .cases h
 rename_i i2 QM;split at h
 case h_2=>cases h
 rename_i E j;split at h
 case h_2=>cases h
 rename_i E2 YP;split at h
 .cases h
 rename_i b;have f:=bT b;subst f;split at h
 .cases h
 rename_i ie YQ;split at h
 case h_2=>cases h
 rename_i d c;cases h;exact⟨⟨t,a,i,i2,g,e t i hi,j,e a i2 QM,YP⟩,e _ _ YQ,by have:=dy d;omega,by have:=dy c;omega⟩
def yB(e:c6 P T){b:ay}{ie:TI}{m:Nat}{es':Nat->List C}(d:o.op=.call {callee:=.builtin .append,args:=#[x,y],argTypes:=#[t,b]})(h:G9 T η y t b=aa (E,ie,m,es')):
  kQ P o x y E ie/\∃tx,∀σ s v,dc σ s v (η y)->Rd s.M v (.sl tx ie.size m es'):=by
 unfold G9 at h;split at h
 .cases h
 rename_i f;split at h
 .cases h
 rename_i tx k' m es' hy;split at h
 .cases h
 rename_i a;have c:=bT a;subst c;cases h;exact⟨DH e d f,tx,λσ s v=>oP hy σ s v⟩
theorem KZ(l:c6 P T)(i:∀σ s a,cf N σ s φ a->aX o (yielded all.toArray a.tmps)=ab){f:ay}{d:D}(j:o.op=.call {callee:=.builtin .append,args:=#[x,y],argTypes:=#[t,f]})(h:Om T (bH φ) x y t f=aa (d,obs))(b:au obs):OA X N all o φ σ d σ:=by
 unfold Om at h;split at h
 .cases h
 rename_i E2 ie m es' hY;obtain⟨e,tx,c⟩:=yB l j hY;have c:=λs v=>c σ s v;split at h
 .rename_i k n es hx;split at h
  .rename_i g;cases h;exact(OA.l0 i (bx.nN e hx (.inr (bT g)) c b.1 b.2)).Ro
  grind
 grind
theorem K1(E:c6 P T){B:ay}{d:D}(F:o.op=.call {callee:=.builtin .append,args:=#[x,y],argTypes:=#[t,B]})(h:Ol T η σ x y t B=aa (d,σ',obs))(a:au obs):bx P o η σ d σ':=by
 unfold Ol at h;split at h
 .cases h
 rename_i E2 ie m es' hY;obtain⟨b,tx,c⟩:=yB E F hY;have c:=λs v=>c σ s v;split at h
 .rename_i k n es hx;split at h
  .rename_i G;rw[cM]at h;cases h;exact bx.nN b hx (.inl (bT G)) c a.1 a.2
  .split at h
   .rename_i C;rw[cM]at h;cases h;exact bx.nN b hx (.inr (bT C)) c a.1 a.2
   grind
 .rename_i l k n es hx;split at h
  .rename_i H I e yb hl;split at h
   .rename_i r A z;rw[cM,kA]at h;cases h;obtain⟨u,w,q⟩:e=n/\yb=es/\_:=a;subst u;subst w;have j:=bT r;subst j;have i:=bT A;have f:=bT z;subst f;subst i;exact bx.EK b hx (cT hl) c q
   grind
  grind
 .rename_i l g k n hx;split at h
  .rename_i H I e yb hl;split at h
   .rename_i r A z;rw[cM,kA]at h;cases h;obtain⟨u,w,q⟩:g=e/\n=e/\_:=a;subst u;subst w;have j:=bT r;subst j;have i:=bT A;have f:=bT z;subst f;subst i;exact bx.K2 b hx (cT hl) c q
   grind
  grind
 grind
theorem K3(b:c6 P T){d:D}(a:o.op=.call {callee:=.builtin .len,args:=#[x],argTypes:=jK})(e:jK[0]?=aa t)(h:Oi T t (η x)=aa d):bx P o η σ d σ:=by
 unfold Oi at h;split at h
 .cases h
 rename_i i hi;split at h
 .rename_i E c;split at h
  .rename_i tt k n es hs;cases h;exact bx.Rq b a e hi c (λs v=>oP hs σ s v)
  grind
 .grind [bx.Oo]
 grind
theorem Hb(m:c6 P T){a b:ay}{d:D}(l:o.op=.convert a b x)(h:G7 T a b (η x)=aa (d,obs))(c:au obs):bx P o η σ d σ:=by
 unfold G7 at h;split at h
 .cases h
 rename_i i hi;split at h
 .cases h
 rename_i i2 QM;split at h
 .rename_i k' hd;split at h
  .rename_i k j t;cases h;exact bx.K4 m l hi QM hd t c
  grind
 .rename_i hd;split at h
  .grind [bx.K5]
  .split at h
   .rename_i E g;split at h
    .rename_i ie hE;split at h
     .rename_i f;split at h
      .rename_i tt k n es hs;split at h
       .rename_i q;have e:=bT q;subst e;split at h
        .rename_i r u;cases h;exact bx.ER m l hi QM g hd hE f (λs v=>oP hs σ s v) u
        grind
       grind
      grind
     grind
    grind
   grind
 grind
theorem ES(f:c6 P T){lo hi:Option aC}{d:D}(e:o.op=.slice t x lo hi af)(h:B4 T η t x lo hi=aa (d,obs))(a:au obs):bx P o η σ d σ:=by
 unfold B4 at h;split at h
 .cases h
 rename_i i b;split at h
 .cases h
 rename_i l g;split at h
 .cases h
 rename_i u c;split at h
 .grind [bx.Hc]
 .grind [Nat.eq_of_beq_eq_true,bx.K6,oP]
 grind
theorem uF{xs:Array α}{x:α}(h:xs.toList=[x]):xs=#[x]:=Array.ext' h
theorem uG{xs:Array α}{x y:α}(h:xs.toList=[x,y]):xs=#[x,y]:=Array.ext' h
theorem Oq(C:c6 P T)(O:bA X CT){d:D}(h:TP T CT φ o=aa (d,obs))(g:au obs)(u:∀σ s a,cf N σ s φ a->aX o (yielded all.toArray a.tmps)=ab):OA X N all o φ σ d σ:=by
 unfold TP at h;split at h
 .grind [OA.l0,bx.move]
 .grind [OA.l0,bx.assign]
 .rename_i t x y w;split at h
  .rename_i i hi;split at h
   .rename_i F;split at h
    .rename_i l k j r A;cases h;obtain⟨L,K⟩:0<=j/\j<(l.length:Int):=g;have:=bx.Hd (σ:=σ) (m:=j.toNat) C w hi F r A (by omega) (by omega);have e:ik l j=l[j.toNat]'(by omega):=by simp[ik,ai,bd (by omega:j.toNat<l.length)]
     grind[OA.l0]
    grind
   grind
  grind
 .rename_i t x y w;split at h
  .rename_i i hi;split at h
   .rename_i E F;split at h
    .rename_i ie hE;split at h
     .rename_i tt k n es k2 j r A;split at h
      .rename_i J;cases h;obtain⟨L,K⟩:0<=j/\j<(n:Int):=g;have e:=bT J;subst e;exact OA.l0 u (bx.indexAddr (m:=j.toNat) C w hi F hE (λs v=>oP r σ s v) A (by omega) (by omega))
      grind
     grind
    grind
   grind
  grind
 .grind [OA.l0,ES]
 .grind [OA.l0,Hb]
 .rename_i c w;obtain⟨I,args,jK⟩:=c;grind[uF,OA.l0,K3,OA.zZ]
 .rename_i c a b q;split at h
  .rename_i B;cases h;exact OA.l0 u (bx.pick q B)
  .rename_i B;cases h;exact OA.l0 u (bx.pick q B)
  grind
 .rename_i op t y z ty q;unfold Nd at h;split at h
  .grind [OA.l0,bx.Ot]
  .rename_i a b _ G H;split at h
   .split at h
    .rename_i _ _ a' b' _ _;cases h;exact OA.l0 u (bx.Rr q G H g.1 g.2)
    .grind [qI,OA.l0,bx.bits]
    grind
   .grind [qI,OA.l0,bx.bits]
   .grind [qI,OA.l0,bx.bits]
   .grind [qI,OA.l0,bx.bits]
   grind[OA.l0,bx.binOp]
  .rename_i cs es G H;split at h
   .grind [OA.l0,bx.structEq]
   grind
  grind
 .grind [OA.l0,bx.unOp]
 .grind [OA.l0,bx.extract,cT]
 .rename_i t y f q;split at h
  .rename_i k j M;split at h
   .rename_i l off r;cases h;exact OA.l0 u (bx.qJ C q r M)
   .grind [OA.l0,bx.sA]
   grind
  grind
 .grind [OA.l0,bx.field]
 .grind [OA.l0,bx.sC,bx.uH]
 .grind [OA.l0,bx.build]
 .grind [OA.l0,bx.buildSlice]
 .grind [OA.l0,bx.makeFunc]
 .grind [OA.l0,bx.makeInterface]
 grind
theorem Ou(C:c6 P T){d:D}(h:UJ T φ o=aa (d,obs))(e:au obs):bx P o (bH φ) σ d σ:=by
 unfold UJ at h;split at h
 .rename_i t x y u;split at h
  .rename_i i hi;split at h
   .rename_i E B;split at h
    .rename_i ie hE;split at h
     .rename_i l g k q m kk j r G;split at h
      .rename_i S;cases h;obtain⟨F,H⟩:0<=j/\j<(m:Int):=e;grind[Nat.eq_of_beq_eq_true,bx.UM]
      grind
     .rename_i b off n cap kk j r G;cases h;obtain⟨F,H⟩:0<=j/\j<(n:Int):=e;grind[bx.z9]
     grind
    grind
   grind
  grind
 .rename_i t x f u;split at h
  .rename_i k j K;split at h
   .rename_i l g V i q r;cases h;exact bx.Ov C u r K
   .rename_i b off r;cases h;exact bx.Ow C u r K
   grind
  grind
 .grind [bx.UN]
 .rename_i t x lo hi u;split at h
  .cases h
  rename_i i A;split at h
  .cases h
  rename_i Q U;split at h
  .cases h
  grind[Nat.eq_of_beq_eq_true,bx.sliceB]
 .rename_i t x y z u;split at h
  .cases h
  rename_i i A;split at h
  .rename_i E B;split at h
   .cases h
   rename_i ie hE;split at h
   .rename_i tt k n es kj j M m r G I;cases h;obtain⟨F,H,J⟩:0<=j/\j<=m/\m<=(n:Int):=e;exact bx.slice3 C u A B hE (λs v=>oP r σ s v) G I F H J
   grind
  grind
 .rename_i t x w y z u;split at h
  .cases h
  rename_i i A;split at h
  .rename_i E B;split at h
   .cases h
   rename_i ie hE;split at h
   .rename_i l g k q n O i kj j M m r W G I;cases h;obtain⟨F,H,J,R⟩:0<=i/\i<=j/\j<=m/\m<=(n:Int):=e;grind[bx.slice3B]
   grind
  grind
 .rename_i c u;obtain⟨N,args,jK⟩:=c;simp only at h;split at h
  .split at h
   .rename_i x t r L;split at h
    .rename_i i hi;split at h
     .rename_i E B;split at h
      .grind [uF,bx.UO]
      .rename_i a n cap YR;cases h;have:=uF r;subst this;exact bx.UP C u L hi B YR e
      grind
     grind
    grind
   grind
  grind
 grind
theorem ET(j:c6 P T)(c:o.op=.load t x){d:D}(h:yu T φ σ t x=aa (d,obs))(a:au obs):bx P o (bH φ) σ d σ:=by
 unfold yu at h;split at h
 .rename_i r hi;split at h
  .rename_i l g k i f q;split at h
   .rename_i E k' n es hB;split at h
    .rename_i m;have e:=bT m;subst e;split at h
     .rename_i e b;cases h;exact bx.Rs j c q a.1 (cT hB) hi b a.2
     grind
    grind
   grind
  grind
 grind
theorem B5(m:c6 P T)(j:o.op=.store t x y){d:D}(h:yz T φ σ t x y=aa (d,σ',obs))(a:au obs):bx P o (bH φ) σ d σ':=by
 unfold yz at h;split at h
 .rename_i v hi;split at h
  .rename_i l g k i f q;split at h
   .rename_i E k' n es hB;split at h
    .rename_i s;have e:=bT s;subst e;split at h
     .rename_i new hy;split at h
      .rename_i c;split at h
       .rename_i cc MZ;split at h
        .rename_i r;rw[cM,kA]at h;cases h;have b:f=0/\cc.length=k':=by
          cases f with
          |zero=>exact⟨rfl,bT r⟩
          |succ f=>simp[G8]at r
         obtain⟨rfl,b⟩:=b;exact bx.He m j q a.1 (cT hB) hi hy (bT c) MZ (λu=>qK (by grind)) a.2
        .split at h
         .rename_i ci UQ;rw[cM,kA]at h;cases h;exact bx.He m j q a.1 (cT hB) hi hy (bT c) MZ (λ_=>UQ) a.2
         grind
       grind
      grind
     grind
    grind
   grind
  grind
 grind
theorem Ox(i:c6 P T)(j:bA X CT){d:D}(h:KS T CT φ σ o=aa (d,obs))(c:au obs)(f:∀σ s a,cf N σ s φ a->aX o (yielded all.toArray a.tmps)=ab):OA X N all o φ σ d σ:=by
 unfold KS at h;split at h
 .rename_i t y e;split at h
  .rename_i g b;cases h;unfold G0 at b;split at b
   .grind [OA.l0,bx.DI,cT,bx.Hf]
   grind
  grind[OA.l0,ET]
 grind[Oq,OA.l0,Ou]
theorem Oy(i:c6 P T)(j:bA X CT){d:D}(h:UK T CT φ σ o=aa (d,σ',obs))(b:au obs)(f:∀σ s a,cf N σ s φ a->aX o (yielded all.toArray a.tmps)=ab):OA X N all o φ σ d σ':=by
 unfold UK at h;split at h
 .grind [OA.l0,B6]
 .grind [OA.l0,B6]
 .grind [OA.l0,B6,B5]
 .rename_i c g;obtain⟨e,args,jK⟩:=c;grind[uG,OA.l0,K1,OA.call]
 grind
def K7{ie:TI}{d:D}(a:kQ P o x y E ie)(h:On E ie η σ x y=aa (d,σ',obs))(b:au obs):bx P o η σ d σ':=by
 unfold On at h;split at h
 .rename_i l g k i l' g' k' j m B t;split at h
  .cases h
  rename_i c;have el:=bT c;subst el;split at h
  .rename_i F G n es hl;split at h
   .rename_i C v s q4;have e:=bT C;have q:=bT v;have r:=bT s;have w:=bT q4;rw[cM]at h;cases h;obtain⟨z,A,f,u⟩:=b;subst z A e q r w;have:=bx.GD (σ:=σ) a B t (cT hl) f u;grind[kA]
   grind
  grind
 grind
theorem K8(f:c6 P T){w:Bool}{g:ay}{d:D}(e:o.op=.call {callee:=.builtin .append,args:=#[x,y],argTypes:=#[t,g]})(h:appW w T η σ x y t g=aa (d,σ',obs))(a:au obs):bx P o η σ d σ':=by
 unfold appW at h;split at h
 .split at h
  .cases h
  rename_i E2 ie m es' hY;obtain⟨b,tx,c⟩:=yB f e hY;split at h
  .rename_i k n es hx;split at h
   .rename_i i;have j:=bT i;subst j;rw[cM]at h;cases h;exact bx.EH b hx (λs v=>c _ s v) a
   grind
  grind
 .split at h
  .cases h
  rename_i l;exact K7 (DH f e l) h a
theorem Oz(i:c6 P T)(j:bA X CT){d:D}(h:Rf ds T CT φ σ o=aa (d,σ',obs))(b:au obs)(f:∀σ s a,cf N σ s φ a->aX o (yielded all.toArray a.tmps)=ab):OA X N all o φ σ d σ':=by
 have key:∀w,TS w T φ σ o=aa (d,σ',obs)->OA X N all o φ σ d σ':=by
  intro w h;unfold TS at h;split at h
  .rename_i c g;obtain⟨e,args,jK⟩:=c;grind[uG,OA.l0,K8]
  grind
 unfold Rf at h;grind[Oy]
def gD(A:c6 P T)(B:bA X CT){d:D}{σ':Option (List ba)}(h:wv T CT ds all φ σ o=aa (d,σ',obs))(k:au obs):OA X N all o φ σ d (σ'.getD σ):=by
 have go:(∀σ s a,cf N σ s φ a->aX o (yielded all.toArray a.tmps)=ab)->(match KS T CT φ σ o with
  |some (x,obs)=>match G5 ds o.dst x obs with
   |some (y,l)=>mR y λy=>aa (y,af,l)
   |none=>af
  |none=>match Uz ds o.dst with
   |true=>match UL T φ o with
    |some (x,obs)=>mR x λx=>aa (x,af,obs)
    |none=>af
   |false=>match Rf ds T CT φ σ o with
    |some (x,σ',obs)=>mR x λx=>aa (x,aa σ',obs)
    |none=>af)=aa (d,σ',obs)->OA X N all o φ σ d (σ'.getD σ):=by
  intro w h;split at h
  .rename_i x g v;split at h
   .rename_i y n r;rw[l9]at h;cases h;obtain⟨rfl,C⟩:=KY r k;grind[Ox]
   grind
  .split at h
   .split at h
    .rename_i x g q;rw[l9]at h;cases h;unfold UL at q;split at q
     .rename_i c z;obtain⟨t,args,jK⟩:=c;grind[uG,KZ]
     grind
    grind
   grind[l9,Oz]
 unfold wv at h;simp only at h;split at h
 .grind [dC]
 .rename_i j b i;split at h
  .rename_i m e;have u:∀σ s a,cf N σ s φ a->aX o (yielded all.toArray a.tmps)=(aa m==aa b):=λσ s a f=>by simp only[aX,i,oQ e f]
   split at h
   .grind
   .grind
   .cases h;refine OA.pass (λσ s a f=>(u σ s a f).trans ?_);cases b<;>cases m<;>simp_all
  .rename_i e;cases h;exact OA.pass (λσ s a f=>by simp only[aX,i,oQ e f];rfl)
  grind
end
variable {CT:List (Nat×di)}{K:List It}{Qf:Post}{T:List (Nat×TI)}{ie:TI}
def Gt(φ:Fr)(o:aB):Bool:=match o.op with
 |.load _ x=>match bH φ x with
  |.e (.one (.c (.rp _)))=>ae
  |_=>ab
 |_=>ae
def GZ{σ2:List ba}(h:Gt φ o=ae):KS T CT φ σ o=KS T CT φ σ2 o:=by
 unfold KS;split
 .rename_i t x a;simp only[Gt,a]at h;split at h
  .rename_i cs hx;simp only[G0,yu,hx]
  grind
 .rfl
def G1{d:D}(h:Gt φ o=ae)(a:wv T CT ds all φ σ o=aa (d,af,obs))(σ2:List ba):
  wv T CT ds all φ σ2 o=aa (d,af,obs):=by
 unfold wv at a⊢;simp only at a⊢;rw[GZ (σ2:=σ) h];cases c:KS T CT φ σ o with
 |some r=>grind
 |none =>
  simp only[c]at a⊢;cases b:Uz ds o.dst with
  |true=>grind
  |false =>
   simp only[b]at a⊢;have key:∀{y:Option (D×Option (List ba)×List Prop)},(match Rf ds T CT φ σ o with|some (x,σ',obs)=>mR x λx=>aa (x,aa σ',obs)|none=>af)=y->y≠aa (d,af,obs):=by grind[l9]
   split at a
   .grind
   grind
def nZ(t:Nat):List aB->Bool
 |[]=>ae
 |o::r=>match o.dst with
  |some d=>match av d t with|true=>ab|false=>nZ t r
  |none=>nZ t r
theorem qD{t:Nat}:∀{l:List aB}{i:Nat}{o:aB},l[i]?=aa o->o.dst=aa t->nZ t l=ab
 |[],_,_,h,_=>by grind
 |p::r,0,o,h,a=>by simp at h;subst h;simp[nZ,a,j9]
 |p::r,i+1,o,h,a=>by have:=qD (l:=r) (by simpa using h) a;simp only[nZ];grind
theorem oN{t:Nat}:∀{l:List aB},nZ t l=ab->∃(i:Nat)(o:aB),l[i]?=aa o/\o.dst=aa t
 |[],h=>by cases h
 |p::r,h=>by
  simp only[nZ]at h;split at h
  .rename_i d e;split at h
   .rename_i c;exact⟨0,p,rfl,by grind[Nat.eq_of_beq_eq_true]⟩
   .obtain⟨i,o,b,a⟩:=oN h;exact⟨i+1,o,by grind,a⟩
  .obtain⟨i,o,b,a⟩:=oN h;exact⟨i+1,o,by grind,a⟩
def ma:List aB->Bool
 |[]=>ab
 |o::r=>match o.dst with
  |some d=>match nZ d r with|true=>ae|false=>ma r
  |none=>ma r
theorem rE{t:Nat}:∀{l:List aB}{i j:Nat}{o p:aB},ma l=ab->l[i]?=aa o->l[j]?=aa p->o.dst=aa t->p.dst=aa t->i=j
 |[],_,_,_,_,_,h,_,_,_=>by grind
 |q::r,0,0,_,_,_,_,_,_,_=>rfl
 |q::r,0,j+1,o,p,a,c,b,d1,d2=>by simp at c;subst c;simp only[ma,d1]at a;grind[qD]
 |q::r,i+1,0,o,p,a,c,b,d1,d2=>by simp at b;subst b;simp only[ma,d2]at a;grind[qD]
 |q::r,i+1,j+1,o,p,a,c,b,d1,d2=>by
  have:ma r=ab:=by simp only[ma]at a;grind
  have f:r[i]?=aa o:=by grind
  have d:r[j]?=aa p:=by grind
  have e:=rE this f d d1 d2;omega
def tb(all:List aB):Fr->Fr
 |[]=>[]
 |(t,d)::r=>match nZ t all with|true=>tb all r|false=>(t,d)::tb all r
def kK{all:List aB}{t:Nat}:∀{φ:Fr},look (tb all φ) t=if nZ t all=ab then .any else look φ t
 |[]=>by simp[tb,look]
 |(u,d)::r=>by
  simp only[tb];by_cases b:av u t=ab
  .have e:=bT b;subst e;cases c:nZ u all with
   |true=>simp only;rw[kK];grind
   |false=>simp[look]
  .have a:av u t=ae:=by grind
   cases c:nZ u all with
   |true=>simp only;rw[kK];simp[look,a]
   |false=>simp only[look,a,cond];rw[kK]
def bM:List Edge->List Nat
 |[]=>[]
 |e::r=>match e.ground with
  |.textOnly _=>bM r
  |.gcOnly _=>bM r
  |_=>e.on::bM r
theorem ei{j:Nat}:∀{l:List Edge},j∈bM l↔∃e∈l,cZ e=ab/\e.on=j
 |[]=>by simp[bM]
 |e::r=>by
  have c:=ei (j:=j) (l:=r);have yes:bM (e::r)=e.on::bM r->cZ e=ab->(j∈bM (e::r)↔∃a∈e::r,cZ a=ab/\a.on=j):=by grind
  have no:bM (e::r)=bM r->cZ e=ae->(j∈bM (e::r)↔∃a∈e::r,cZ a=ab/\a.on=j):=by grind
  cases b:e.ground with
  |textOnly w=>exact no (by simp only[bM,b]) (by unfold cZ Region.binds;grind)
  |gcOnly w=>exact no (by simp only[bM,b]) (by unfold cZ Region.binds;grind)
  |_=>exact yes (by simp only[bM,b]) (by unfold cZ Region.binds;rw[b])
def uy(i t:Nat):List aB->Bool
 |[]=>ae
 |o::r=>match o.dst with
  |some d=>match av d t with
   |true=>match gK i (bM o.after.toList)with
    |true=>uy i t r
    |false=>ab
   |false=>uy i t r
  |none=>uy i t r
def uz{i t:Nat}:∀{l:List aB},uy i t l=ae->∀(j:Nat)(o:aB),l[j]?=aa o->o.dst=aa t->gK i (bM o.after.toList)=ab
 |[],_,j,o,h,_=>by grind
 |p::r,h,0,o,a,b=>by simp at a;subst a;simp only[uy,b,j9]at h;grind
 |p::r,h,j+1,o,a,b=>by
  have:uy i t r=ae:=by simp only[uy]at h;grind
  exact uz this j o (by grind) b
def n3(all:List aB):Fr->List (Nat×D×Bool)
 |[]=>[]
 |(t,d)::r=>match nZ t all with
  |true=>(t,d,ab)::n3 all r
  |false=>(t,d,ae)::n3 all r
def jT(i:Nat)(all:List aB):List (Nat×D×Bool)->Fr
 |[]=>[]
 |(t,d,b)::r=>match b with
  |false=>(t,d)::jT i all r
  |true=>match uy i t all with
   |true=>jT i all r
   |false=>(t,d)::jT i all r
def wX{i:Nat}{all:List aB}{t:Nat}:∀{φ:Fr},look (jT i all (n3 all φ)) t=if nZ t all=ab/\uy i t all=ab then .any else look φ t
 |[]=>by simp[n3,jT,look]
 |(u,d)::r=>by
  have e:=wX (i:=i) (all:=all) (t:=t) (φ:=r);have keep:look ((u,d)::jT i all (n3 all r)) t=if av u t=ab then d else look (jT i all (n3 all r)) t:=by simp only[look];cases av u t<;>rfl
  have b:look ((u,d)::r) t=if av u t=ab then d else look r t:=by simp only[look];cases av u t<;>rfl
  cases a:nZ u all with
  |false =>
   simp only[n3,a,jT];grind[Nat.eq_of_beq_eq_true]
  |true =>
   cases c:uy i u all with
   |true =>
    simp only[n3,a,jT,c];grind[Nat.eq_of_beq_eq_true]
   |false =>
    simp only[n3,a,jT,c];grind[Nat.eq_of_beq_eq_true]
def iE(m:Nat->Bool):Nat->List (Option Nat×D)->Fr->Fr
 |_,[],φ=>φ
 |i,(d,x)::r,φ=>match m i with
  |true=>match d with
   |some t=>(t,x)::iE m (i+1) r φ
   |none=>iE m (i+1) r φ
  |false=>iE m (i+1) r φ
def mc{m:Nat->Bool}{φ:Fr}{t:Nat}:∀{l:List (Option Nat×D)}{i:Nat},(∃j x,l[j]?=aa (aa t,x)/\m (i+j)=ab/\look (iE m i l φ) t=x)∨look (iE m i l φ) t=look φ t
 |[],i=>.inr rfl
 |(d,x)::r,i=>by
  have f:=mc (m:=m) (φ:=φ) (t:=t) (l:=r) (i:=i+1);have step:look (iE m i ((d,x)::r) φ) t=look (iE m (i+1) r φ) t->((∃j a,((d,x)::r)[j]?=aa (aa t,a)/\m (i+j)=ab/\look (iE m i ((d,x)::r) φ) t=a)∨look (iE m i ((d,x)::r) φ) t=look φ t):=by
   intro e;rw[e];rcases f with⟨j,a,o,n,g⟩|h
   .exact .inl ⟨j+1,a,by grind,by grind,g⟩
   grind
  cases b:m i with
  |false=>exact step (by simp[iE,b])
  |true =>
   cases d with
   |none=>exact step (by simp[iE,b])
   |some u =>
    by_cases k:av u t=ab
    .have e:=bT k;subst e;exact .inl ⟨0,x,rfl,by grind,by simp[iE,b,look]⟩
    .have c:av u t=ae:=by grind
     exact step (by simp[iE,b,look,c])
structure BD where
 i:Nat
 pre:List (Option Nat×D)
 σ:List ba
 cls:List (List Bool)
 yv:List Bool
 KT:List Bool
 obs:List Prop
def QJ(i:Nat):List Nat->Bool
 |[]=>ab
 |k::r=>match Nat.blt k i with|true=>QJ i r|false=>ae
def BX{i:Nat}:∀{l:List Nat},QJ i l=ab->∀k∈l,k<i
 |[],_,k,h=>by grind
 |x::r,h,k,a=>by
  simp only[QJ]at h;cases b:Nat.blt x i with
  |false=>grind
  |true =>
   simp only[b]at h;rcases dD.1 a with rfl|a
   .exact dy b
   .exact BX h k a
def bit:List Bool->Nat->Bool
 |[],_=>ae
 |b::_,0=>b
 |_::r,n+1=>bit r n
def wx:List Bool->List Bool->List Bool
 |[],b=>b
 |true::a,[]=>ab::a
 |false::a,[]=>ae::a
 |true::a,_::b=>ab::wx a b
 |false::a,ab::b=>ab::wx a b
 |false::a,ae::b=>ae::wx a b
def lC:∀{a b:List Bool}{j:Nat},bit (wx a b) j=(bit a j||bit b j)
 |[],b,j=>by simp[wx,bit]
 |true::a,[],j=>by simp[wx,bit]
 |false::a,[],j=>by simp[wx,bit]
 |true::a,c::b,0=>by simp[wx,bit]
 |true::a,c::b,j+1=>by simp only[wx,bit];exact lC
 |false::a,ab::b,0=>by simp[wx,bit]
 |false::a,ab::b,j+1=>by simp only[wx,bit];exact lC
 |false::a,ae::b,0=>by simp[wx,bit]
 |false::a,ae::b,j+1=>by simp only[wx,bit];exact lC
def rF:Nat->List Bool
 |0=>[ab]
 |n+1=>ae::rF n
theorem qE:∀{n j:Nat},bit (rF n) j=decide (n=j)
 |0,0=>rfl
 |0,j+1=>by simp[rF,bit]
 |n+1,0=>by simp[rF,bit]
 |n+1,j+1=>by simp only[rF,bit,qE];simp
def Dz(a:List (List Bool)):List Nat->List Bool
 |[]=>[]
 |e::r=>match eh e a with
  |some c=>wx (wx c (rF e)) (Dz a r)
  |none=>wx (rF e) (Dz a r)
theorem yw{b:List (List Bool)}{j:Nat}:∀{l:List Nat},bit (Dz b l) j=ab->∃e∈l,e=j∨∃c,b[e]?=aa c/\bit c j=ab
 |[],h=>by simp[Dz,bit]at h
 |e::r,h=>by
  simp only[Dz,eJ]at h;have two:∀{a:Nat},bit (rF e) a=ab->e=a:=by grind[qE]
  have rest:bit (Dz b r) j=ab->∃d∈e::r,d=j∨∃c,b[d]?=aa c/\bit c j=ab:=by intro h;obtain⟨d,i,g⟩:=yw h;grind
  split at h
  .rename_i c f;rw[lC,lC,lS,lS]at h;grind
  .rw[lC,lS]at h;grind
def rG:List Bool->List Bool->Bool
 |[],_=>ab
 |true::a,ab::b=>rG a b
 |true::_,_=>ae
 |false::a,_::b=>rG a b
 |false::a,[]=>rG a []
theorem oO:∀{a b:List Bool}{j:Nat},rG a b=ab->bit a j=ab->bit b j=ab
 |[],b,j,_,d=>by simp[bit]at d
 |true::a,ab::b,0,_,_=>rfl
 |true::a,ab::b,j+1,h,d=>by simp only[bit]at d⊢;exact oO (by simpa[rG]using h) d
 |true::a,ae::b,j,h,_=>by simp[rG]at h
 |true::a,[],j,h,_=>by simp[rG]at h
 |false::a,c::b,0,_,d=>by simp[bit]at d
 |false::a,c::b,j+1,h,d=>by simp only[bit]at d⊢;exact oO (by simpa[rG]using h) d
 |false::a,[],0,_,d=>by simp[bit]at d
 |false::a,[],j+1,h,d=>by simp only[bit]at d;have:=oO (j:=j) (by simpa[rG]using h) d;simp[bit]at this
def qF(T:List (Nat×TI))(CT:List (Nat×di))(N:Nat)(ds:List (Nat×Bool))(all:List aB)(φm:List (Nat×D×Bool))(st:BD)(o:aB):Option BD :=
 match fD N o.dst with
 |false=>af
 |true =>
  c9 (bM o.after.toList) λes =>
  match QJ st.i es with
  |false=>af
  |true=>match wv T CT ds all (iE (λj=>gK j es) 0 st.pre (jT st.i all φm)) st.σ o with
   |none=>af
   |some (x,σ',obs) =>
    c9 (Dz st.cls es) λcl =>
    match σ',Gt (iE (λj=>gK j es) 0 st.pre (jT st.i all φm)) o with
    |none,ae=>c9 (st.pre++[(o.dst,x)]) λpre=>c9 (st.cls++[cl]) λcls=>c9 (jC obs st.obs) λobs=>aa ⟨st.i+1,pre,st.σ,cls,st.yv,st.KT,obs⟩
    |none,ab=>match rG st.yv cl with
     |true=>c9 (st.pre++[(o.dst,x)]) λpre=>c9 (st.cls++[cl]) λcls=>c9 (jC obs st.obs) λobs=>c9 (wx st.KT (rF st.i)) λa=>aa ⟨st.i+1,pre,st.σ,cls,st.yv,a,obs⟩
     |false=>af
    |some σ',_=>match rG st.KT cl with
     |true=>c9 (st.pre++[(o.dst,x)]) λpre=>c9 (st.cls++[cl]) λcls=>c9 (jC obs st.obs) λobs=>c9 (wx st.KT (rF st.i)) λa=>c9 (wx st.yv (rF st.i)) λb=>aa ⟨st.i+1,pre,σ',cls,b,a,obs⟩
     |false=>af
def KU(T:List (Nat×TI))(CT:List (Nat×di))(N:Nat)(ds:List (Nat×Bool))(all:List aB)(φm:List (Nat×D×Bool)):List aB->BD->Option BD
 |[],st=>aa st
 |o::r,st=>match qF T CT N ds all φm st o with
  |some pj=>KU T CT N ds all φm r pj
  |none=>af
def DC(T:List (Nat×TI))(CT:List (Nat×di))(N:Nat)(ds:List (Nat×Bool))(all:List aB)(φ:Fr)(σ:List ba):Option (Fr×List ba×List Prop) :=
 match ma all with
 |false=>af
 |true=>c9 (n3 all φ) λφm=>match KU T CT N ds all φm all ⟨0,[],σ,[],[],[],[]⟩with
  |some st=>c9 (iE (λ_=>ab) 0 st.pre (tb all φ)) λφ'=>aa (φ',st.σ,st.obs)
  |none=>af
def iP:aB:=⟨af,.move (.tmp 0),0,"",#[],af⟩
section
variable (T:List (Nat×TI))(CT:List (Nat×di))(N:Nat)(ds:List (Nat×Bool))(all:List aB)(φm:List (Nat×D×Bool))
def wy(st:BD):Nat->BD
 |0=>st
 |i+1=>(qF T CT N ds all φm (wy st i) (all.getD i iP)).getD (wy st i)
def Na(st:BD)(i:Nat):Fr:=iE (λj=>gK j (bM (all.getD i iP).after.toList)) 0 (wy T CT N ds all φm st i).pre (jT (wy T CT N ds all φm st i).i all φm)
def DD(st:BD)(i:Nat):Option (D×Option (List ba)×List Prop):=wv T CT ds all (Na T CT N ds all φm st i) (wy T CT N ds all φm st i).σ (all.getD i iP)
def xD(st:BD)(i:Nat):D:=match DD T CT N ds all φm st i with|some (x,_,_)=>x|none=>.any
def nC(st:BD)(i:Nat):Bool:=match DD T CT N ds all φm st i with|some (_,aa _,_)=>ab|_=>ae
def sx(st:BD)(i:Nat):Bool:=!Gt (Na T CT N ds all φm st i) (all.getD i iP)&&!nC T CT N ds all φm st i
def Nb(st:BD)(i:Nat):List Bool:=Dz (wy T CT N ds all φm st i).cls (bM (all.getD i iP).after.toList)
end
section
variable {T:List (Nat×TI)}{CT:List (Nat×di)}{N:Nat}{ds:List (Nat×Bool)}{all:List aB}{φm:List (Nat×D×Bool)}
structure G2(T:List (Nat×TI))(CT:List (Nat×di))(N:Nat)(ds:List (Nat×Bool))(all:List aB)(φm:List (Nat×D×Bool))(st pj:BD)(o:aB)(x:D)(σ':Option (List ba))(obs:List Prop):Prop where
 dst:fD N o.dst=ab
 lt:QJ st.i (bM o.after.toList)=ab
 op:wv T CT ds all (iE (λj=>gK j (bM o.after.toList)) 0 st.pre (jT st.i all φm)) st.σ o=aa (x,σ',obs)
 i:pj.i=st.i+1
 pre:pj.pre=st.pre++[(o.dst,x)]
 cls:pj.cls=st.cls++[Dz st.cls (bM o.after.toList)]
 σ:pj.σ=σ'.getD st.σ
 obs:pj.obs=jC obs st.obs
 YE:pj.yv=if σ'.isSome=ab then wx st.yv (rF st.i)else st.yv
 nf:pj.KT=if(Gt (iE (λj=>gK j (bM o.after.toList)) 0 st.pre (jT st.i all φm)) o||σ'.isSome)=ab then wx st.KT (rF st.i)else st.KT
 load:Gt (iE (λj=>gK j (bM o.after.toList)) 0 st.pre (jT st.i all φm)) o=ab->σ'.isSome=ae->rG st.yv (Dz st.cls (bM o.after.toList))=ab
 jh:σ'.isSome=ab->rG st.KT (Dz st.cls (bM o.after.toList))=ab
def zX{st pj:BD}(h:qF T CT N ds all φm st o=aa pj):∃x σ' obs,G2 T CT N ds all φm st pj o x σ' obs:=by
 unfold qF at h;split at h
 .cases h
 rename_i c;simp only[cM]at h;split at h
 .cases h
 rename_i a;split at h
 .cases h
 rename_i x σ' obs lA;refine⟨x,σ',obs,?_⟩;cases σ' with
 |none =>
  cases d:Gt (iE (λj=>gK j (bM o.after.toList)) 0 st.pre (jT st.i all φm)) o with
  |false =>
   simp only[d,cM]at h;cases h;exact⟨c,a,lA,rfl,rfl,rfl,rfl,rfl,by simp,by grind,by grind,by simp⟩
  |true =>
   simp only[d,cM]at h;split at h
   .rename_i b;cases h;exact⟨c,a,lA,rfl,rfl,rfl,rfl,rfl,by simp,by grind,λ_ _=>b,by simp⟩
   grind
 |some σ' =>
  simp only[cM]at h;split at h
  .rename_i b;cases h;exact⟨c,a,lA,rfl,rfl,rfl,rfl,rfl,by simp,by simp,by simp,λ_=>b⟩
  grind
def DF{st sf:BD}:∀{rest:List aB}{k:Nat},(∀i,rest[i]?=all[k+i]?)->KU T CT N ds all φm rest (wy T CT N ds all φm st k)=aa sf ->
  (∀i o,rest[i]?=aa o->qF T CT N ds all φm (wy T CT N ds all φm st (k+i)) o=aa (wy T CT N ds all φm st (k+i+1)))/\wy T CT N ds all φm st (k+rest.length)=sf
 |[],k,_,h=>by cases h;grind
 |p::r,k,c,h=>by
  simp only[KU]at h;have d:all[k]?=aa p:=by have:=c 0;grind
  split at h
  .rename_i a b;have e:wy T CT N ds all φm st (k+1)=a:=by simp only[wy,ai,d,fK,b]
   rw[<-e]at h;obtain⟨g,f⟩:=DF (rest:=r) (k:=k+1) (λi=>by have:=c (i+1);grind) h;grind
  grind
theorem G3:∀{l:List Nat},gK j l=ab->j∈l:=by
 intro l;induction l with
 |nil=>intro h;cases h
 |cons a r b =>
  intro h;simp only[gK]at h;grind[Nat.eq_of_beq_eq_true]
def G4{X:Cx P}(hf:P.follows Departure.mixedOrders=ab)(hT:c6 P T)(hC:bA X CT){φ':Fr}(h:DC T CT N ds ops.toList φ σ=aa (φ',σ',obs))(YF:au obs){Q:Post}(hQ:Q .normal φ' σ')(id:Nat):
  AW X N (.region id ops ab) Q φ σ:=by
 unfold DC at h;split at h
 .cases h
 rename_i Rg;rw[cM]at h;split at h
 case h_2=>cases h
 rename_i sf uA;rw[cM]at h;cases h;generalize Of:ops.toList=all at *;generalize UA:n3 all φ=φm at *;have M:∀i:Nat,ops[i]?=all[i]?:=λi=>by grind
 have KB:ops.size=all.length:=by grind
 let g:BD:=⟨0,[],σ,[],[],[],[]⟩
 obtain⟨E,J⟩:=DF (T:=T) (CT:=CT) (N:=N) (ds:=ds) (φm:=φm) (st:=g) (rest:=all) (k:=0) (λi=>by simp) uA;simp only[bo]at E J;let F:=wy T CT N ds all φm g;have r:∀i o,all[i]?=aa o->all.getD i iP=o:=λi o h=>by grind
 have Wy:∀i o,all[i]?=aa o->Na T CT N ds all φm g i=(iE (λj=>gK j (bM (o).after.toList)) 0 (F i).pre (jT (F i).i all φm)):=λi o h=>by unfold Na;grind
 have facts:∀i o,all[i]?=aa o->∃G,G2 T CT N ds all φm (F i) (F (i+1)) o (xD T CT N ds all φm g i) (if nC T CT N ds all φm g i=ab then aa (F (i+1)).σ else af) G:=by
  intro i o q;obtain⟨x,σ1,G,n⟩:=zX (E i o q);have A:=n.op;have hR:DD T CT N ds all φm g i=aa (x,σ1,G):=by unfold DD Na;grind
  have hx:xD T CT N ds all φm g i=x:=by unfold xD;rw[hR]
  cases σ1 with
  |none =>
   have B:nC T CT N ds all φm g i=ae:=by unfold nC;rw[hR]
   grind
  |some σ2 =>
   have B:nC T CT N ds all φm g i=ab:=by unfold nC;rw[hR]
   have YG:(F (i+1)).σ=σ2:=n.σ;grind
 have H:∀i,i<=all.length->(F i).i=i:=by
  intro i;induction i with
  |zero=>intro _;rfl
  |succ i C =>
   intro hi;obtain⟨_,n⟩:=facts i _ (bd (by omega));rw[n.i,C (by omega)]
 have Z:∀i,i<=all.length->∀j,(F i).pre[j]?=if j<i then(all[j]?).map (λo=>(o.dst,xD T CT N ds all φm g j))else af:=by
  intro i;induction i with
  |zero=>intro _ j;simp[F,wy,g]
  |succ i C =>
   intro hi j;obtain⟨_,n⟩:=facts i _ (bd (by omega));have hlen:(F i).pre.length=i:=by
    apply Nat.le_antisymm
    .grind
    grind
   rw[n.pre];grind
 have UB:∀i,i<=all.length->∀j,(F i).cls[j]?=if j<i then aa (Nb T CT N ds all φm g j)else af:=by
  intro i;induction i with
  |zero=>intro _ j;simp[F,wy,g]
  |succ i C =>
   intro hi j;obtain⟨_,n⟩:=facts i _ (bd (by omega));have hlen:(F i).cls.length=i:=by
    apply Nat.le_antisymm
    .apply Nat.le_of_not_lt;intro u;have:=C (by omega) i;grind
    grind
   rw[n.cls];by_cases UC:j<i
   .grind
   .rw[fh (by omega)];by_cases e:j=i
    .subst e;rw[bt (by omega),hlen,Nat.sub_self];simp only[j4,Nb,r j _ (bd (by omega:j<all.length))];rfl
    grind
 have YH:∀i,i<=all.length->∀j,bit (F i).yv j=(decide (j<i)&&nC T CT N ds all φm g j):=by
  intro i;induction i with
  |zero=>intro _ j;simp[F,wy,g,bit]
  |succ i C =>
   intro hi j;obtain⟨_,n⟩:=facts i _ (bd (by omega));rw[n.YE];cases B:nC T CT N ds all φm g i with
   |false =>
    grind
   |true =>
    simp only[bZ,Option.isSome_some];rw[lC,C (by omega) j,qE,H i (by omega)];by_cases e:j=i
    .grind
    grind
 have YI:∀i,i<=all.length->∀j,bit (F i).KT j=(decide (j<i)&&!sx T CT N ds all φm g j):=by
  intro i;induction i with
  |zero=>intro _ j;simp[F,wy,g,bit]
  |succ i C =>
   intro hi j;obtain⟨_,n⟩:=facts i _ (bd (by omega));have Rh:(if nC T CT N ds all φm g i=ab then aa (F (i+1)).σ else af).isSome=nC T CT N ds all φm g i:=by cases nC T CT N ds all φm g i<;>rfl
   have Wz:sx T CT N ds all φm g i=!(Gt (iE (λj=>gK j (bM (all[i]'(by omega)).after.toList)) 0 (F i).pre (jT (F i).i all φm)) (all[i]'(by omega))||nC T CT N ds all φm g i):=by unfold sx;rw[Wy i _ (bd (by omega)),r i _ (bd (by omega))];simp
   rw[n.nf,Rh];cases B:(Gt (iE (λj=>gK j (bM (all[i]'(by omega)).after.toList)) 0 (F i).pre (jT (F i).i all φm)) (all[i]'(by omega))||nC T CT N ds all φm g i)with
   |false =>
    grind
   |true =>
    simp only[bZ];rw[lC,C (by omega) j,qE,H i (by omega)];by_cases e:j=i
    .grind
    grind
 have Ri:∀i,i<=all.length->au (F i).obs:=by
  have back:∀k i,i+k=all.length->au (F i).obs:=by
   intro k;induction k with
   |zero =>
    grind
   |succ k C =>
    intro i hi;obtain⟨_,n⟩:=facts i _ (bd (by omega));have:=C (i+1) (by omega);rw[n.obs,au.cat]at this;exact this.2
  intro i hi;exact back (all.length-i) i (by omega)
 have oaI:∀i o,all[i]?=aa o->OA X N all o (Na T CT N ds all φm g i) (F i).σ (xD T CT N ds all φm g i) (F (i+1)).σ:=by intro i o q;have hi:i<all.length:=(b8.1 q).1;obtain⟨_,n⟩:=facts i o q;have QK:=Ri (i+1) (by omega);rw[n.obs,au.cat]at QK;have:=gD (P:=P) (N:=N) hT hC n.op QK.1;rw[n.σ];grind
 let idx:Nat->Option Nat:=λt=>(a9 all.length).find? (λi=>decide ((all.getD i iP).dst=aa t));have I:∀t j,idx t=aa j->∃o,all[j]?=aa o/\o.dst=aa t:=by grind
 have O:∀i o d,all[i]?=aa o->o.dst=aa d->idx d=aa i:=by
  intro i o d q hd;have hi:i<all.length:=(b8.1 q).1;cases hx:idx d with
  |none =>
   grind
  |some j =>
   grind[rE]
 have U:∀t,nZ t all=ab↔∃j,idx t=aa j:=by grind[oN,qD]
 have Y:∀i o,all[i]?=aa o->∀e∈o.after,cZ e=ab->e.on<i:=by intro i o q e B S;have hi:i<all.length:=(b8.1 q).1;obtain⟨_,n⟩:=facts i o q;have:=BX n.lt e.on (ei.2 ⟨e,by grind,S,rfl⟩);grind
 have WA:=Y;have hd:uw X N ops φ (λi=>(F i).σ) (xD T CT N ds all φm g) (Na T CT N ds all φm g) (sx T CT N ds all φm g) (λi=>decide (i<all.length)&&nC T CT N ds all φm g i) (λi j=>i<all.length/\bit (Nb T CT N ds all φm g i) j=ab) idx (iE (λ_=>ab) 0 sf.pre (tb all φ)):=by
  refine⟨hf,?_,?_,?_,?_,?_,?_,?_,?_,?_,?_⟩
  .grind
  .intro i o d q hd;rw[M]at q;obtain⟨_,n⟩:=facts i o q;exact⟨O i o d q hd,iw n.dst d hd⟩
  .grind
  .intro i B;rcases cv i all.length with hi|hi
   .obtain⟨_,n⟩:=facts i _ (bd hi);have:nC T CT N ds all φm g i=ae:=by grind
    have hσ:=n.σ;grind
   .have h0:all.getD i iP=iP:=by grind
    show(F (i+1)).σ=(F i).σ;have:qF T CT N ds all φm (F i) iP=af∨∃s',qF T CT N ds all φm (F i) iP=aa s':=by
     cases qF T CT N ds all φm (F i) iP with
     |none=>grind
     |some s'=>grind
    show((qF T CT N ds all φm (F i) (all.getD i iP)).getD (F i)).σ=(F i).σ;rw[h0];rcases this with h|⟨s',h⟩
    .grind
    .rw[h];obtain⟨x,σ1,ob,n⟩:=zX h;have A:=n.op;have:σ1=af:=by unfold wv at A;simp only[iP,KS,TP,G5,l9]at A;grind
     rw[fK,n.σ,this];rfl
  .grind
  .intro i o q DG;rw[M]at q;have hi:i<all.length:=(b8.1 q).1;have p:Gt (iE (λj=>gK j (bM (o).after.toList)) 0 (F i).pre (jT (F i).i all φm)) o=ae/\nC T CT N ds all φm g i=ae:=by unfold sx at DG;grind
   refine⟨by grind,λk=>?_⟩;obtain⟨ob,n⟩:=facts i o q;have A:=n.op;rw[p.2]at A;have UD:=G1 p.1 (by simpa using A) (F k).σ;have QK:=Ri (i+1) (by omega);rw[n.obs,au.cat]at QK;have:=gD (P:=P) (N:=N) hT hC UD QK.1;grind
  .intro L hL i j ⟨hi,S⟩;have fC:∀i,i<all.length->L i->∀e,e∈bM (all.getD i iP).after.toList->L e:=by intro i hi WB e B;rw[r i _ (bd hi)]at B;obtain⟨e',W,h2,rfl⟩:=ei.1 B;grind
   have key:∀i,i<all.length->∀j,bit (Nb T CT N ds all φm g i) j=ab->(∀e∈bM (all.getD i iP).after.toList,L e)->L j:=by
    intro i;induction i using Nat.strongRecOn with
    |_ i C =>
     intro hi j S Rj;obtain⟨e,B,h⟩:=yw S;have u:e<i:=by have Rl:=B;rw[r i _ (bd hi)]at Rl;obtain⟨e',W,h2,rfl⟩:=ei.1 Rl;grind
     rcases h with rfl|⟨c,hc,Ky⟩
     .grind
     .have:=UB i (by omega) e;rw[bt u]at this;have Ui:(F i).cls[e]?=aa c:=hc;rw[Ui]at this;cases this;exact C e u (by omega) j Ky (fC e (by omega) (Rj e B))
   refine⟨λWB=>key i hi j S (fC i hi WB),all[i],by grind,λOd=>key i hi j S ?_⟩;grind[List.getElem?_eq_getElem,ei]
  .intro i f hi QI B zC WC;rw[KB]at hi QI;have Rl:nC T CT N ds all φm g f=ab:=by grind
   rcases cv f i with u|QL
   .refine .inl ⟨u,hi,?_⟩;obtain⟨_,n⟩:=facts i _ (bd hi);have BK:Nb T CT N ds all φm g i=Dz (F i).cls (bM (all[i]).after.toList):=by unfold Nb;grind
    rw[BK];cases YJ:nC T CT N ds all φm g i with
    |true =>
     have W:=n.jh (by grind);refine oO W ?_;rw[YI i (by omega) f];have:sx T CT N ds all φm g f=ae:=by unfold sx;grind
     grind
    |false =>
     have YK:Gt (iE (λj=>gK j (bM (all[i]).after.toList)) 0 (F i).pre (jT (F i).i all φm)) all[i]=ab:=by unfold sx at WC;rw[Wy i _ (bd hi),r i _ (bd hi),YJ]at WC;grind
     have W:=n.load YK (by grind);grind[oO]
   .have u:i<f:=by omega
    refine .inr ⟨u,QI,?_⟩;obtain⟨_,n⟩:=facts f _ (bd QI);have BK:Nb T CT N ds all φm g f=Dz (F f).cls (bM (all[f]).after.toList):=by unfold Nb;grind
    rw[BK];have W:=n.jh (by grind);grind[oO]
  .intro i o q t σ s v V;rw[M]at q;have hi:i<all.length:=(b8.1 q).1;unfold Na;rw[r i o q];rcases mc (m:=λj=>gK j (bM o.after.toList)) (φ:=jT (F i).i all φm) (t:=t) (l:=(F i).pre) (i:=0)with⟨j,x,W,h2,h3⟩|h3
   .have UE:look (iE (λj=>gK j (bM o.after.toList)) 0 (wy T CT N ds all φm g i).pre (jT (wy T CT N ds all φm g i).i all φm)) t=x:=h3;rw[UE];have hp:=Z i (by omega) j;rw[W]at hp;have UC:j<i:=by grind
    rw[bt UC,bd (by omega:j<all.length)]at hp;simp only[lR,dk,kO]at hp;obtain⟨YL,YM⟩:=hp;have z:=O j _ t (bd (by omega:j<all.length)) YL.symm;rw[z]at V;simp only at V;rw[bt]at V
    .grind
    .have UF:j∈bM o.after.toList:=by simp only[bo]at h2;exact G3 h2
     obtain⟨e,a,b,c⟩:=ei.1 UF;grind
   .have UE:look (iE (λj=>gK j (bM o.after.toList)) 0 (wy T CT N ds all φm g i).pre (jT (wy T CT N ds all φm g i).i all φm)) t=look (jT (F i).i all φm) t:=h3;rw[UE,H i (by omega),<-UA,wX];split
    .trivial
    .rename_i UG;cases z:idx t with
     |some j =>
      have hD:=(U t).2 ⟨j,z⟩;have hN:uy i t all=ae:=by grind
      obtain⟨oj,Uw,Ux⟩:=I t j z;have hm:=G3 (uz hN j oj Uw Ux);obtain⟨e,B,S,heq⟩:=ei.1 hm;rw[z]at V;simp only at V;split at V
      ·
       rename_i hex;obtain⟨e2,M4,hb2,YN⟩:=hex;grind
      .rw[bt ⟨oj,by grind,e,by grind,S,heq⟩]at V;exact V
     |none=>grind
  .intro t σ s v V;have hF:F all.length=sf:=J;rcases mc (m:=λ_=>ab) (φ:=tb all φ) (t:=t) (l:=sf.pre) (i:=0)with⟨j,x,W,_,h3⟩|h3
   .rw[h3];have hp:=Z all.length (aZ _) j;rw[hF,W]at hp;have UC:j<all.length:=by grind
    grind
   .rw[h3,kK];split
    .trivial
    grind
 intro s a Wz hh b kk cs SS S UH;have Km:F ops.size=sf:=by grind
 refine .next rfl λy K=>?_;have K:=X.hZ K;have R:=hh.rely K;have UI:=Wz.rely K hh;have Og:Step σ y σ {y with w:={y.w with drawn:=y.w.drawn+1}}:=Step.same rfl rfl rfl rfl;have Gr:aD σ {y with w:={y.w with drawn:=y.w.drawn+1}}:=R.same rfl;have WE:=K.stepW.trans (Og.nT R);refine⟨_,{y with w:={y.w with drawn:=y.w.drawn+1}},#[],kS,⟨⟨σ,σ,R,Gr,Og⟩,.nil⟩,?_⟩;simp only[Region.schedule,hf,Bool.true_or,bZ];refine hd.arr S (s0:={y with w:={y.w with drawn:=y.w.drawn+1}}) (λs2 a2 f2 h2 nU=>?_) ops.size _ (by simp) ?_ ?_ 0 _ a (by omega) ?_ ?_ Gr (.refl _ _) _
 .simp only[Km]at f2 h2 nU;exact UH .normal _ _ s2 a2 hQ f2 h2 (WE.trans nU)
 .simp
 .intro i o q hi;simp[dx,lP]at hi;split at hi<;>simp at hi
 .intro f QI TO;simp[dx,lP];split<;>simp
 .have p:=UI.mono (Og.nT R) R.len;refine⟨p.size,p.defers,λt=>?_⟩;unfold fE;cases z:idx t with
  |none=>exact p.slot t
  |some j =>
   simp only;rw[bh]
   .exact p.slot t
   .simp[dx,lP];split<;>simp
end
section
variable {X:Cx P}
theorem AK.draw(b:P.follows Departure.mixedOrders=ab)(c:c6 P T)(hC:bA X CT){φ':Fr}{id:Nat}(h:DC T CT N ds ops.toList φ σ=aa (φ',σ',obs))(a:au obs)(k:AK X N Qf K .normal φ' σ'):AK X N Qf (.code (.region id ops ab)::K) .normal φ σ :=
 G4 b c hC h a k id
end
def uu(T:List (Nat×TI))(CT:List (Nat×di))(ds:List (Nat×Bool))(N:Nat)(K:List It)(φ:Fr)(σ:List ba):Option (List It×Fr×List ba×List Prop) :=
 match K with
 |[]=>af
 |.blk _::K=>aa (K,φ,σ,[])
 |.ops _ []::K=>aa (K,φ,σ,[])
 |.ops all (o::rest)::K=>match fD N o.dst with
  |true=>match wv T CT ds all φ σ o with
   |some (x,af,obs)=>c9 (kV o.dst x φ) λφ=>aa (.ops all rest::K,φ,σ,obs)
   |some (x,aa σ',obs)=>c9 (kV o.dst x φ) λφ=>aa (.ops all rest::K,φ,σ',obs)
   |none=>af
  |false=>af
 |.code c::K=>match c with
  |.skip=>aa (K,φ,σ,[])
  |.seq x y=>aa (.code x::.code y::K,φ,σ,[])
  |.block id c=>aa (.code c::.blk id::K,φ,σ,[])
  |.region id ops d=>match z8 ds (id+1000000)with
   |some _=>af
   |none=>match d with
    |false=>aa (.ops ops.toList ops.toList::K,φ,σ,[])
    |true=>match DC T CT N ds ops.toList φ σ with
     |some (φ',σ',obs)=>aa (K,φ',σ',obs)
     |none=>af
  |.exit id=>match jV id K with
   |some K'=>aa (K',φ,σ,[])
   |none=>af
  |.cond (.tmp t) x y=>match look φ t with
   |.e (.one (.c (.bool ab)))=>aa (.code x::K,φ,σ,[])
   |.e (.one (.c (.bool ae)))=>aa (.code y::K,φ,σ,[])
   |_=>af
  |_=>af
theorem HU{X:Cx P}(l:P.follows Departure.mixedOrders=ab)(e:c6 P T)(f:bA X CT){i:List It}{φ':Fr}(h:uu T CT ds N K φ σ=aa (i,φ',σ',obs))(d:au obs)(k:AK X N Qf i .normal φ' σ'):AK X N Qf K .normal φ σ:=by
 unfold uu at h;split at h
 .cases h
 .grind [AK.O0]
 .grind [AK.O1]
 .rename_i all o rest K0;cases j:fD N o.dst with
  |false=>grind
  |true =>
   simp only[j]at h;have g:=iw j;split at h
   .rename_i x a b;rw[cM]at h;cases h;exact iO.yN (gD e f b d) g k
   .rename_i x σ1 a b;rw[cM]at h;cases h;exact iO.yN (gD e f b d) g k
   grind
 .rename_i c K0;split at h
  .grind [AK.skip]
  .grind [AK.seq]
  .grind [AK.block]
  .grind [AK.region,AK.draw]
  .grind [AK.exit]
  .grind [AK.cond]
  grind
def c8(T:List (Nat×TI))(CT:List (Nat×di))(ds:List (Nat×Bool))(N:Nat):Nat->List It->Fr->List ba->List Prop->Option (List It×Fr×List ba×List Prop)
 |0,K,φ,σ,obs=>c9 obs λobs=>aa (K,φ,σ,obs)
 |n+1,K,φ,σ,obs=>match uu T CT ds N K φ σ with
  |some (a,φ',σ',o)=>c8 T CT ds N n a φ' σ' (jC o obs)
  |none=>c9 obs λobs=>aa (K,φ,σ,obs)
def D4{P:aK}{X:Cx P}(d:P.follows Departure.mixedOrders=ab){T:List (Nat×TI)}(e:c6 P T){CT:List (Nat×di)}(f:bA X CT){ds:List (Nat×Bool)}{N:Nat}{Qf:Post}:∀{n:Nat}{K a:List It}{φ φ':Fr}{σ σ':List ba}{obs Lt:List Prop},
  c8 T CT ds N n K φ σ obs=aa (a,φ',σ',Lt)->au Lt->AK X N Qf a .normal φ' σ'->AK X N Qf K .normal φ σ/\au obs
 |0,K,a,φ,φ',σ,σ',obs,Lt,h,b,k=>by simp only[c8,cM]at h;grind
 |n+1,K,a,φ,φ',σ,σ',obs,Lt,h,b,k=>by
  simp only[c8]at h;cases c:uu T CT ds N K φ σ with
  |none =>
   grind[cM]
  |some r =>
   obtain⟨m,g,σ1,j⟩:=r;simp only[c]at h;obtain⟨i,l⟩:=D4 d e f h b k;grind[au.cat,HU]
def AK.c8{X:Cx P}(d:P.follows Departure.mixedOrders=ab)(e:c6 P T)(hC:bA X CT)(ds:List (Nat×Bool))(n:Nat){b:List It}{φ':Fr}{a:List Prop}(h:AM.c8 T CT ds N n K φ σ []=aa (b,φ',σ',a))(c:au a)(k:AK X N Qf b .normal φ' σ'):AK X N Qf K .normal φ σ:=(D4 d e hC h c k).1
section
variable {X:Cx P}
def yr(rs:List ResultVar)(ks:List Nat)(φ:Fr)(res:D):Option (List Prop) :=
 match wq φ rs with
 |some ds=>match qC ds with
  |some d=>match uh ks.length res with
   |true=>BC d (ij ks res)
   |false=>af
  |none=>af
 |none=>af
def AK.dA{fn:Func}{a:Nat}{res:D}(ks:List Nat)(h:yr fn.results.toList ks φ res=aa ps)(f:au ps)(d:jB ks σ=aa σ')(b:kh σ'=ab)(c:dF ks=ab)(e:∀j,j<a->ks[j]?=aa j):
  AK X N (b7 fn a res σ') (.code .ret::K) .normal φ σ:=by refine AK.ret ⟨.inl rfl,ks,?_⟩;unfold yr at h;grind
def AK.bg{fn:Func}{res:D}(h:yr fn.results.toList [] φ res=aa ps)(a:au ps:=by simp):AK X N (b7 fn 0 res []) (.code .ret::K) .normal φ σ :=
 AK.dA [] h a rfl rfl rfl (λj h=>by omega)
def b7.zero{fn:Func}{res:D}(h:yr fn.results.toList [] φ res=aa ps)(b:au ps:=by simp):b7 fn 0 res [] .ret φ σ:=by
 refine⟨.inl rfl,[],?_⟩;unfold yr at h;split at h
 .rename_i ds Vk;split at h
  .rename_i d c;split at h
   .rename_i a;exact⟨ds,d,ps,Vk,c,h,b,a,rfl,rfl,rfl,λj h=>by omega⟩
   grind
  grind
 grind
def AK.leave{id:Nat}{A:Fr->List ba->Prop}{Qr:Post}{m l:List It}(h1:jV id K=af)(h2:jV id m=aa l)(k:AK X N Qr l .normal φ σ):
  AK X N (λe φ' σ'=>match e with
   |.normal=>A φ' σ'
   |e=>AK X N Qr m e φ' σ') (.code (.exit id)::K) .normal φ σ:=by
 have key:∀{K:List It},jV id K=af->∀{Q:Post},Q (.exit id) φ σ->AK X N Q K (.exit id) φ σ:=by
  intro K;induction K with
  |nil=>intro _ Q h;exact h
  |cons i r g =>
   intro d Q h;cases i with
   |code c=>exact g (by simpa[jV]using d) h
   |ops a b=>exact g (by simpa[jV]using d) h
   |blk j =>
    simp only[jV]at d;cases hb:av id j with
    |true=>grind
    |false =>
     simp[hb]at d;have f:id≠j:=λe=>by grind[Nat.beq_refl]
     simp only[AK,f,bJ];grind
 exact AW.exit (key h1 (AK.uQ h2 k))
def AK.gu{A:Fr->List ba->Prop}{Qr:Post}{a:List It}(k:Qr .ret φ σ):
  AK X N (λe φ' σ'=>match e with
   |.normal=>A φ' σ'
   |e=>AK X N Qr a e φ' σ') (.code .ret::K) .normal φ σ:=AK.ret (AK.qO (Qf:=Qr) k)
def AK.again{S:Type}{I:S->Prop}{fr:S->Fr}{st:S->List ba}{a:S->Nat}{x:S}{Qr:Post}(y:S)(c:pn φ (fr y)=aa ps)(g:au ps)(f:I y)(b:a y<a x)(d:σ=st y):
  AK X N (λe φ' σ'=>match e with
   |.normal=>∃y,I y/\a y<a x/\qP φ' (fr y)/\σ'=st y
   |e=>Qr e φ' σ') [] .normal φ σ:=⟨y,f,b,cG c g,d⟩
def AK.uR{S:Type}(I:S->Prop)(fr:S->Fr)(st:S->List ba)(a:S->Nat)(x:S)(b:pn φ (fr x)=aa ps)(g:au ps)(f:I x)(d:st x=σ)(round:∀x,I x->AK X N (λe φ' σ'=>match e with
   |.normal=>∃y,I y/\a y<a x/\qP φ' (fr y)/\σ'=st y
   |e=>AK X N Qf K e φ' σ') [.code c] .normal (fr x) (st x)):AK X N Qf (.code (.loop c)::K) .normal φ σ :=
 AK.loop I fr st a x f (cG b g) d round
def Fits(args:List D)(σ:List ba):Prop:=∃s vs,cd σ s vs args/\aD σ s
def Fits.at{args:List D}(h:Fits args σ){d:D}(hj:args[j]?=aa d):∃s v,dc σ s v d:=by obtain⟨s,vs,a,_⟩:=h;obtain⟨_,b⟩:=cd.get a;grind
def Fits.str{args:List D}{σ:List ba}(h:Fits args σ)(j:Nat){l:List UInt8}(hj:args[j]?=aa (.e (.one (.c (.str l))))):l.length<=9223372036854775807:=by
 obtain⟨s,v,a⟩:=h.at hj;cases fp a with
 |str h hl=>exact hl
def Fits.sl{args:List D}{σ:List ba}(h:Fits args σ)(j:Nat){t:Bool}{k n:Nat}{es:Nat->List C}(hj:args[j]?=aa (.e (.one (.c (.sl t k n es))))):n<=9223372036854775807:=by
 obtain⟨s,v,d⟩:=h.at hj;cases fp d with
 |sl b off f a hb=>omega
def Ev.body{f:aP}{fn:Func}{args:List D}{res:D}(d:P.funcs[f]?=aa fn)(a:(fn.name== "runtime.NumGoroutine")=ae)(hb:fn.body=aa c)(b:bn args.length fn.ntmps=ab)(h:Fits args σ->AK X fn.ntmps (b7 fn σ.length res σ') [.code c] .normal (iL 0 args) σ):Ev X f args σ res σ':=by refine⟨⟨fn,d,a,by grind⟩,λs vs hr hh=>?_⟩;exact(Ev.intro d a hb (dy b) (AK.of_code (h ⟨s,vs,hr,hh⟩))).2 s vs hr hh
def Ev.bQ{f:aP}{fn:Func}{c:Code}{args:List D}{σ σ':List ba}{res:D}(b:P.funcs[f]?=aa fn)(a:(fn.name== "runtime.NumGoroutine",fn.body,bn args.length fn.ntmps)=(ae,aa c,ab))(h:Fits args σ->AK X fn.ntmps (b7 fn σ.length res σ') [.code c] .normal (iL 0 args) σ):Ev X f args σ res σ':=by simp only[kO]at a;exact Ev.body b a.1 a.2.1 a.2.2 h
def AK.join{b:List It}(φ':Fr)(σ':List ba)(h:(∀(a:Fr)(ps:List Prop),pn a φ'=aa ps->au ps->AK X N Qf (.code c::b) .normal a σ')->AK X N Qf K .normal φ σ)(k:AK X N Qf (.code c::b) .normal φ' σ'):AK X N Qf K .normal φ σ :=
 h λ_ _ h1 h2=>AW.le k (cG h1 h2)
end
def ff{i:TypeInfo}(h:P.types[t]?=aa i):P.info? t=aa i:=by unfold Tables.info?;rw[bt (gN.1 h).1];exact h
def c6.nil:c6 P []:=λ_ _ h=>by cases h
def c6.cons{i:TI}(h:dq P t i)(r:c6 P T):c6 P ((t,i)::T):=by
 intro a i2 h2;simp only[bz]at h2;cases hb:av t a with
 |true=>rw[hb]at h2;cases h2;rw[<-bT hb];exact h
 |false=>rw[hb]at h2;exact r a i2 h2
def dq.mk1{i:TI}{n:TypeInfo}(h:P.underlying t=aa i.desc)(k:P.types[t]?=aa n)(a:(yU i.desc==i.agg&&n.size==i.size&&n.bytes==i.bytes&&(!i.agg||n.zero.any λz=>match z with|.agg _=>ab|_=>ae)&&i.zero.length==i.size&&i.eq.isEmpty)=ab:=by rfl)(b:n.zero.map (λz=>z.cells.toList.map pP)=aa (i.zero.map aa):=by rfl):dq P t i:=by
 simp only[bP,gg,List.isEmpty_iff]at a;obtain⟨⟨⟨⟨⟨a1,a2⟩,a3⟩,a4⟩,a5⟩,a6⟩:=a;cases c:n.zero with
 |none=>rw[c]at b;cases b
 |some z =>
  rw[c]at b a4;refine⟨h,a1,⟨n,z,ff k,a2,a3,c,qm b,?_,a5⟩,λh=>absurd a6 h⟩;cases d:i.agg with
  |false=>exact⟨#[],rfl⟩
  |true =>
   rw[d]at a4;cases z<;>first|exact⟨_,rfl⟩|cases a4
def c6.c1{i:TI}{n:TypeInfo}(h:P.underlying t=aa i.desc)(k:P.types[t]?=aa n)(r:c6 P T)(a:(yU i.desc==i.agg&&n.size==i.size&&n.bytes==i.bytes&&(!i.agg||n.zero.any λz=>match z with|.agg _=>ab|_=>ae)&&i.zero.length==i.size&&i.eq.isEmpty)=ab:=by rfl)(b:n.zero.map (λz=>z.cells.toList.map pP)=aa (i.zero.map aa):=by rfl):c6 P ((t,i)::T):=c6.cons (dq.mk1 h k a b) r
namespace R1
abbrev pI:= "loop.example/depositary/impl"
abbrev pS:= "loop.example/depositary/spec"
abbrev f0(a:String)(b c:Nat)(d:String)(e:Nat)(f:Bool:=ae):Field:={name:=a,type:=b,offset:=c,embedded:=f,tag:= "",pkgPath:=d,byteOffset:=e}
abbrev zS:C:=.sl ab 0 0 (λ_=>[])
@[simp] def GA(n:ay):TI:=⟨1,24,ae,.slice n,[zS],[]⟩
@[simp] def P7(n:ay):TI:=⟨1,8,ae,.pointer n,[.nQ],[]⟩
@[simp] def Jy(b:Nat)(k:IntKind):TI:=⟨1,b,ae,.int k,[.int k 0],[]⟩
@[simp] def wj(s b:Nat)(f:Array Field)(z:List C)(e:List TypeDesc:=[]):TI:=⟨s,b,ab,.struct f,z,e⟩
def i2:TI:=Jy 8 .i64
def i3:TI:=Jy 8 .i64
def i4:TI:=⟨1,1,ae,TypeDesc.bool,[.bool ae],[]⟩
def i5:TI:=Jy 1 .u8
def i6:TI:=Jy 1 .u8
def i8:TI:=wj 4 24 #[f0 "x" 2 0 "runtime" 0,f0 "y" 3 1 "runtime" 8,f0 "signed" 4 2 "runtime" 16,f0 "code" 6 3 "runtime" 17] [.int .i64 0,.int .i64 0,.bool ae,.int .u8 0]
def i9:TI:=⟨1,16,ae,TypeDesc.string,[.str []],[]⟩
def i16:TI:=P7 283
def i20:TI:=⟨1,16,ae,TypeDesc.interface #[],[.nS],[]⟩
def i21:TI:=Jy 4 .i32
def i22:TI:=GA 5
def i23:TI:=GA 43
def i24:TI:=GA 39
def i25:TI:=GA 101
def i27:TI:=wj 3 72 #[f0 "Packs" 23 0 "" 0,f0 "Snaps" 24 1 "" 24,f0 "Log" 25 2 "" 48] [zS,zS,zS]
def i28:TI:=GA 3
def i32:TI:=wj 5 120 #[f0 "Store" 27 0 "" 0,f0 "Marks" 28 3 "" 72,f0 "Left" 28 4 "" 96] [zS,zS,zS,zS,zS]
def i37:TI:=GA 95
def i39:TI:=wj 2 32 #[f0 "No" 3 0 "" 0,f0 "All" 37 1 "" 8] [.int .i64 0,zS]
def i41:TI:=GA 68
def i43:TI:=wj 2 32 #[f0 "No" 3 0 "" 0,f0 "Item" 41 1 "" 8] [.int .i64 0,zS]
def i53:TI:=P7 89
def i68:TI:=wj 2 24 #[f0 "Name" 3 0 "" 0,f0 "Body" 9 1 "" 8] [.int .i64 0,.str []] [.int .i64,.string]
def g68:dq ag 68 i68:=⟨Tryz.underlying68,rfl,⟨_,_,ff Tryz.type68,rfl,rfl,rfl,rfl,⟨_,rfl⟩,rfl⟩,λ_=>lb (fs:=[f0 "Name" 3 0 "" 0,f0 "Body" 9 1 "" 8]) Tryz.underlying68 (by decide +kernel) Tryz.eqGuardType68 ⟨by decide,rfl,Tryz.underlying3,ar,by decide,rfl,Tryz.underlying9,ar,ar⟩⟩
def i69:TI:=GA 110
def i83:TI:=GA 43
def i85:TI:=wj 3 72 #[f0 "packed" 83 0 pI 0 ab,f0 "snaps" 24 1 pI 24,f0 "log" 25 2 pI 48] [zS,zS,zS]
def i89:TI:=wj 2 32 #[f0 "b" 22 0 pS 0,f0 "p" 3 1 pS 24] [zS,.int .i64 0]
def i95:TI:=wj 2 40 #[f0 "Path" 9 0 "" 0,f0 "Names" 28 1 "" 16] [.str [],zS]
def i101:TI:=wj 2 16 #[f0 "By" 3 0 "" 0,f0 "Snap" 3 1 "" 8] [.int .i64 0,.int .i64 0] [.int .i64,.int .i64]
def V9:dq ag 101 i101:=⟨Tryz.underlying101,rfl,⟨_,_,ff Tryz.type101,rfl,rfl,rfl,rfl,⟨_,rfl⟩,rfl⟩,λ_=>lb (fs:=[f0 "By" 3 0 "" 0,f0 "Snap" 3 1 "" 8]) Tryz.underlying101 (by decide +kernel) Tryz.eqGuardType101 ⟨by decide,rfl,Tryz.underlying3,ar,by decide,rfl,Tryz.underlying3,ar,ar⟩⟩
def i110:TI:=wj 2 32 #[f0 "Path" 9 0 "" 0,f0 "Text" 9 1 "" 16] [.str [],.str []] [.string,.string]
def Wa:dq ag 110 i110:=⟨Tryz.underlying110,rfl,⟨_,_,ff Tryz.type110,rfl,rfl,rfl,rfl,⟨_,rfl⟩,rfl⟩,λ_=>lb (fs:=[f0 "Path" 9 0 "" 0,f0 "Text" 9 1 "" 16]) Tryz.underlying110 (by decide +kernel) Tryz.eqGuardType110 ⟨by decide,rfl,Tryz.underlying9,ar,by decide,rfl,Tryz.underlying9,ar,ar⟩⟩
def i115:TI:=P7 32
def i128:TI:=GA 9
def i136:TI:=Jy 8 .u64
def i142:TI:=GA 189
def i154:TI:=GA 166
def i156:TI:=wj 0 0 #[] []
def i157:TI:=wj 0 0 #[] []
def i158:TI:=wj 0 0 #[] []
def i159:TI:=Jy 8 .u64
def i161:TI:=wj 1 8 #[f0 "_" 157 0 "sync/atomic" 0,f0 "_" 158 0 "sync/atomic" 0,f0 "v" 159 0 "sync/atomic" 0] [.int .u64 0]
def i162:TI:=Jy 4 .u32
def i164:TI:=wj 2 16 #[f0 "noCopy" 156 0 "sync" 0,f0 "state" 161 0 "sync" 0,f0 "sema" 162 1 "sync" 8] [.int .u64 0,.int .u32 0]
def i166:TI:=wj 2 24 #[f0 "piece" 9 0 pI 0,f0 "ok" 4 1 pI 16] [.str [],.bool ae] [.string,.bool]
def Wb:dq ag 166 i166:=⟨Tryz.underlying166,rfl,⟨_,_,ff Tryz.type166,rfl,rfl,rfl,rfl,⟨_,rfl⟩,rfl⟩,λ_=>lb (fs:=[f0 "piece" 9 0 pI 0,f0 "ok" 4 1 pI 16]) Tryz.underlying166 (by decide +kernel) Tryz.eqGuardType166 ⟨by decide,rfl,Tryz.underlying9,ar,by decide,rfl,Tryz.underlying4,ar,ar⟩⟩
def i175:TI:=Jy 8 .i64
def i189:TI:=wj 2 16 #[f0 "Name" 3 0 "" 0,f0 "Pack" 3 1 "" 8] [.int .i64 0,.int .i64 0] [.int .i64,.int .i64]
def Wc:dq ag 189 i189:=⟨Tryz.underlying189,rfl,⟨_,_,ff Tryz.type189,rfl,rfl,rfl,rfl,⟨_,rfl⟩,rfl⟩,λ_=>lb (fs:=[f0 "Name" 3 0 "" 0,f0 "Pack" 3 1 "" 8]) Tryz.underlying189 (by decide +kernel) Tryz.eqGuardType189 ⟨by decide,rfl,Tryz.underlying3,ar,by decide,rfl,Tryz.underlying3,ar,ar⟩⟩
def i213:TI:=P7 215
def i215:TI:=wj 2 32 #[f0 "addr" 213 0 "strings" 0,f0 "buf" 22 1 "strings" 8] [.nQ,zS]
def i217:TI:=⟨1,16,ae,TypeDesc.interface #[("Error",220)],[.nS],[]⟩
def i227:TI:=Jy 8 .u64
def i230:TI:=P7 3
def i233:TI:=Jy 8 .i64
def i255:TI:=P7 251
def i276:TI:=wj 2 2 #[f0 "lo" 5 0 "unicode/utf8" 0,f0 "hi" 5 1 "unicode/utf8" 1] [.int .u8 0,.int .u8 0] [.int .u8,.int .u8]
def Wd:dq ag 276 i276:=⟨Tryz.underlying276,rfl,⟨_,_,ff Tryz.type276,rfl,rfl,rfl,rfl,⟨_,rfl⟩,rfl⟩,λ_=>lb (fs:=[f0 "lo" 5 0 "unicode/utf8" 0,f0 "hi" 5 1 "unicode/utf8" 1]) Tryz.underlying276 (by decide +kernel) Tryz.eqGuardType276 ⟨by decide,rfl,Tryz.underlying5,ar,by decide,rfl,Tryz.underlying5,ar,ar⟩⟩
def i277:TI:=⟨32,32,ab,TypeDesc.array 16 276,[.int .u8 0,.int .u8 0,.int .u8 0,.int .u8 0,.int .u8 0,.int .u8 0,.int .u8 0,.int .u8 0,.int .u8 0,.int .u8 0,.int .u8 0,.int .u8 0,.int .u8 0,.int .u8 0,.int .u8 0,.int .u8 0,.int .u8 0,.int .u8 0,.int .u8 0,.int .u8 0,.int .u8 0,.int .u8 0,.int .u8 0,.int .u8 0,.int .u8 0,.int .u8 0,.int .u8 0,.int .u8 0,.int .u8 0,.int .u8 0,.int .u8 0,.int .u8 0],[]⟩
def i278:TI:=P7 292
def i281:TI:=⟨0,0,ab,TypeDesc.array 0 16,[],[]⟩
def i283:TI:=wj 0 0 #[f0 "_" 281 0 "runtime" 0] []
def i292:TI:=wj 1 16 #[f0 "s" 9 0 "errors" 0] [.str []] [.string]
def We:dq ag 292 i292:=⟨Tryz.underlying292,rfl,⟨_,_,ff Tryz.type292,rfl,rfl,rfl,rfl,⟨_,rfl⟩,rfl⟩,λ_=>lb (fs:=[f0 "s" 9 0 "errors" 0]) Tryz.underlying292 (by decide +kernel) Tryz.eqGuardType292 ⟨by decide,rfl,Tryz.underlying9,ar,ar⟩⟩
def tt:List (Nat×TI):=[(2,i2),(3,i3),(4,i4),(5,i5),(6,i6),(8,i8),(9,i9),(16,i16),(20,i20),(21,i21),(22,i22),(23,i23),(24,i24),(25,i25),(27,i27),(28,i28),(32,i32),(37,i37),(39,i39),(41,i41),(43,i43),(53,i53),(68,i68),(69,i69),(83,i83),(85,i85),(89,i89),(95,i95),(101,i101),(110,i110),(115,i115),(128,i128),(136,i136),(142,i142),(154,i154),(156,i156),(157,i157),(158,i158),(159,i159),(161,i161),(162,i162),(164,i164),(166,i166),(175,i175),(189,i189),(213,i213),(215,i215),(217,i217),(227,i227),(230,i230),(233,i233),(255,i255),(276,i276),(277,i277),(278,i278),(281,i281),(283,i283),(292,i292)]
def tok:c6 ag tt:=c6.c1 Tryz.underlying2 Tryz.type2 ( c6.c1 Tryz.underlying3 Tryz.type3 ( c6.c1 Tryz.underlying4 Tryz.type4 ( c6.c1 Tryz.underlying5 Tryz.type5 ( c6.c1 Tryz.underlying6 Tryz.type6 ( c6.c1 Tryz.underlying8 Tryz.type8 ( c6.c1 Tryz.underlying9 Tryz.type9 ( c6.c1 Tryz.underlying16 Tryz.type16 ( c6.c1 Tryz.underlying20 Tryz.type20 ( c6.c1 Tryz.underlying21 Tryz.type21 ( c6.c1 Tryz.underlying22 Tryz.type22 ( c6.c1 Tryz.underlying23 Tryz.type23 ( c6.c1 Tryz.underlying24 Tryz.type24 ( c6.c1 Tryz.underlying25 Tryz.type25 ( c6.c1 Tryz.underlying27 Tryz.type27 ( c6.c1 Tryz.underlying28 Tryz.type28 ( c6.c1 Tryz.underlying32 Tryz.type32 ( c6.c1 Tryz.underlying37 Tryz.type37 ( c6.c1 Tryz.underlying39 Tryz.type39 ( c6.c1 Tryz.underlying41 Tryz.type41 ( c6.c1 Tryz.underlying43 Tryz.type43 ( c6.c1 Tryz.underlying53 Tryz.type53 ( c6.cons g68 ( c6.c1 Tryz.underlying69 Tryz.type69 ( c6.c1 Tryz.underlying83 Tryz.type83 ( c6.c1 Tryz.underlying85 Tryz.type85 ( c6.c1 Tryz.underlying89 Tryz.type89 ( c6.c1 Tryz.underlying95 Tryz.type95 ( c6.cons V9 ( c6.cons Wa ( c6.c1 Tryz.underlying115 Tryz.type115 ( c6.c1 Tryz.underlying128 Tryz.type128 ( c6.c1 Tryz.underlying136 Tryz.type136 ( c6.c1 Tryz.underlying142 Tryz.type142 ( c6.c1 Tryz.underlying154 Tryz.type154 ( c6.c1 Tryz.underlying156 Tryz.type156 ( c6.c1 Tryz.underlying157 Tryz.type157 ( c6.c1 Tryz.underlying158 Tryz.type158 ( c6.c1 Tryz.underlying159 Tryz.type159 ( c6.c1 Tryz.underlying161 Tryz.type161 ( c6.c1 Tryz.underlying162 Tryz.type162 ( c6.c1 Tryz.underlying164 Tryz.type164 ( c6.cons Wb ( c6.c1 Tryz.underlying175 Tryz.type175 ( c6.cons Wc ( c6.c1 Tryz.underlying213 Tryz.type213 ( c6.c1 Tryz.underlying215 Tryz.type215 ( c6.c1 Tryz.underlying217 Tryz.type217 ( c6.c1 Tryz.underlying227 Tryz.type227 ( c6.c1 Tryz.underlying230 Tryz.type230 ( c6.c1 Tryz.underlying233 Tryz.type233 ( c6.c1 Tryz.underlying255 Tryz.type255 ( c6.cons Wd ( c6.c1 Tryz.underlying277 Tryz.type277 ( c6.c1 Tryz.underlying278 Tryz.type278 ( c6.c1 Tryz.underlying281 Tryz.type281 ( c6.c1 Tryz.underlying283 Tryz.type283 ( c6.cons We (c6.nil))))))))))))))))))))))))))))))))))))))))))))))))))))))))))
end R1
abbrev Bs:=List UInt8
abbrev dS(s:Bs):D:=.e (.one (.c (.str s)))
abbrev dI(n:Int):D:=.e (.one (.c (.int .i64 n)))
abbrev dU(n:Int):D:=.e (.one (.c (.int .u8 n)))
abbrev dB(b:Bool):D:=.e (.one (.c (.bool b)))
def jH{s:Bs}:ik s i=s.getD i 0:=rfl
namespace R1
variable {X:Cx ag}
def de:Tryz.prog.follows Departure.mixedOrders=ab:=rfl
def aaA{X:Cx ag}{CT:List (Nat×di)}(c:bA X CT)(ds:List (Nat×Bool)){N:Nat}{Qf:Post}(n:Nat){K b:List It}{φ φ':Fr}{σ σ':List ba}{a:List Prop}(h:AM.c8 tt CT ds N n K φ σ []=aa (b,φ',σ',a))(d:au a)(k:AK X N Qf b .normal φ' σ'):AK X N Qf K .normal φ σ:=AK.c8 de tok c ds n h d k
def Fl{X:Cx ag}(ds:List (Nat×Bool)){N:Nat}{Qf:Post}(n:Nat){K b:List It}{φ φ':Fr}{σ σ':List ba}{a:List Prop}(h:AM.c8 tt [] ds N n K φ σ []=aa (b,φ',σ',a))(c:au a)(k:AK X N Qf b .normal φ' σ'):AK X N Qf K .normal φ σ:=AK.c8 de tok bA.nil ds n h c k
def br{X:Cx ag}{N:Nat}{Qf:Post}{K b:List It}{φ φ':Fr}{σ σ':List ba}{a:List Prop}(h:AM.c8 tt [] [] N 100 K φ σ []=aa (b,φ',σ',a))(c:au a)(k:AK X N Qf b .normal φ' σ'):AK X N Qf K .normal φ σ:=AK.c8 de tok bA.nil [] 100 h c k
def dv{X:Cx ag}{N:Nat}{Qf:Post}{K b:List It}{φ φ':Fr}{σ σ':List ba}{a:List Prop}(h:AM.c8 tt [] [] N 200 K φ σ []=aa (b,φ',σ',a))(c:au a)(k:AK X N Qf b .normal φ' σ'):AK X N Qf K .normal φ σ:=AK.c8 de tok bA.nil [] 200 h c k
def aM{X:Cx ag}{CT:List (Nat×di)}(c:bA X CT)(ds:List (Nat×Bool)){N:Nat}{Qf:Post}{K b:List It}{φ φ':Fr}{σ σ':List ba}{a:List Prop}(h:AM.c8 tt CT ds N 100 K φ σ []=aa (b,φ',σ',a))(d:au a)(k:AK X N Qf b .normal φ' σ'):AK X N Qf K .normal φ σ:=AK.c8 de tok c ds 100 h d k
def bk{X:Cx ag}{CT:List (Nat×di)}(c:bA X CT)(ds:List (Nat×Bool)){N:Nat}{Qf:Post}{K b:List It}{φ φ':Fr}{σ σ':List ba}{a:List Prop}(h:AM.c8 tt CT ds N 200 K φ σ []=aa (b,φ',σ',a))(d:au a)(k:AK X N Qf b .normal φ' σ'):AK X N Qf K .normal φ σ:=AK.c8 de tok c ds 200 h d k
def aV{X:Cx ag}(ds:List (Nat×Bool)){N:Nat}{Qf:Post}{K b:List It}{φ φ':Fr}{σ σ':List ba}{a:List Prop}(h:AM.c8 tt [] ds N 100 K φ σ []=aa (b,φ',σ',a))(c:au a)(k:AK X N Qf b .normal φ' σ'):AK X N Qf K .normal φ σ:=AK.c8 de tok bA.nil ds 100 h c k
def bE{X:Cx ag}(ds:List (Nat×Bool)){N:Nat}{Qf:Post}{K b:List It}{φ φ':Fr}{σ σ':List ba}{a:List Prop}(h:AM.c8 tt [] ds N 200 K φ σ []=aa (b,φ',σ',a))(c:au a)(k:AK X N Qf b .normal φ' σ'):AK X N Qf K .normal φ σ:=AK.c8 de tok bA.nil ds 200 h c k
def bR{X:Cx ag}{CT:List (Nat×di)}(c:bA X CT){N:Nat}{Qf:Post}{K b:List It}{φ φ':Fr}{σ σ':List ba}{a:List Prop}(h:AM.c8 tt CT [] N 100 K φ σ []=aa (b,φ',σ',a))(d:au a)(k:AK X N Qf b .normal φ' σ'):AK X N Qf K .normal φ σ:=AK.c8 de tok c [] 100 h d k
def cz{X:Cx ag}{CT:List (Nat×di)}(c:bA X CT){N:Nat}{Qf:Post}{K b:List It}{φ φ':Fr}{σ σ':List ba}{a:List Prop}(h:AM.c8 tt CT [] N 200 K φ σ []=aa (b,φ',σ',a))(d:au a)(k:AK X N Qf b .normal φ' σ'):AK X N Qf K .normal φ σ:=AK.c8 de tok c [] 200 h d k
def lh(b:Int):Bool:=decide (97<=b)&&decide (b<=101)
theorem Mx(b:Int):Ev X 154 [dU b] [] (dB (lh b)) []:=by
 refine Ev.bQ Tryz.func154 rfl λ_=>?_;by_cases h:97<=b
 .refine aV [(4,ab)] rfl ?_ (AK.bg rfl ?_)<;>simp[h,lh]
 .refine aV [(4,ae)] rfl ?_ (AK.bg rfl ?_)<;>simp[h,lh]
def et(b:UInt8):Bool:=decide (97<=b.toNat)&&decide (b.toNat<=122)
def bX(s:Bs):Bool:=s.all et
def ri{s:Bs}(h:∀j,j<s.length->et (s.getD j 0)=ab):bX s=ab:=by simp only[bX,List.all_eq_true];grind[List.getElem_of_mem]
def jO{s:Bs}(h:j<s.length)(b:et (s.getD j 0)=ae):bX s=ae:=by
 cases a:bX s with
 |false=>rfl
 |true =>
  simp only[bX,List.all_eq_true]at a;grind
theorem C8(s:Bs):Ev X 155 [dS s] [] (dB (bX s)) []:=by
 refine Ev.bQ Tryz.func155 rfl λe=>?_;have f:=e.str 0 rfl;refine br rfl ar ?_;refine AK.uR (λi=>i<=s.length/\∀j,j<i->et (s.getD j 0)=ab) (λi:Nat=>[(0,dS s),(3,dI i)]) (λ_=>[]) (λi=>s.length-i) 0 rfl (by simp) ⟨by omega,by omega⟩ rfl ?_;rintro i ⟨hi,c⟩;by_cases h:i<s.length
 .generalize a:s.getD i 0=b;by_cases k:b.toNat<97
  .refine aV [(7,ab),(13,ab)] rfl ?_ (AK.gu (b7.zero rfl ?_))
   .simp only[au,jH,bc,a];omega
   .rw[au,jO h (by rw[a];simp only[et,qh,bY];omega)]
  .by_cases g:b.toNat>122
   .refine aV [(7,ab),(13,ae),(18,ab)] rfl ?_ (AK.gu (b7.zero rfl ?_))
    .simp only[au,jH,bc,bY,a];omega
    .rw[au,jO h (by rw[a];simp only[et,qh,bY];omega)]
   .refine aV [(7,ab),(13,ae),(18,ae)] rfl ?_ (AK.again (i+1) rfl ?_ ?_ ?_ rfl)
    .simp only[au,jH,bc,bY,a,bq];omega
    .simp
    .refine⟨by omega,λj d=>?_⟩;rcases tm.1 d with d|rfl
     .grind
     .rw[a];simp only[et,bP,bc];omega
    .omega
 .refine aV [(7,ae)] rfl (by simp;omega) (AK.leave rfl rfl ?_);refine br rfl ar (AK.bg rfl ?_);rw[au,ri (λj d=>c j (by omega))]
end R1
def Ev.args{P:aK}{X:Cx P}{f:aP}{args NS:List D}{σ σ':List ba}{res:D}(h:Ev X f NS σ res σ')(hl:∀s vs,cd σ s vs args->cd σ s vs NS):Ev X f args σ res σ' :=
 ⟨h.1,λs vs hr hh=>h.2 s vs (hl s vs hr) hh⟩
def jl(a:Nat):D->Option (Nat×(Nat->List C))
 |.e (.one (.c (.sl _ k n es)))=>match av k a with
  |true=>aa (n,es)
  |false=>match av n 0 with
   |true=>aa (0,λ_=>[])
   |false=>af
 |_=>af
def Jz{i:Nat}{d:D}{n:Nat}{es:Nat->List C}(h:jl i d=aa (n,es)){σ:List ba}{s:St}{v:aj}(r:dc σ s v d):Rd s.M v (.sl ae i n es):=by
 unfold jl at h;split at h
 .rename_i t k u es';split at h
  .rename_i g;have e:=bT g;subst e;cases h;exact(fp r).loose
  .split at h
   .rename_i j;have e:=bT j;subst e;cases h;have r':=fp r;cases r' with
    |sl b off f a l m g p q o=>exact Rd.sl b off f a l (by simp) (by omega) (by omega) (by omega) (by omega)
   grind
 grind
def xo{α:Type}(enc:α->List C)(bG:α)(l:List α):Nat->List C:=λi=>enc (l.getD i bG)
structure jX(α:Type) where
 k:Nat
 enc:α->List C
 dec:List C->α
 bG:α
 inv:∀a,dec (enc a)=a
 len:∀a,(enc a).length=k
namespace jX
variable {α:Type}(c:jX α)
def list(n:Nat)(es:Nat->List C):List α:=(a9 n).map λi=>c.dec (es i)
def fn(l:List α):Nat->List C:=xo c.enc c.bG l
def fits(n:Nat)(es:Nat->List C):Prop:=∀i,i<n->es i=c.enc (c.dec (es i))
def sl(l:List α):D:=.e (.one (.c (.sl ae c.k l.length (c.fn l))))
def Bh{n:Nat}{es:Nat->List C}:(c.list n es).length=n:=by simp[list]
def list_fn(l:List α):c.list l.length (c.fn l)=l:=by
 apply tu
 .simp[list]
 .intro i b a;simp[list,fn,xo,ai,bd a,c.inv]
def aR(l:List α){n:Nat}:c.fits n (c.fn l):=λi _=>by simp[fn,xo,c.inv]
def My{n:Nat}{es:Nat->List C}(h:c.fits n es):cn n es (c.fn (c.list n es)):=by intro i hi;rw[h i hi];simp[fn,xo,list,ai,hi]
def iF{d:D}{n:Nat}{es:Nat->List C}(h:jl c.k d=aa (n,es))(e:c.fits n es){σ:List ba}{s:St}{v:aj}(r:dc σ s v d):dc σ s v (c.sl (c.list n es)):=by have b:=Jz h r;have a:=b.BH (c.My e);show Rd s.M v (.sl ae c.k (c.list n es).length _);rw[c.Bh];exact a
end jX
def cq(s:Bs)(i:Nat):Int:=(s.getD i 0).toNat
theorem cr(s:Bs)(j:Int):((ik s j).toNat:Int)=cq s j.toNat:=rfl
abbrev bu:=Bs×Bs
def AG(cs:List C)(j:Nat):Bs:=match eh j cs with|some (.str s)=>s|_=>[]
def vg(cs:List C)(j:Nat):Int:=match eh j cs with|some (.int _ s)=>s|_=>0
def cF:jX bu:={k:=2,enc:=λf=>[.str f.1,.str f.2],dec:=λcs=>(AG cs 0,AG cs 1),bG:=([],[]),inv:=λ_=>rfl,len:=λ_=>rfl}
namespace R1
variable {X:Cx ag}
def P8:di:=λargs σ=>match args,σ with
 |[.e (.one (.c (.int .u8 b)))],[]=>aa (dB (lh b),[],[])
 |_,_=>af
def t154:dw X 154 P8:=by intro args σ res σ' obs h _;unfold P8 at h;grind[Mx]
def Mi:di:=λargs σ=>match args,σ with
 |[.e (.one (.c (.str b)))],[]=>aa (dB (bX b),[],[])
 |_,_=>af
def t155:dw X 155 Mi:=by intro args σ res σ' obs h _;unfold Mi at h;grind[C8]
def Xx:List (Nat×di):=[(154,P8),(155,Mi)]
def Bi:bA X Xx:=bA.cons t154 (bA.cons t155 bA.nil)
def dr(s:Bs):Bool:=if s.length=1 then lh (cq s 0)else if s.length=3 then lh (cq s 0)&&(cq s 1==47)&&lh (cq s 2)else ae
theorem F8(s:Bs):Ev X 110 [dS s] [] (dB (dr s)) []:=by
 refine Ev.bQ Tryz.func110 rfl λf=>?_;by_cases e:s.length=1
 .refine aM Bi [(6,ab)] rfl ?_ (AK.bg rfl ?_)
  .simp[e]
  .simp[dr,e,cr]
 .by_cases a:s.length=3
  .by_cases b:lh (cq s 0)=ab
   .by_cases d:cq s 1=47
    .refine aM Bi [(6,ae),(11,ab),(14,ab),(18,ab)] rfl ?_ (AK.bg rfl ?_)
     .simp[a,cr,b,d]
     .simp[dr,a,b,d,cr]
    .refine aM Bi [(6,ae),(11,ab),(14,ab),(18,ae)] rfl ?_ (AK.bg rfl ?_)
     .simp[a,cr,b,d]
     .simp[dr,a,b,d]
   .refine aM Bi [(6,ae),(11,ab),(14,ae)] rfl ?_ (AK.bg rfl ?_)
    .simp[a,cr,b]
    .simp[dr,a,b]
  .refine aM Bi [(6,ae),(11,ae)] rfl ?_ (AK.bg rfl ?_)
   .simp;omega
   .simp[dr,e,a]
def dO(s:Bs):Bool:=decide (s.length<=40)&&bX s
theorem F9(s:Bs):Ev X 111 [dS s] [] (dB (dO s)) []:=by
 refine Ev.bQ Tryz.func111 rfl λb=>?_;by_cases a:s.length<=40
 .refine aM Bi [(5,ab)] rfl ?_ (AK.bg rfl ?_)
  .simp;omega
  .simp[dO,a]
 .refine aM Bi [(5,ae)] rfl ?_ (AK.bg rfl ?_)
  .simp;omega
  .simp[dO,a]
def clash(a b:Bs):Bool:=(a.length != b.length)&&(cq a 0==cq b 0)
def JA(a b:Bs)(g:a≠[])(h:b≠[]):Ev X 146 [dS a,dS b] [] (dB (clash a b)) []:=by
 have e:=List.length_pos_iff.2 g;have d:=List.length_pos_iff.2 h;refine Ev.bQ Tryz.func146 rfl λi=>?_;by_cases f:a.length=b.length
 .refine aV [(9,ae)] rfl ?_ (AK.bg rfl ?_)
  .simp[f]
  .simp[clash,f]
 .refine aV [(9,ab)] rfl ?_ (AK.bg rfl ?_)
  .simp[e,d];omega
  .simp[clash,f,cr]
end R1
def E6(σ σ':List ba):Prop:=∀(s:St),aD σ s->aD σ' s/\Step σ s σ' s/\∀(v:aj)(d:D),dc σ s v d->dc σ' s v d
def Vl:ba->ba->Option (List Prop)
 |.vec E k n es,.vec E' k' n' es'=>match av E E',av k k' with
  |true,ab=>aa [n=n',cn n es es']
  |_,_=>af
 |.cells E cs,.cells E' lZ=>match av E E' with
  |true=>Nq cs lZ
  |false=>af
 |.dead,.dead=>aa []
 |.cp H,.cp H'=>aa [H=H']
 |.loop N φ r,.loop N' φ' r'=>aa [ba.loop N φ r=ba.loop N' φ' r']
 |.pK,.pK=>aa []
 |.buf E k n es,.buf E' k' n' es'=>match av E E',av k k' with
  |true,ab=>aa [n=n',cn n es es']
  |_,_=>af
 |_,_=>af
def rL:List ba->List ba->Option (List Prop)
 |[],[]=>aa []
 |a::r,b::q=>match Vl a b with
  |some p=>match rL r q with
   |some ps=>aa (jC p ps)
   |none=>af
  |none=>af
 |_,_=>af
def Lm(B B':ba):Prop :=
 (∀E k n es,B=.vec E k n es->∃es',B'=.vec E k n es'/\cn n es es')/\((∀E k n es,B≠.vec E k n es)->(∀E k n es,B'≠.vec E k n es)/\(B=B'∨(∃E cs lZ,B=.cells E cs/\B'=.cells E lZ/\∀σ s vs,dH σ s vs cs->dH σ s vs lZ)∨∃E k n es es',B=.buf E k n es/\B'=.buf E k n es'/\cn n es es'))
theorem ON{B B':ba}(h:Vl B B'=aa ps)(c:au ps):Lm B B':=by
 unfold Vl at h;split at h
 .rename_i E k n es E' k' n' es';split at h
  .rename_i b g;cases h;have a:=bT b;have d:=bT g;obtain⟨f,i⟩:n=n'/\cn n es es':=c;subst a d f;refine⟨λE0 k0 n0 Wv he=>?_,λj=>absurd rfl (j _ _ _ _)⟩;grind
  grind
 .rename_i E cs E' lZ;split at h
  .rename_i b;have a:=bT b;subst a;exact⟨λ_ _ _ _ he=>(by cases he),λ_=>⟨λ_ _ _ _ he=>(by cases he),.inr (.inl ⟨E,cs,lZ,rfl,rfl,λσ s vs r=>Cb h c r⟩)⟩⟩
  grind
 .exact⟨λ_ _ _ _ he=>(by cases he),λ_=>⟨λ_ _ _ _ he=>(by cases he),.inl rfl⟩⟩
 .cases h;rename_i H H';have e:H=H':=c;subst e;exact⟨λ_ _ _ _ he=>(by cases he),λ_=>⟨λ_ _ _ _ he=>(by cases he),.inl rfl⟩⟩
 .cases h;rename_i N φ r l φ' r';have e:ba.loop N φ r=ba.loop l φ' r':=c;exact⟨λ_ _ _ _ he=>(by cases he),λ_=>⟨λ_ _ _ _ he=>(by cases he),.inl e⟩⟩
 .exact⟨λ_ _ _ _ he=>(by cases he),λ_=>⟨λ_ _ _ _ he=>(by cases he),.inl rfl⟩⟩
 .rename_i E k n es E' k' n' es';split at h
  .rename_i b g;cases h;have a:=bT b;have d:=bT g;obtain⟨f,i⟩:n=n'/\cn n es es':=c;subst a d f;exact⟨λ_ _ _ _ he=>(by cases he),λ_=>⟨λ_ _ _ _ he=>(by cases he),.inr (.inr ⟨E,k,n,es,es',rfl,rfl,i⟩)⟩⟩
  grind
 grind
def Al:∀{σ σ':List ba}{ps:List Prop},rL σ σ'=aa ps->au ps->σ'.length=σ.length/\∀(l:Nat)(B B':ba),σ[l]?=aa B->σ'[l]?=aa B'->Lm B B'
 |[],[],_,_,_=>⟨rfl,λl B B' h=>by grind⟩
 |[],_::_,_,h,_=>by cases h
 |_::_,[],_,h,_=>by cases h
 |a::r,b::q,ps,h,c=>by
  simp only[rL]at h;split at h
  .rename_i p e;split at h
   .rename_i p2 h2;cases h;rw[au.cat]at c;obtain⟨d,f⟩:=Al h2 c.2;grind[ON]
   grind
  grind
def kD(h:rL σ σ'=aa ps)(hp:au ps):E6 σ σ':=by
 obtain⟨W,hg⟩:=Al h hp;intro s J;have K:∀(l:Nat) (B:ba),σ[l]?=aa B->∃B',σ'[l]?=aa B'/\Lm B B':=by grind
 have get:∀(l:Nat) (B':ba),σ'[l]?=aa B'->∃B,σ[l]?=aa B/\Lm B B':=by grind
 have i:∀(l:Nat),(∀B,σ[l]?=aa B->B.gr=ae)->∀B,σ'[l]?=aa B->B.gr=ae:=by
  intro l Y B' he;obtain⟨B,C,j⟩:=get l _ he;have q:=Y B C;rcases(j.2 (λE k n es e=>by rw[e]at q;cases q)).2 with rfl|⟨E,cs,u,rfl,rfl,_⟩|⟨E,k,n,es,es',rfl,rfl,_⟩
  .exact q
  .rfl
  .cases q
 have U:∀(l:Nat) E k n es,σ'[l]?=aa (ba.buf E k n es)->∃es',σ[l]?=aa (ba.buf E k n es'):=by
  intro l E k n es he;obtain⟨B,C,j⟩:=get l _ he;by_cases p:∃E k n es,B=ba.vec E k n es
  .obtain⟨E1,k1,n1,Cc,rfl⟩:=p;obtain⟨es',f,_⟩:=j.1 _ _ _ _ rfl;cases f
  .rcases(j.2 (λE k n es e=>p ⟨E,k,n,es,e⟩)).2 with rfl|⟨E,cs,u,rfl,h,_⟩|⟨E,k,n,es,es',rfl,h,_⟩
   .grind
   .cases h
   grind
 have I:∀(l:Nat) E k n es,σ'[l]?=aa (ba.vec E k n es)->∃es',σ[l]?=aa (ba.vec E k n es'):=by
  intro l E k n es he;obtain⟨B,C,j⟩:=get l _ he;by_cases p:∃E k n es,B=ba.vec E k n es
  .obtain⟨E1,k1,n1,Cc,rfl⟩:=p;obtain⟨es',f,_⟩:=j.1 _ _ _ _ rfl;grind
  .exact absurd rfl ((j.2 (λE k n es e=>p ⟨E,k,n,es,e⟩)).1 E k n es)
 have O:∀(v:aj) (a:A),fU σ s v a->fU σ' s v a:=by
  intro v a r;cases a with
  |c x=>exact r
  |ptr l o=>exact⟨i l r.1,r.2⟩
  |vec l k n es =>
   refine⟨r.1,by rw[W];exact r.2.1,λE k' n' es' he=>?_⟩;obtain⟨yb,g⟩:=I l E k' n' es' he;exact r.2.2 E k' n' yb g
  |ref l=>exact⟨i l r.1,r.2⟩
  |bp l w =>
   obtain⟨lv,r1,r2,r3⟩:=r;refine⟨lv,r1,by grind,λE k' n' es' he=>?_⟩;grind
  |any=>exact r
 have F:∀(vs:List aj) (cs:List A),dH σ s vs cs->dH σ' s vs cs:=by
  intro vs;induction vs with
  |nil=>intro cs r;cases cs with|nil=>trivial|cons _ _=>exact r.elim
  |cons v vs ih=>intro cs r;cases cs with|nil=>exact r.elim|cons c cs=>exact⟨O _ _ r.1,ih _ r.2⟩
 have R:∀(v:aj) (e:E1),mE σ s v e->mE σ' s v e:=by
  intro v e r;cases e with
  |one a=>exact O _ _ r
  |agg cs=>obtain⟨vs,f,g⟩:=r;exact⟨vs,f,F _ _ g⟩
 have M:∀(vs:List aj) (cs:List E1),gn σ s vs cs->gn σ' s vs cs:=by
  intro vs;induction vs with
  |nil=>intro cs r;cases cs with|nil=>trivial|cons _ _=>exact r.elim
  |cons v vs ih=>intro cs r;cases cs with|nil=>exact r.elim|cons c cs=>exact⟨R _ _ r.1,ih _ r.2⟩
 have Q:∀(v:aj) (d:D),dc σ s v d->dc σ' s v d:=by
  intro v d r;cases d with
  |e x=>exact R _ _ r
  |fe xs=>obtain⟨vs,f,g⟩:=r;exact⟨vs,f,M _ _ g⟩
  |any=>trivial
 refine⟨⟨J.mem,by rw[J.len,W],?_,J.eH,J.lt,J.own⟩,⟨aZ _,λ_ _ _=>rfl,λ_ _ _ h=>h,λ_ _ _ _=>rfl,λL h b m=>.inr ⟨L,h,m⟩,?_,rfl,rfl,rfl,rfl⟩,Q⟩
 .intro l B' L z V;obtain⟨B,C,j⟩:=get l B' z;have m:=J.box l B L C V;by_cases p:∃E k n es,B=ba.vec E k n es
  .obtain⟨E,k,n,es,rfl⟩:=p;obtain⟨es',rfl,he⟩:=j.1 _ _ _ _ rfl;refine⟨m.1.BH he,?_⟩;rcases m.2 with⟨f,g⟩|f
   .exact .inl ⟨f,g.BH he⟩
   grind
  .rcases(j.2 (λE k n es e=>p ⟨E,k,n,es,e⟩)).2 with rfl|⟨E,cs,u,rfl,rfl,S⟩|⟨E,k,n,es,es',rfl,rfl,S⟩
   .cases B with
    |cells E cs=>obtain⟨b,vs,f,g,G,y⟩:=m;exact⟨b,vs,f,g,F _ _ G,y⟩
    |vec E k n es=>grind
    |cp H=>exact m
    |dead=>trivial
    |loop N φ r=>obtain⟨l,tmps,fn,df,f,g,G,y,T⟩:=m;exact⟨l,tmps,fn,df,f,g,G,λt=>Q _ _ (y t),T⟩
    |pK=>exact m
    |buf E k n es=>exact m
   .obtain⟨b,vs,f,g,G,y⟩:=m;exact⟨b,vs,f,g,F _ _ (S _ _ _ G),y⟩
   .rcases m with m|⟨b,c0,vs,zs,f,g,G,y,T,h6,Z⟩
    .exact .inl m
    .exact .inr ⟨b,c0,vs,zs,f,g,G,y,T,h6.BH S,Z⟩
 .intro l B L C V;obtain⟨B',z,j⟩:=K l B C;refine⟨B',L,z,V,?_⟩;by_cases p:∃E k n es,B=ba.vec E k n es
  .obtain⟨E,k,n,es,rfl⟩:=p;obtain⟨es',rfl,he⟩:=j.1 _ _ _ _ rfl;exact⟨λ_=>rfl,aZ _⟩
  .rcases(j.2 (λE k n es e=>p ⟨E,k,n,es,e⟩)).2 with rfl|⟨E,cs,u,rfl,rfl,S⟩|⟨E,k,n,es,es',rfl,rfl,_⟩
   .exact hX.refl _ _
   .exact rfl
   .exact⟨λ_=>rfl,aZ _⟩
section
variable {X:Cx P}
theorem AW.ghost{Q:Post}{φ':Fr}(h:∀s a,cf N σ s φ a->aD σ s->∃s':St,s'.w=s.w/\cf N σ' s' φ' a/\aD σ' s'/\Step σ s σ' s')(k:AW X N c Q φ' σ'):AW X N c Q φ σ:=by intro s a l hh b kk cs S hb hQ;obtain⟨s',m,g,d,st⟩:=h s a l hh;have f:=st.nT hh;refine .ghost (.of hh d m f) ?_;exact k s' a g d b kk cs S hb λe i σ2 s2 a2 q j h2 nU=>hQ e i σ2 s2 a2 q j h2 (f.trans nU)
theorem AK.ghost{φ':Fr}{σ':List ba}(h:∀s a,cf N σ s φ a->aD σ s->∃s':St,s'.w=s.w/\cf N σ' s' φ' a/\aD σ' s'/\Step σ s σ' s')(k:AK X N Qf (.code c::K) .normal φ' σ'):AK X N Qf (.code c::K) .normal φ σ :=
 AW.ghost h k
def cf.bs{a:Act}(hb:E6 σ σ')(f:cf N σ s φ a)(hh:aD σ s):cf N σ' s φ a:=⟨f.size,f.defers.imp λ_ h1=>h1.mono (hb s hh).2.1.ext,λt=>(hb s hh).2.2 _ _ (f.slot t)⟩
def AK.norm(σ':List ba)(h:rL σ σ'=aa ps)(b:au ps)(k:AK X N Qf (.code c::K) .normal φ σ'):AK X N Qf (.code c::K) .normal φ σ :=
 AK.ghost (λs a d hh=>⟨s,rfl,d.bs (kD h b) hh,(kD h b s hh).1,(kD h b s hh).2.1⟩) k
def AK.g8(t:Nat)(E:ay)(k:Nat){k':Nat}(i:look φ t=.e (.one (.c (.sl ab k' n es))))(g:n=0)(kk:AK X N Qf (.code c::K) .normal ((t,.e (.one (.vec σ.length k n es)))::φ) (σ++[.vec E k n es])):AK X N Qf (.code c::K) .normal φ σ:=by
 refine AK.ghost (λs a b hh=>?_) kk;have h:=b.slot t;rw[i]at h;have h1:=Rd.tz (k:=k') (k':=k) (.inr g) (fp h);have f:eG (σ++[.vec E k n es]) {s with β:=s.β++[⟨a.tmps.getD t ah,[]⟩]} (.vec E k n es) ⟨a.tmps.getD t ah,[]⟩:=⟨h1.loose,.inl ⟨⟨rfl,g⟩,h1⟩⟩;obtain⟨j,d⟩:=hh.gC (.refl _ _) rfl hh f (by simp)
 refine⟨{s with β:=s.β++[⟨a.tmps.getD t ah,[]⟩]},rfl,⟨b.size,b.defers.imp λ_ h1=>h1.mono d.ext,λu=>?_⟩,j,d⟩;simp only[look];cases hb:av t u with
 |false=>exact(b.slot u).mono d.ext hh.len
 |true =>
  have e:=bT hb;subst e;exact oI (L:=⟨a.tmps.getD t ah,[]⟩) (by simp) (by simp[<-hh.len]) f
def AK.iM{S:Type}(I:S->Prop)(fr:S->Fr)(st:S->List ba)(j:S->Nat)(x:S){qs:List Prop}(v:pn φ (fr x)=aa ps)(G:au ps)(m:rL σ (st x)=aa qs)(A:au qs)(B:I x)(round:∀x,I x->AK X N (λe φ' σ'=>match e with
   |.normal=>∃y,I y/\j y<j x/\qP φ' (fr y)/\E6 σ' (st y)
   |e=>AK X N Qf K e φ' σ') [.code c] .normal (fr x) (st x)):AK X N Qf (.code (.loop c)::K) .normal φ σ:=by
 intro s a F hh b kk cs SS hb hQ;have h:=kD m A;obtain⟨u,p,_⟩:=h s hh;refine uS (λn a' s'=>∃y,I y/\cf N (st y) s' (fr y) a'/\aD (st y) s'/\cJ σ s (st y) s'/\j y=n) ?_ ?_ ⟨x,B,(F.le (cG v G)).bs h hh,u,p.nT hh,rfl⟩
 .rintro n a' s' ⟨y,l,k,i,d,e⟩;exact⟨st y,i,λH h1=>⟨y,l,k.rely h1 i,i.rely h1,d.trans h1.stepW,e⟩⟩
 rintro n a' s' ⟨y,l,k,i,d,rfl⟩ D;refine round y l s' a' k i b (.inLoop c::kk) cs SS hb ?_;intro e E σ2 s2 a2 q w h2 nU;cases e with
 |normal =>
  obtain⟨z,C,o,f,g⟩:=q;obtain⟨t,r,_⟩:=g s2 h2;exact D a2 s2 (j z) o ⟨z,C,(w.le f).bs g h2,t,d.trans (nU.trans (r.nT h2)),rfl⟩
 |_=>exact ends.cons (λ_ _=>rfl) (by simp) (hQ _ _ _ _ _ q w h2 (d.trans nU))
def AK.fa{S:Type}{I:S->Prop}{fr:S->Fr}{st:S->List ba}{a:S->Nat}{x:S}{Qr:Post}(y:S){qs:List Prop}(c:pn φ (fr y)=aa ps)(h:au ps)(d:rL σ (st y)=aa qs)(f:au qs)(g:I y)(b:a y<a x):
  AK X N (λe φ' σ'=>match e with
   |.normal=>∃y,I y/\a y<a x/\qP φ' (fr y)/\E6 σ' (st y)
   |e=>Qr e φ' σ') [] .normal φ σ:=⟨y,g,b,cG c h,kD d f⟩
end
def Ev.forget{X:Cx P}{f:aP}{args:List D}{res res':D}(h:Ev X f args [] res σ')(e:BC res res'=aa ps)(i:au ps)(a:uh 0 res'=ab):Ev X f args [] res' []:=by
 refine⟨h.1,λs vs hr hh S cs hS=>h.2 s vs hr hh S cs λfr v c hl hv h1 st=>?_⟩
 have k:s.β=[]:=jo hh.len;have g:ey c {c with β:=[]}:=⟨rfl,λ_ _ _ h=>h,λ_ _ _=>rfl,h1.mem,λb hb=>.inl (by grind)⟩
 refine .ghost g (hS fr v {c with β:=[]} (hl.mono λ_ _ _ h=>h) ?_ ⟨h1.mem,rfl,by simp,by simp,by simp,λb hb=>⟨(h1.own b hb).1,by simp⟩⟩ ⟨st.size,st.keep,st.mem,st.iq,by simp,λl B L j=>by grind,st.os,st.tape,st.output,st.own⟩)
 .have h2:=pO e i hv;have:=dc.sub (ks:=[]) (σ:=σ') (σ':=[]) (s:=c) (β':=[]) (d:=res') rfl rfl (by rw[Am a];exact h2) a;exact this
section drop
variable {σ1 rest:List ba}
def RM(n:Nat):ba->Bool
  | .cells _ cs=>Dv n cs
  | .loop ..=>ae
  | _=>ab
def wC(n:Nat):List ba->Bool
  | []=>ab
  | a::r=>match RM n a with|true=>wC n r|false=>ae
def An{n:Nat}:∀{l:List ba},wC n l=ab->∀B∈l,RM n B=ab
  | [],_,B,a=>by grind
  | b::r,h,B,a=>by
    simp only[wC]at h;cases c:RM n b with
    | false=>grind
    | true =>
      simp only[c]at h;rcases dD.1 a with rfl|a
      · exact c
      · exact An h B a
def eG.sE{B:ba}{L:Loc}(a:RM σ1.length B=ab)(h:eG (σ1++rest) s B L):eG σ1 (s.cut σ1.length) B L:=by
  cases B with
  | cells E cs =>
    obtain⟨b,vs,h1,h2,d,c⟩:=h;exact⟨b,vs,h1,h2,dH.wz d a,c⟩
  | vec E k n es=>exact h
  | cp H=>exact h
  | dead=>trivial
  | loop N φ r=>simp[RM]at a
  | pK=>exact h
  | buf E k n es=>exact h
def aD.drop(h:aD (σ1++rest) s)(f:wC σ1.length σ1=ab):aD σ1 (s.cut σ1.length):=by
  have hl:σ1.length<=s.β.length:=by rw[h.len];simp
  refine⟨h.mem,by simp[St.cut,hl],?_,?_,?_,λb hb=>⟨(h.own b hb).1,λL a=>(h.own b hb).2 L (jr a)⟩⟩
  · intro l B L e a
    have d:l<σ1.length:=(b8.1 e).1;simp only[St.cut,ig,d,bZ]at a;exact eG.sE (rest:=rest) (An f B (bD e)) (h.box l B L (by grind) a)
  · intro l l' L L' a c b hb oH
    simp only[St.cut,ig]at a c;split at a<;>split at c<;>first|exact h.eH l l' L L' a c b hb oH|grind|grind
  · intro L a b hb
    exact h.lt L (jr a) b hb
def nB.drop(a:l7 rest=ab):∀{ds:List Deferred} {ls:List Nat},nB (σ1++rest) s ds ls->nB σ1 (s.cut σ1.length) ds ls
  | [],[],_=>trivial
  | [],_::_,r=>r.elim
  | _::_,[],r=>r.elim
  | d::ds,l::ls,⟨⟨h1,L,r,h2,e⟩,c,b⟩=>by
    have hl:l<σ1.length:=by
      rcases cv l σ1.length with h|h
      · exact h
      · rw[fh h]at h1
        exact absurd rfl (l8 a _ (bD h1))
    rw[jq hl]at h1;exact⟨⟨h1,L,r,by simp only[St.cut,ig,hl,bZ];exact h2,e⟩,c,nB.drop a b⟩
def yM(n:Nat)(σ:List ba):Bool:=match bn n σ.length with|true=>l7 (σ.drop n)|false=>ae
theorem w6(h:yM n σ=ab):bn n σ.length=ab/\l7 (σ.drop n)=ab:=by unfold yM at h;grind
end drop
def E7(n:Nat):Fr->Bool
  | []=>ab
  | (_,d)::r=>match uh n d with|true=>E7 n r|false=>ae
def oV{n:Nat}:∀{φ:Fr} {t:Nat},E7 n φ=ab->uh n (look φ t)=ab
  | [],t,_=>rfl
  | (u,d)::r,t,h=>by
    simp only[E7]at h;cases a:uh n d with
    | false=>grind
    | true =>
      simp only[a]at h;simp only[look];cases av u t with
      | true=>exact a
      | false=>exact oV h
section
variable {X:Cx P}
def k9{S:Type}(X:Cx P)(N:Nat)(Qf:Post)(K:List It)(I:S->Prop)(a:S->Fr)(st:S->List ba)(b:S->Nat)(n:Nat)(x:S):Post:=λe φ' σ'=>match e with
  | .normal=>∃y,I y/\b y<b x/\qP φ' (a y)/\E7 n (a y)=ab/\∃σ1 rest,σ'=σ1++rest/\σ1.length=n/\(wC n σ1=ab/\l7 rest=ab)/\E6 σ1 (st y)
  | e=>AK X N Qf K e φ' σ'
def AK.bS{S:Type}(n:Nat)(I:S->Prop)(fr:S->Fr)(st:S->List ba)(l:S->Nat)(x:S){qs:List Prop}(D:pn φ (fr x)=aa ps)(Z:au ps)(r:rL σ (st x)=aa qs)(H:au qs)(hn:σ.length=n)(Q:I x)(round:∀x,I x->AK X N (k9 X N Qf K I fr st l n x) [.code c] .normal (fr x) (st x)):AK X N Qf (.code (.loop c)::K) .normal φ σ:=by
  intro s a Y hh b kk cs SS hb hQ;have g:=kD r H;obtain⟨C,v,_⟩:=g s hh;refine uS (λm a' s'=>∃y,I y/\cf N (st y) s' (fr y) a'/\aD (st y) s'/\cJ σ s (st y) s'/\l y=m) ?_ ?_ ⟨x,Q,(Y.le (cG D Z)).bs g hh,C,v.nT hh,rfl⟩
  · rintro n a' s' ⟨y,o,k,i,d,e⟩
    exact⟨st y,i,λs1 h1=>⟨y,o,k.rely h1 i,i.rely h1,d.trans h1.stepW,e⟩⟩
  rintro m a' s' ⟨y,o,k,i,d,rfl⟩ U;refine round y o s' a' k i b (.inLoop c::kk) cs SS hb ?_;intro e V σ2 s2 a2 q F h2 nU;cases e with
  | normal =>
    obtain⟨z,R,u,f,J,σ1,rest,rfl,M,⟨W,E⟩,B⟩:=q;have G:=h2.drop (by grind);obtain⟨w,j,p⟩:=B _ G;have A:=F.le f;have O:ey s2 (s2.cut σ1.length):=⟨rfl,λ_ _ _ h=>h,λ_ _ _=>rfl,h2.mem,λb hb=>hb.imp id λ⟨L,T,hb⟩=>⟨L,jr T,hb⟩⟩
    refine .ghost O (U a2 (s2.cut σ1.length) (l z) u ⟨z,R,⟨A.size,A.defers.imp λ_ h1=>(h1.drop E).mono j.ext,λt=>p _ _ ((A.slot t).drop (oV (by grind)))⟩,w,?_,rfl⟩);exact((d.trans nU).drop (by omega)).trans (j.nT G)
  | _=>exact ends.cons (λ_ _=>rfl) (by simp) (hQ _ _ _ _ _ q F h2 (d.trans nU))
def AK.OO{S:Type}{I:S->Prop}{fr:S->Fr}{st:S->List ba}{c:S->Nat}{x:S}{j:List It}(y:S){qs:List Prop}(e:pn φ (fr y)=aa ps)(k:au ps)(d:E7 n (fr y)=ab)(b:yM n σ=ab)(g:rL (σ.take n) (st y)=aa qs)(h:au qs)(f:wC n (σ.take n)=ab)(i:I y)(a:c y<c x):
    AK X N (k9 X N Qf j I fr st c n x) [] .normal φ σ :=
  ⟨y,i,a,cG e k,d,σ.take n,σ.drop n,(iR n σ).symm,by grind[Nat.le_of_ble_eq_true,w6],⟨f,(w6 b).2⟩,kD g h⟩
def AK.aQ{S:Type}{n:Nat}{I:S->Prop}{fr:S->Fr}{st:S->List ba}{b:S->Nat}{x:S}{e:List It}(y:S){ps qs:List Prop}(h:(pn φ (fr y),E7 n (fr y),yM n σ,rL (σ.take n) (st y),wC n (σ.take n))=(aa ps,ab,ab,aa qs,ab))(f:au ps)(c:au qs)(d:I y)(a:b y<b x):
    AK X N (k9 X N Qf e I fr st b n x) [] .normal φ σ:=by simp only[kO]at h;exact AK.OO y h.1 f h.2.1 h.2.2.1 h.2.2.2.1 c h.2.2.2.2 d a
def AK.leaveD{S:Type}{I:S->Prop}{fr:S->Fr}{st:S->List ba}{b:S->Nat}{x:S}{id:Nat}{d a c:List It}(h1:jV id d=af)(h2:jV id a=aa c)(k:AK X N Qf c .normal φ σ):
    AK X N (k9 X N Qf a I fr st b n x) (.code (.exit id)::d) .normal φ σ :=
  AW.mono (AK.leave (A:=λφ' σ'=>k9 X N Qf a I fr st b n x .normal φ' σ') h1 h2 k) λe φ' σ' q=>by
    have key:∀(K:List It) e,AK X N (λe φ' σ'=>match e with
        | .normal=>k9 X N Qf a I fr st b n x .normal φ' σ'
        | e=>AK X N Qf a e φ' σ') K e φ' σ'->AK X N (k9 X N Qf a I fr st b n x) K e φ' σ':=by
      have e:(λe φ' σ'=>match e with
        | .normal=>k9 X N Qf a I fr st b n x .normal φ' σ'
        | e=>AK X N Qf a e φ' σ')=k9 X N Qf a I fr st b n x:=by funext e φ' σ';cases e<;>rfl
      grind
    exact key _ _ q
def AK.eK{S:Type}{I:S->Prop}{fr:S->Fr}{st:S->List ba}{b:S->Nat}{x:S}{c a:List It}(k:Qf .ret φ σ):AK X N (k9 X N Qf a I fr st b n x) (.code .ret::c) .normal φ σ :=
  AK.ret (AK.qO (Qf:=Qf) k)
theorem cf.freeze(t l:Nat){cs:List A}{cc:List C}(y:look φ t=.e (.one (.ptr l 0)))(hl:eh l σ=aa (.cells E cs))(G:gE cs=aa cc){a:Act}(g:cf N σ s φ a)(hh:aD σ s):∃s':St,s'.w=s.w/\cf N (σ.set l .dead) s' ((t,.e (.one (.c (.rp cc))))::φ) a/\aD (σ.set l .dead) s'/\Step σ s (σ.set l .dead) s':=by
  have i:=cT hl;have n:l<σ.length:=(b8.1 i).1;have q:=g.slot t;rw[y]at q;obtain⟨_,L,b,m,f,z⟩:=q;obtain⟨d,vs,h1,h2,F,H⟩:=hh.box l _ L i m;subst h1;simp at f;subst f;let s':St:={s with M:=λr o=>if r=d then vs[o]? else s.M r o}
  have st:Step σ s (σ.set l .dead) s':=by
    refine⟨aZ _,λ_ _ _=>rfl,?_,?_,λL h b hb=>.inr ⟨L,h,hb⟩,?_,rfl,rfl,rfl,rfl⟩
    · grind
    · intro b hb hn o
      have k:b≠d:=λe=>hn _ (bD m) (by simp[e]);grind
    · intro l' B L' lz fC
      by_cases e:l=l'
      · subst e
        rw[i]at lz;cases lz;exact⟨.dead,L',by grind,fC,rfl⟩
      · exact⟨B,L',by grind,fC,.refl _ _⟩
  refine⟨s',rfl,⟨g.size,g.defers.imp λ_ h1=>h1.mono st.ext,λu=>?_⟩,⟨?_,by simp[hh.len,s'],?_,hh.eH,hh.lt,hh.own⟩,st⟩
  · simp only[look]
    cases hb:av t u with
    | false=>exact(g.slot u).mono st.ext hh.len
    | true =>
      have e:=bT hb;subst e;rw[z];have p:=kL G F;refine Rd.rp d 0 (λj=>(vs[j]?).getD ah) ?_ ?_
      · intro j c hj
        obtain⟨v,x,_⟩:=p.get (j:=j) (a:=.c c) (by grind);grind
      · intro j c hj
        obtain⟨v,x,p2⟩:=p.get (j:=j) (a:=.c c) (by grind);simp only[x,fK];exact Rd.mono st.mem p2
  · intro b o v I
    by_cases e:b=d
    · subst e
      have hm':vs[o]?=aa v:=by grind
      show s.w.cell? _=_;simp[aU,h2,hm']
    · exact hh.mem b o v (by grind)
  · intro l' B L' lz fC
    by_cases e:l=l'
    · subst e
      rw[fJ n]at lz;cases lz;trivial
    · rw[j5 e]at lz
      refine(hh.box l' B L' lz fC).carry st.ext hh.len λb hb=>⟨rfl,λo=>?_⟩
      have k:b≠d:=λD=>e (hh.eH l l' _ L' m fC b (by grind) hb);grind
theorem AK.freeze(t l:Nat){E:ay}{cs:List A}{cc:List C}(a:look φ t=.e (.one (.ptr l 0)))(hl:eh l σ=aa (.cells E cs))(b:gE cs=aa cc)(kk:AK X N Qf (.code c::K) .normal ((t,.e (.one (.c (.rp cc))))::φ) (dL.rB l .dead σ)):AK X N Qf (.code c::K) .normal φ σ:=by grind[kA,AK.ghost,cf.freeze]
def AK.one{rest:List aB}{x:D}(h:OA X N all o φ σ x σ')(a:fD N o.dst=ab)(k:AK X N Qf (.ops all rest::K) .normal (kV o.dst x φ) σ'):AK X N Qf (.ops all (o::rest)::K) .normal φ σ :=
  iO.yN h (iw a) k
end
structure Ce(d:TypeDesc)(es:Array MapEntry)(k:aj)(a:Option (Nat×aj)):Prop where
 key:MapKept.IsKey d k
 now:Instr.findNow d k es.toList 0=aa a
 no:a=af->∀e∈es.toList,e.key≠k
 yes:∀j v,a=aa (j,v)->∃e,es[j]?=aa e/\e.key=k/\e.val=v
def w8{d:TypeDesc}{es:Array MapEntry}{k:aj}(b:MapKept.IsKey d k)(h:∀e∈es.toList,MapKept.IsKey d e.key):∃a,Ce d es k a:=by
 rcases MapKept.findNow_spec b es.toList 0 h with⟨g,i⟩|⟨j,e,g,i,m⟩
 .exact⟨af,b,g,λ_=>i,by simp⟩
 .refine⟨_,b,g,by simp,λn v l=>?_⟩;grind
section
variable {c f:ay}{d:TypeDesc}{r:Nat}{es:Array MapEntry}{clock:Nat}{k:aj}{ok:Bool}
def DU(a:P.underlying c=aa d):(underlying c).run P w=.ok d w:=by simp[underlying,a]
def lE(e:P.underlying c=aa d)(a:MapKept.IsKey d k)(b:Bool)(evs:Array Event):(Instr.checkKey b 10000 c k).events P w evs=evs:=by show(Instr.checkKey b (9999+1) c k).events P w evs=evs;unfold Instr.checkKey;simp only[aJ,DU e,aO,events_underlying];cases d<;>cases k<;>first|exact a.elim|simp
def mU{l:List MapEntry}{a:Option (Nat×aj)}(b:P.underlying c=aa d)(h:Instr.findNow d k l 0=aa a)(evs:Array Event):(Instr.findKey c k l).events P w evs=evs:=by simp[Instr.findKey,DU b,h]
def jM(a:w.heap[r]?=aa (.map es clock))(evs:Array Event):(getObj r).events P w evs=evs.push ⟨.obj r,ae,ae⟩:=by simp only[getObj,Sem.events,Sem.runT,a];rfl
def pt(b:w.heap[r]?=aa (.map es clock)){es':Array MapEntry}{a:Nat}(evs:Array Event):(setObj r (.map es' a)).events P w evs=evs.push ⟨.obj r,ab,ae⟩:=by simp only[setObj,Sem.events,Sem.runT,b];rfl
def pv(e:P.underlying c=aa d)(a:MapKept.IsKey d k)(b:Bool):(Instr.checkKey b 10000 c k).run P w=.ok () w:=MapKept.run_checkKey e a b 9999
def sF(m:P.underlying t=aa (.map c f))(h:P.underlying c=aa d)(e:w.heap[r]?=aa (.map es clock)){a:Option (Nat×aj)}(g:Ce d es k a){z:aj}(l:a=af->(zeroValue f).run P w=.ok z w):
  (Instr.lookup t (.map (aa r)) k ok).run P w=.ok (match a with
   |some (_,v)=>if ok=ab then .tuple #[v,.bool ab]else v
   |none=>if ok=ab then .tuple #[z,.bool ae]else z) w/\(Instr.lookup t (.map (aa r)) k ok).events P w #[]=#[⟨.obj r,ae,ae⟩]:=by
 have j:(underlying t).run P w=.ok (.map c f) w:=by simp[underlying,m]
 have i:=pv (w:=w) h g.key es.isEmpty;have b:(Instr.findKey c k es.toList).run P w=.ok a w:=MapKept.run_findKey h g.now;cases a with
 |some jv =>
  constructor
  .simp only[Instr.lookup,bL,j,b6,MapKept.run_getObj_map e,cK,i,b]
  .simp only[Instr.lookup,aJ,j,aO,MapKept.run_getObj_map e,cK,Sem.events_pure,i,b,events_underlying,jM e,lE h g.key,mU h g.now];rfl
 |none =>
  constructor
  .simp only[Instr.lookup,bL,j,b6,MapKept.run_getObj_map e,cK,i,b,l rfl]
  .simp only[Instr.lookup,aJ,j,aO,MapKept.run_getObj_map e,cK,Sem.events_pure,i,b,events_underlying,jM e,lE h g.key,mU h g.now,l rfl,events_zeroValue];rfl
def sG(s:P.underlying t=aa (.map c f))(i:P.underlying c=aa d)(b:w.heap[r]?=aa (.map es clock)){a:Option (Nat×aj)}{x:aj}(g:Ce d es k a):
  (Instr.mapUpdate t (.map (aa r)) k x).run P w=.ok () {w with heap:=w.heap.setIfInBounds r (match a with
   |some (j,_)=>.map (es.modify j λe=>{key:=k,val:=x,born:=e.born}) clock
   |none=>.map (es.push {key:=k,val:=x,born:=clock}) (clock+1))} /\
  (Instr.mapUpdate t (.map (aa r)) k x).events P w #[]=#[⟨.obj r,ae,ae⟩,⟨.obj r,ab,ae⟩]:=by
 have p:(underlying t).run P w=.ok (.map c f) w:=by simp[underlying,s]
 have o:=pv (w:=w) i g.key ae;have h:(Instr.findKey c k es.toList).run P w=.ok a w:=MapKept.run_findKey i g.now;cases a with
 |some jv =>
  obtain⟨j,v⟩:=jv;obtain⟨e,m,l,_⟩:=g.yes j v rfl;have n:(Instr.keyThatStays k k).run P w=.ok k w:=MapKept.run_keyThatStays g.key;have q:∀evs,(Instr.keyThatStays k k).events P w evs=evs:=λevs=>by simp[Instr.keyThatStays,MapKept.sameBits_self g.key]
  constructor
  .simp only[Instr.mapUpdate,bL,p,b6,MapKept.run_getObj_map b,o,h,m,lR,fK,l,n,MapKept.run_setObj_map _ b]
  .simp only[Instr.mapUpdate,aJ,p,aO,MapKept.run_getObj_map b,o,h,m,lR,fK,l,n,q,events_underlying,jM b,pt b,lE i g.key,mU i g.now];rfl
 |none =>
  constructor
  .simp only[Instr.mapUpdate,bL,p,b6,MapKept.run_getObj_map b,o,h,MapKept.run_setObj_map _ b]
  .simp only[Instr.mapUpdate,aJ,p,aO,MapKept.run_getObj_map b,o,h,events_underlying,jM b,pt b,lE i g.key,mU i g.now];rfl
end
def aD.jh(h:aD σ s){H':aj->(Nat->Option Obj)->Prop}{L L':Loc}(z:σ[l]?=aa (.cp H))(t:s.β[l]?=aa L)(A:L'.v=L.v)(n:s.w.heap.size<=w'.heap.size)(J:∀b,b<s.w.heap.size->b∉L.bs->w'.heap[b]?=s.w.heap[b]?)(i:∀b∈L'.bs,b∈L.bs∨(s.w.heap.size<=b/\b<w'.heap.size))(hb:∃ch,H' L'.v ch/\(∀(b:Nat) (o:Obj),ch b=aa o->w'.heap[b]?=aa o)/\(∀b,b∈L'.bs↔(ch b).isSome=ab))(G:w'.os=s.w.os)(E:w'.tape=s.w.tape)(Q:w'.output=s.w.output):
  aD (σ.set l (.cp H')) ⟨s.β.set l L',s.M,w',s.own⟩/\Step σ s (σ.set l (.cp H')) ⟨s.β.set l L',s.M,w',s.own⟩:=by
 have y:l<σ.length:=(b8.1 z).1;have x:l<s.β.length:=by grind
 obtain⟨K,_,_,_,O⟩:=h.box l _ L z t;have q:∀b∈L'.bs,∀o,s.M b o=af:=by
  intro b k o;rcases i b k with h1|⟨h1,_⟩
  .grind
  .cases u:s.M b o with
   |none=>rfl
   |some v=>have:=h.block u;omega
 have st:Step σ s (σ.set l (.cp H')) ⟨s.β.set l L',s.M,w',s.own⟩:=by
  refine⟨n,?_,λ_ _ _ h=>h,λ_ _ _ _=>rfl,?_,?_,G,E,Q,rfl⟩
  .grind
  .grind
  .intro l' B a d f;by_cases e:l=l'
   .subst e;rw[z]at d;cases d;rw[t]at f;cases f;exact⟨.cp H',L',by grind,by grind,A⟩
   .exact⟨B,a,by grind,by grind,.refl _ _⟩
 have g:∀(l':Nat) (a:Loc),(s.β.set l L')[l']?=aa a->(l'=l/\a=L')∨(l≠l'/\s.β[l']?=aa a):=by grind
 refine⟨⟨?_,by simp[h.len],?_,?_,?_,?_⟩,st⟩
 .intro b o v u;have C:=h.block u;have D:b∉L.bs:=λm=>by grind
  rw[<-h.mem b o v u];simp only[aU];grind
 .intro l' B a d f;rcases g l' a f with⟨rfl,rfl⟩|⟨e,h2⟩
  .rw[fJ y]at d;cases d;obtain⟨ch,k1,P,N⟩:=hb;exact⟨ch,k1,P,N,q⟩
  .rw[j5 e]at d;refine(h.box l' B a d h2).carry st.ext h.len λb k=>⟨J b (h.lt a (bD h2) b k) λm=>e (h.eH l l' L a t h2 b m k),λ_=>rfl⟩
 .intro F I L1 a h1 h2 b j c;rcases g F L1 h1 with⟨rfl,rfl⟩|⟨e1,r⟩<;>rcases g I a h2 with⟨rfl,rfl⟩|⟨e2,p⟩
  .rfl
  .rcases i b j with m|m
   .exact h.eH _ _ L a t p b m c
   .have:=h.lt a (bD p) b c;omega
  .rcases i b c with m|m
   .exact h.eH _ _ L1 L r t b j m
   .have:=h.lt L1 (bD r) b j;omega
  .exact h.eH _ _ L1 a r p b j c
 .intro a f b c;rcases List.mem_or_eq_of_mem_set f with h1|h1
  .exact cA (h.lt a h1 b c) n
  .subst h1;rcases i b c with h2|h2
   .exact cA (h.lt L (bD t) b h2) n
   grind
 .intro b hb;obtain⟨S,R⟩:=h.own b hb;grind
section
variable {H':aj->(Nat->Option Obj)->Prop}
end
def b7.rQ{fn:Func}{a:Nat}{res:D}(ks:List Nat)(h:yr fn.results.toList ks φ res=aa ps)(f:au ps)(d:jB ks σ=aa σ')(b:kh σ'=ab)(c:dF ks=ab)(e:∀j,j<a->ks[j]?=aa j):
  b7 fn a res σ' .normal φ σ:=by refine⟨.inr rfl,ks,?_⟩;unfold yr at h;grind
def AK.Oc{X:Cx P}{f:aP}{σ1:List ba}{res:D}(b:Ev X f cu σs res σ1)(ks:List Nat)(h:o.guard=af)(j:o.op=.call {callee:=.value fo,args:=xs,argTypes:=jK})(l:er (bH φ fo)=aa (f,cap))(a:nq (xs.toList.map (bH φ)++fu cap)=gp ks cu)(g:lq ks.length cu=ab)(d:jB ks σ=aa σs)(n:cx σs=ab)(e:cx σ1=ab)(i:dF ks=ab)(c:bn ks.length σ1.length=ab)(m:fD N o.dst=ab)(k:AK X N Qf (.ops all rest::K) .normal (kV o.dst (ij (ks++kW σ.length (σ1.length-ks.length)) res) φ) (dL ks σ1 σ)):AK X N Qf (.ops all (o::rest)::K) .normal φ σ :=
 iO.call (λ_ _ _ _=>dC h) j l ks b a g d n e i (dy c) o.dst rfl (iw m) k
def AK.yo{X:Cx P}{f:aP}(b:dK X f cu σs res σ1)(ks:List Nat)(h:o.guard=af)(l:o.op=.call {callee:=.value fo,args:=xs,argTypes:=jK})(m:er (bH φ fo)=aa (f,cap))(a:nq (xs.toList.map (bH φ)++fu cap)=gp ks cu)(g:lq ks.length cu=ab)(d:jB ks σ=aa σs)(p:cx σs=ab)(e:∀j,cx (σ1 j)=ab)(i:dF ks=ab)(c:∀j,bn ks.length (σ1 j).length=ab)(n:fD N o.dst=ab)(k:∀j,AK X N Qf (.ops all rest::K) .normal (kV o.dst (ij (ks++kW σ.length ((σ1 j).length-ks.length)) (res j)) φ) (dL ks (σ1 j) σ)):AK X N Qf (.ops all (o::rest)::K) .normal φ σ :=
 iO.M7 (λ_ _ _ _=>dC h) l m ks b a g d p e i (λj=>dy (c j)) o.dst rfl (iw n) k
def AK.cQ{P:aK}{X:Cx P}{N:Nat}{Qf:Post}{K:List It}{φ:Fr}{σ:List ba}{all rest:List aB}{o:aB}{fo:aC}{xs:Array aC}{jK:Array ay}{f:aP}{cap:List C}{cu:List D}{σs σ1:List ba}{res:D}(n:Ev X f cu σs res σ1)(ks:List Nat)(h:(o.guard,o.op,er (bH φ fo),nq (xs.toList.map (bH φ)++fu cap),lq ks.length cu,jB ks σ,cx σs,cx σ1,dF ks,bn ks.length σ1.length,fD N o.dst)=(af,.call {callee:=.value fo,args:=xs,argTypes:=jK},aa (f,cap),gp ks cu,ab,aa σs,ab,ab,ab,ab,ab))(k:AK X N Qf (.ops all rest::K) .normal (kV o.dst (ij (ks++kW σ.length (σ1.length-ks.length)) res) φ) (dL ks σ1 σ)):AK X N Qf (.ops all (o::rest)::K) .normal φ σ:=by simp only[kO]at h;obtain⟨a,b,c,d,e,f,g,i,j,l,m⟩:=h;exact AK.Oc n ks a b c d e f g i j l m k
def AK.cP{P:aK}{ι:Type}{X:Cx P}{N:Nat}{Qf:Post}{K:List It}{φ:Fr}{σ:List ba}{all rest:List aB}{o:aB}{fo:aC}{xs:Array aC}{jK:Array ay}{f:aP}{cap:List C}{cu:List D}{σs:List ba}{σ1:ι->List ba}{res:ι->D}(i:dK X f cu σs res σ1)(ks:List Nat)(h:(o.guard,o.op,er (bH φ fo),nq (xs.toList.map (bH φ)++fu cap),lq ks.length cu,jB ks σ,cx σs,dF ks,fD N o.dst)=(af,.call {callee:=.value fo,args:=xs,argTypes:=jK},aa (f,cap),gp ks cu,ab,aa σs,ab,ab,ab))(q:∀j,(cx (σ1 j),bn ks.length (σ1 j).length)=(ab,ab))(k:∀j,AK X N Qf (.ops all rest::K) .normal (kV o.dst (ij (ks++kW σ.length ((σ1 j).length-ks.length)) (res j)) φ) (dL ks (σ1 j) σ)):AK X N Qf (.ops all (o::rest)::K) .normal φ σ:=by simp only[kO]at h q;obtain⟨a,b,c,d,e,f,g,j,m⟩:=h;exact AK.yo i ks a b c d e f g (λj=>(q j).1) j (λj=>(q j).2) m k
def uj:List D->List D->Option (List Prop)
 |[],[]=>aa []
 |a::al,b::bs=>match BC a b with
  |some p=>match uj al bs with
   |some q=>aa (jC p q)
   |none=>af
  |none=>af
 |_,_=>af
def tG{σ:List ba}{s:St}:∀{vs:List aj}{xs ys:List D}{ps:List Prop},uj xs ys=aa ps->au ps->cd σ s vs xs->cd σ s vs ys
 |[],[],[],_,_,_,_=>trivial
 |_::_,[],_,_,_,_,h=>h.elim
 |[],_::_,_,_,_,_,h=>h.elim
 |[],[],_::_,_,h,_,_=>by simp[uj]at h
 |_::_,_::_,[],_,h,_,_=>by simp[uj]at h
 |v::vs,a::al,b::bs,ps,h,c,f=>by
  simp only[uj]at h;cases e:BC a b with
  |none=>grind
  |some p =>
   cases d:uj al bs with
   |none=>grind
   |some q =>
    simp[e,d]at h;subst h;rw[au.cat]at c;exact⟨pO e c.1 f.1,tG d c.2 f.2⟩
def AK.mP{X:Cx P}{f:aP}(b:dK X f cu σs res σ1)(ks:List Nat)(l:o.guard=af)(n:o.op=.call {callee:=.value fo,args:=xs,argTypes:=jK})(p:er (bH φ fo)=aa (f,cap))(a:uj (xs.toList.map (bH φ)++fu cap) (gp ks cu)=aa ps)(i:au ps)(g:lq ks.length cu=ab)(d:jB ks σ=aa σs)(r:cx σs=ab)(e:∀j,cx (σ1 j)=ab)(m:dF ks=ab)(c:∀j,bn ks.length (σ1 j).length=ab)(q:fD N o.dst=ab)(k:∀j,AK X N Qf (.ops all rest::K) .normal (kV o.dst (ij (ks++kW σ.length ((σ1 j).length-ks.length)) (res j)) φ) (dL ks (σ1 j) σ)):AK X N Qf (.ops all (o::rest)::K) .normal φ σ :=
 iO.zR (λ_ _ _ _=>dC l) n p ks b (λs vs h=>tG a i h) g d r e m (λj=>dy (c j)) o.dst rfl (iw q) k
def Ht{a:Act}{d:Nat}(h:d<a.tmps.size):(a.put (aa d) v).tmps.getD d ah=v:=by simp[Act.put,dx,tY h]
def ee.of_eq{es es':Array Event}(h:es=es')(k:ee s es'):ee s es:=by grind
def oU{m:Sem aj}{n:Sem Next}(h:ee s (m.events P s.w #[]))(e:n=(do pure (.value (<-m)))):ee s (n.events P s.w #[]):=by grind[dX]
def kU{f:aP}{fn:Func}{e:Array aj->Sem aj}(g:P.funcs[f]?=aa fn)(a:(fn.name== "runtime.NumGoroutine")=ae)(h:fn.body.isNone=ab)(b:Extern.findNext fn=af)(c:Extern.find fn=aa e)(args:Array aj)(d:cN P (e args))(w:aA)(es:Array Event):
  (callFunc f args).events P w es=es.push ⟨.mark (.extern f),ae,ab⟩:=by
 have j:fn.name≠ "runtime.NumGoroutine":=by grind
 have i:fn.body=af:=by simpa using h
 simp[callFunc,g,j,i,b,c];rw[d w]
section
variable {X:Cx P}
def jk(P:aK)(N:Nat)(o:aB)(φ:Fr)(σ:List ba)(x:ι->D)(σ':ι->List ba):Prop :=
 ∀s a,cf N σ s φ a->aD σ s->∃i b s' v,(aq a.eval o).run P s.w=.ok b s'.w/\(b=.value v∨(b=.skip/\v=ah))/\dc (σ' i) s' v (x i)/\aD (σ' i) s'/\Step σ s (σ' i) s'/\ee s ((aq a.eval o).events P s.w #[])
def AK.hand(x:ι->D)(σ':ι->List ba)(r:o.guard=af)(w:fD N o.dst=ab)(h:jk P N o φ σ x σ')(k:∀i,AK X N Qf (.ops all rest::K) .normal (kV o.dst (x i) φ) (σ' i)):AK X N Qf (.ops all (o::rest)::K) .normal φ σ:=by
 intro s a f hh b kk cs S idx hb kX hQ;cases idx with
 |nil=>exact kX.elim
 |cons j idx =>
 refine yF hb kX.1 (dC r) λz d=>?_;have c:=hh.rely d;have e:=f.rely d hh;obtain⟨i,y,s',v,h1,h2,u,n,m,B⟩:=h z a e c;have l:=m.nT c;refine⟨y,s',v,h1,h2,⟨⟨σ,σ' i,c,n,m⟩,B⟩,?_⟩;refine k i s' _ ?_ n b kk cs S idx hb kX.2 λg σ2 s2 a2 q p h2 st=>hQ g σ2 s2 a2 q p h2 ((d.stepW.trans l).trans st);cases A:o.dst with
 |none=>exact e.mono l c.len
 |some t=>exact(e.mono l c.len).put (iw w t A) u
def AK.law{x:D}(h:bx P o (bH φ) σ x σ')(b:o.guard=af)(a:fD N o.dst=ab)(k:AK X N Qf (.ops all rest::K) .normal (kV o.dst x φ) σ'):AK X N Qf (.ops all (o::rest)::K) .normal φ σ :=
 AK.one (.l0 (λ_ _ _ _=>dC b) h) a k
def Ag(all:List aB)(φ:Fr)(o:aB):Bool:=match o.guard with
 |none=>ab
 |some (j,b)=>match yA φ all j with
  |some (aa ab)=>b
  |some (aa ae)=>!b
  |_=>ae
def Hu(h:Ag all φ o=ab):∀σ s a,cf N σ s φ a->aX o (yielded all.toArray a.tmps)=ab:=by
 intro σ s a f;unfold Ag at h;split at h
 .grind [dC]
 .rename_i j b d;split at h
  .rename_i c;simp only[aX,d,oQ c f,h];rfl
  .rename_i c;simp only[aX,d,oQ c f];grind
  grind
end
section
variable {X:Cx P}
def AK.HE{φ':Fr}(k:AK X N Qf (.code c::K) .normal φ' σ'){qs:List Prop}(h1:pn φ φ'=aa ps)(b:au ps)(h2:rL σ σ'=aa qs)(a:au qs):AK X N Qf (.code c::K) .normal φ σ :=
 AK.norm σ' h2 a (AW.le k (cG h1 b))
def sE:List It->List It
 |.blk _::K=>sE K
 |K=>K
def AK.sE:∀{K:List It},AK X N Qf (sE K) .normal φ σ->AK X N Qf K .normal φ σ
 |[],h=>h
 |.blk _::K,h=>AK.sE (K:=K) h
 |.code _::_,h=>h
 |.ops _ _::_,h=>h
def AK.jW{S S2:Type}{c2:Code}(id:Nat){f i:List It}(h2:jV id K=aa f)(l:Go.AM.sE f=.code c2::i)(O:S2->Prop)(kC:S2->Fr)(a:S2->List ba)(n:Nat)(I:S->Prop)(fr:S->Fr)(st:S->List ba)(h:S->Nat)(x:S){qs:List Prop}(d:pn φ (fr x)=aa ps)(g:au ps)(e:rL σ (st x)=aa qs)(b:au qs)(k:σ.length=n)(j:I x)(round:(∀(y:S2) {φ:Fr} {σ:List ba} {ps qs:List Prop},O y->pn φ (kC y)=aa ps->au ps->rL σ (a y)=aa qs->au qs->AK X N Qf f .normal φ σ) ->
   ∀x,I x->AK X N (k9 X N Qf K I fr st h n x) [.code c] .normal (fr x) (st x))(after:∀y,O y->AK X N Qf (.code c2::i) .normal (kC y) (a y)):AK X N Qf (.code (.loop c)::K) .normal φ σ :=
 AK.bS n I fr st h x d g e b k j (round λy _ _ _ _ m h1 g h2 b=>AK.sE (by rw[l];exact(after y m).HE h1 g h2 b))
end
section
variable {X:Cx P}
def Yields(X:Cx P)(d:Nat)(ds:List D)(σ:List ba)(res:Bool)(σ':ι->List ba):Prop :=
 ∀s (vs:List aj) (l:Nat),cd σ s vs ds->aD σ s->(∃L,s.β[d]?=aa L/\L.v=.func (.yield l) #[] #[]) ->
  ∃fn tmps assign body,(Instr.yield l vs.toArray).run P s.w=.ok (.round l fn tmps assign body) s.w/\(Instr.yield l vs.toArray).events P s.w #[]=#[⟨.obj l,ae,ae⟩] /\
  ∀(S:ak->St->Prop) (c:Frame) (cs:List Frame),(∀i s',aD (σ' i) s'->cJ σ s (σ' i) s'->e9 X S (G (c.finish (.bool res)) cs) s') ->
   e9 X S (G (Frame.round l fn tmps assign body .normal) (c::cs)) s
def lD{r:Loop}(h:w.heap[l]?=aa (.loop r)):(Instr.getLoop l).run P w=.ok r w/\∀es,(Instr.getLoop l).events P w es=es.push ⟨.obj l,ae,ae⟩:=by
 have c:(getObj l).run P w=.ok (.loop r) w:=by simp only[getObj,Sem.run,h]
 have d:∀es,(getObj l).events P w es=es.push ⟨.obj l,ae,ae⟩:=λes=>by simp only[getObj,Sem.events,Sem.runT,h];rfl
 constructor
 .simp[Instr.getLoop,c]
 .intro es;simp[Instr.getLoop,c,d]
def n8{r r':Loop}(h:w.heap[l]?=aa (.loop r)):(setObj l (.loop r')).run P w=.ok () {w with heap:=w.heap.setIfInBounds l (.loop r')}/\∀es,(setObj l (.loop r')).events P w es=es.push ⟨.obj l,ab,ae⟩:=by
 constructor
 .simp only[setObj,Sem.run,h]
 .intro es;simp only[setObj,Sem.events,Sem.runT,h];rfl
def E4{r:Loop}{args:Array aj}(h:w.heap[l]?=aa (.loop r))(d:args.size=r.params.size):
  (Instr.yield l args).run P w=.ok (.round l r.fn ((r.params.zip args).foldl (λtmps (t,a)=>tmps.setIfInBounds t a) r.tmps) r.assign r.body) w/\(Instr.yield l args).events P w #[]=#[⟨.obj l,ae,ae⟩]:=by
 obtain⟨c,e⟩:=lD (P:=P) h;constructor
 .simp[Instr.yield,c,d]
 .simp[Instr.yield,c,e,d]
def E5{r:Loop}(h:w.heap[l]?=aa (.loop r))(c:r.state=.ready):
  (Instr.beginRound l).run P w=.ok () {w with heap:=w.heap.setIfInBounds l (.loop {r with state:=.busy})}/\(Instr.beginRound l).events P w #[]=#[⟨.obj l,ae,ae⟩,⟨.obj l,ab,ae⟩]:=by
 obtain⟨e,g⟩:=lD (P:=P) h;obtain⟨d,f⟩:=n8 (P:=P) (r':={r with state:=.busy}) h;constructor
 .simp[Instr.beginRound,e,d,c]
 .simp[Instr.beginRound,e,g,d,f,c]
def yG{r:Loop}(h:w.heap[l]?=aa (.loop r))(j:Option Code):
  (Instr.endRound l j).run P w=.ok (.bool j.isNone) {w with heap:=w.heap.setIfInBounds l (.loop {r with state:=if j.isNone then .ready else .done,pending:=j})}/\(Instr.endRound l j).events P w #[]=#[⟨.obj l,ae,ae⟩,⟨.obj l,ab,ae⟩]:=by
 obtain⟨c,e⟩:=lD (P:=P) h;obtain⟨d,f⟩:=n8 (P:=P) (r':={r with state:=if j.isNone then .ready else .done,pending:=j}) h;constructor
 .simp only[Instr.endRound,bL,c,d,b6,cK]
 .simp only[Instr.endRound,aJ,c,e,d,f,aO,Sem.events_pure];rfl
def Ah{r:Loop}(h:w.heap[l]?=aa (.loop r))(c:r.state≠.busy):
  (Instr.endLoop l).run P w=.ok r.pending {w with heap:=w.heap.setIfInBounds l (.loop {r with state:=.exhausted})}/\(Instr.endLoop l).events P w #[]=#[⟨.obj l,ae,ae⟩,⟨.obj l,ab,ae⟩]:=by
 obtain⟨d,g⟩:=lD (P:=P) h;obtain⟨f,e⟩:=n8 (P:=P) (r':={r with state:=.exhausted}) h;have j:(r.state==.busy)=ae:=by cases i:r.state<;>simp_all
 constructor
 .simp[Instr.endLoop,d,f,c]
 .simp[Instr.endLoop,d,g,e,c]
section steps
variable {b:Frame}{a:Act}{k:List Item}{main:Bool}
def Ai(c:o.op=.call {callee:=.value fo,args:=xs,argTypes:=jK})(d:a.eval fo=.func (.yield l) #[] #[]):
  (aq a.eval o).run P w=(Instr.yield l (xs.toList.map a.eval).toArray).run P w/\(aq a.eval o).events P w #[]=(Instr.yield l (xs.toList.map a.eval).toArray).events P w #[]:=by
 have e:xs.map a.eval=(xs.toList.map a.eval).toArray:=by grind
 constructor
 .simp[aq,c,resolve,d,Deferred.ofValue,invoke,e]
 .simp[aq,c,resolve,d,Deferred.ofValue,invoke,e]
def Hv{rest:List Nat}{fn:aP}{tmps:Array aj}{assign body:Code}(f:ops[i]?=aa o)(g:aX o (yielded ops a.tmps)=ab)(j:b.kind≠.early)(e:(aq a.eval o).run P w=.ok (.round l fn tmps assign body) w'):
  aG P main (G (b.aT a (.inRegion ops (i::rest)::k)) cs) w=.go (G (Frame.round l fn tmps assign body .normal) (b.aT a (.inRegion ops (i::rest)::k)::cs)) w' (Go.Conc.listed P b.fn a o w):=by
 have d:(b.kind==CallKind.early)=ae:=by grind
 rw[tD f g (λc h=>by grind[qy])];simp[stepG.apply,e,G,Frame.aT,d,GStep.after,Go.Conc.listed]
def Hw{r:Loop}(e:b.roundOf=aa l)(i:b.kind≠.early)(h:w.heap[l]?=aa (.loop r))(d:r.state=.ready):
  aG P main (G (b.aT a (.beginRound::k)) cs) w=.go (G (b.aT a k) cs) {w with heap:=w.heap.setIfInBounds l (.loop {r with state:=.busy})} (seen P b.fn #[⟨.obj l,ae,ae⟩,⟨.obj l,ab,ae⟩]):=by
 obtain⟨g,f⟩:=E5 (P:=P) h d;have c:(b.kind==CallKind.early)=ae:=by grind
 simp[G,aG,stepG.exec,stepG.apply,Frame.aT,e,c,g,f,GStep.after,Frame.finish]
def Aj{r:Loop}{j:Option Code}{e:List Item}{c:Frame}(g:b.roundOf=aa l)(f:b.kind=.normal)(h:w.heap[l]?=aa (.loop r))(m:(j=af/\e=[])∨(j=aa .ret/\∃k1,e=.code .ret::k1)∨(∃id k1,j=aa (.exit id)/\e=.code (.exit id)::k1/\exitTo id k1=af)):
  aG P main (G (b.aT a e) (c::cs)) w=.go (G (c.finish (.bool j.isNone)) cs) {w with heap:=w.heap.setIfInBounds l (.loop {r with state:=if j.isNone then .ready else .done,pending:=j})} (seen P b.fn #[⟨.obj l,ae,ae⟩,⟨.obj l,ab,ae⟩]):=by
 obtain⟨d,i⟩:=yG (P:=P) h j;rcases m with⟨rfl,rfl⟩|⟨rfl,k1,rfl⟩|⟨id,k1,rfl,rfl,n⟩
 .simp only[Option.isNone_none,bZ]at d;simp[G,aG,stepG.exec,Frame.aT,g,d,i,GStep.after,doReturn,f]
 .simp only[Option.isNone_some,bJ,gb]at d;simp[G,aG,stepG.exec,Frame.aT,g,d,i,GStep.after,doReturn,f]
 .simp only[Option.isNone_some,bJ,gb]at d;simp[G,aG,stepG.exec,Frame.aT,g,d,i,GStep.after,doReturn,f,n]
def Ca{r:Loop}(h:w.heap[l]?=aa (.loop r))(e:r.state≠.busy):
  aG P main (G (b.aT a (.endRangeFunc l::k)) cs) w=.go (G (b.aT a ((r.pending.map Item.code).toList++k)) cs) {w with heap:=w.heap.setIfInBounds l (.loop {r with state:=.exhausted})} (seen P b.fn #[⟨.obj l,ae,ae⟩,⟨.obj l,ab,ae⟩]):=by obtain⟨d,c⟩:=Ah (P:=P) h e;simp[G,aG,stepG.exec,Frame.aT,d,c,GStep.after]
def wB{fn:aP}{tmps:Array aj}{params:Array Tmp}{assign body:Code}:
  (Instr.enterLoop fn tmps params assign body af).run P w=.ok (w.heap.size+1,[{target:=.collected w.heap.size,args:=#[]}]) {w with heap:=(w.heap.push (.deferred (aa []))).push (.loop {state:=.ready,pending:=af,fn,tmps,params,assign,body,defers:=w.heap.size})} /\
  (Instr.enterLoop fn tmps params assign body af).events P w #[]=#[]:=by
 have c:∀(o:Obj) (w:aA),(newObj o).run P w=.ok w.heap.size {w with heap:=w.heap.push o}:=λo w=>by simp only[newObj,Sem.run]
 have d:∀(o:Obj) (w:aA) es,(newObj o).events P w es=es:=λo w es=>by simp only[newObj,Sem.events,Sem.runT]
 constructor
 .simp[Instr.enterLoop,c];rfl
 .simp[Instr.enterLoop,c,d]
def yH{f:aC}{ps:Array Tmp}{assign body:Code}{F:aP}{fn:Func}{c:List aj}(q:b.roundOf=af)(s:b.kind≠.early)(i:P.funcs[F]?=aa fn)(n:(fn.name== "runtime.NumGoroutine")=ae)(j:fn.body.isNone=ae)(o:a.eval f=.func (.func F) #[] c.toArray):
  aG P main (G (b.aT a (.code (.rangeFunc f ps assign body)::k)) cs) w =
   .go (G (Frame.enter P F (Value.func (.yield (w.heap.size+1)) #[] #[]::c).toArray .normal) (b.aT {a with defers:={target:=.collected w.heap.size,args:=#[]}::a.defers} (.inRangeFunc (w.heap.size+1)::k)::cs))
    {w with heap:=(w.heap.push (.deferred (aa []))).push (.loop {state:=.ready,pending:=af,fn:=b.fn,tmps:=a.tmps,params:=ps,assign,body,defers:=w.heap.size})} #[]:=by
 obtain⟨p,r⟩:=wB (P:=P) (w:=w) (fn:=b.fn) (tmps:=a.tmps) (params:=ps) (assign:=assign) (body:=body);have h:(b.kind==CallKind.early)=ae:=by grind
 have g:fn.name≠ "runtime.NumGoroutine":=by grind
 have e:fn.body≠af:=by grind
 have l:∀(d:List Deferred) (t:List Item) (m:FrameMode),({fn:=b.fn,tmps:=a.tmps,todo:=t,defers:=d,mode:=m,kind:=b.kind,roundOf:=b.roundOf}:Frame).eval f=.func (.func F) #[] c.toArray:=by intro d t m;rw[<-o];cases f<;>rfl
 simp only[G,aG,stepG.exec,Frame.aT,q]at l⊢;simp[p,r,GStep.after,stepG.apply,resolve,l,Deferred.ofValue,invoke,callFunc,i,g,e,h,seen];rfl
end steps
end
section
variable {X:Cx P}
def aD.yI(hh:aD σ s){b:Nat}{a:Fr}{r:Loop}(c:σ[b]?=aa (.loop N a r))(hl:∃L,s.β[b]?=aa L/\L.v=.func (.yield l) #[] #[]):
  ∃tmps fn df,s.β[b]?=aa ⟨.func (.yield l) #[] #[],[l]⟩/\s.w.heap[l]?=aa (.loop {r with tmps:=tmps,fn:=fn,defers:=df})/\tmps.size=N/\(∀t,dc σ s (tmps.getD t ah) (look a t))/\(∀o,s.M l o=af):=by obtain⟨L,h1,h2⟩:=hl;obtain⟨l',tmps,fn,df,f,e,d,h,g⟩:=hh.box b _ L c h1;grind
def aD.yJ(hh:aD σ s){c:Nat}{a:Fr}{r r':Loop}{B':ba}(k:σ[c]?=aa (.loop N a r)){tmps:Array aj}{fn df:Nat}(n:s.β[c]?=aa ⟨.func (.yield l) #[] #[],[l]⟩)(D:s.w.heap[l]?=aa (.loop {r with tmps:=tmps,fn:=fn,defers:=df}))(x:tmps.size=N)(g:∀t,dc σ s (tmps.getD t ah) (look a t))(q:∀o,s.M l o=af)(d:B'=.dead∨B'=.loop N a r'):
  aD (σ.set c B') {s with w:={s.w with heap:=s.w.heap.setIfInBounds l (.loop {r' with tmps:=tmps,fn:=fn,defers:=df})}}/\Step σ s (σ.set c B') {s with w:={s.w with heap:=s.w.heap.setIfInBounds l (.loop {r' with tmps:=tmps,fn:=fn,defers:=df})}}:=by
 have A:l<s.w.heap.size:=hh.lt _ (bD n) l (by simp);have y:∀b,b≠l->(s.w.heap.setIfInBounds l (.loop {r' with tmps:=tmps,fn:=fn,defers:=df}))[b]?=s.w.heap[b]?:=λb hb=>by grind
 have C:s.β.set c ⟨.func (.yield l) #[] #[],[l]⟩=s.β:=by apply gR;grind
 have m:c<σ.length:=(b8.1 k).1;have j:hX (.loop N a r) ⟨.func (.yield l) #[] #[],[l]⟩ B' ⟨.func (.yield l) #[] #[],[l]⟩:=by rcases d with rfl|rfl<;>rfl
 have ex:Ext σ s (σ.set c B') {s with w:={s.w with heap:=s.w.heap.setIfInBounds l (.loop {r' with tmps:=tmps,fn:=fn,defers:=df})}}:=by
  refine⟨λ_ _ _ h=>h,λi B L u f=>?_⟩;by_cases e:c=i
  .grind
  .exact⟨B,L,by grind,f,.refl _ _⟩
 have:=hh.gV (M':=s.M) (w':={s.w with heap:=s.w.heap.setIfInBounds l (.loop {r' with tmps:=tmps,fn:=fn,defers:=df})}) (B':=B') (L':=⟨.func (.yield l) #[] #[],[l]⟩) k n j (by simp) (λb _ hb=>y b (by grind)) (λ_ _ _ _=>rfl) (λ_ _ _ h=>h)
  (λb o v z=>by
   have p:b≠l:=by grind
   rw[<-hh.mem b o v z];simp only[aU]
   grind) (λb hb=>by grind) rfl rfl rfl (by
   rcases d with rfl|rfl
   .trivial
   .refine⟨l,tmps,fn,df,rfl,?_,x,λt=>?_,q⟩
    .grind
    .have:=(g t).mono ex hh.len
     grind)
 grind
def AK.yield{σ':ι->List ba}{h:Nat}{ds:List D}{res:Bool}(T:Yields X h ds σ res σ')(H:o.guard=af)(M:fD N o.dst=ab)(I:o.op=.call {callee:=.value fo,args:=xs,argTypes:=jK}){G:Nat}{v:Fr}{r:Loop}(A:σ[h]?=aa (.loop G v r))(Y:bH φ fo=.e (.one (.ref h)))(p:xs.toList.map (bH φ)=ds)(k:∀j,AK X N Qf (.ops all rest::K) .normal (kV o.dst (.e (.one (.c (.bool res)))) φ) (σ' j)):AK X N Qf (.ops all (o::rest)::K) .normal φ σ:=by
 intro s a f hh b kk cs S idx hb kX hQ;cases idx with
 |nil=>exact kX.elim
 |cons j idx =>
 refine .next rfl λi C=>?_;have y:=X.hZ C;have d:=hh.rely y;have m:=f.rely y hh;have E:=dJ m fo;rw[Y]at E;obtain⟨_,L,x,B,_⟩:=(show fU _ i _ (.ref h)from E)
 obtain⟨l,tmps,fn,df,U,h4,h5,h6,h7⟩:=d.box h _ L A x;subst U;have n:cd σ i (xs.toList.map a.eval) ds:=by grind[oM,dJ]
 obtain⟨V,u,assign,body,y1,Q,Z⟩:=T i (xs.toList.map a.eval) l n d ⟨_,x,rfl⟩;obtain⟨J,R⟩:=Ai (P:=P) (w:=i.w) (a:=a) I B;refine⟨_,i,_,Hv kX.1 (dC H) hb (J.trans y1),⟨⟨σ,σ,d,d,.refl _ _⟩,ee.seen ?_⟩,Z S _ _ λF s' iQ st=>?_⟩
 .rw[R,Q];exact .one (gq (L:=⟨.func (.yield l) #[] #[],[l]⟩) (bD x) (by simp))
 have g:=kI (b:=b) (a:=a) (k:=kk) all.toArray j idx (.bool res);rw[kX.1]at g;simp only[nK]at g;rw[g];refine k F s' _ ?_ iQ b kk cs S idx hb kX.2 λz σ2 s2 a2 q O h2 nU=>hQ z σ2 s2 a2 q O h2 ((y.stepW.trans st).trans nU);cases W:o.dst with
 |none=>exact m.mono st d.len
 |some t=>exact(m.mono st d.len).put (iw M t W) (show dc (σ' F) s' (.bool res) (.e (.one (.c (.bool res))))from Rd.bool)
def pW:List Tmp->List D->Fr->Fr
 |t::ts,d::ds,φ=>pW ts ds ((t,d)::φ)
 |_,_,φ=>φ
def Ll(N:Nat):List Tmp->Bool
 |[]=>ab
 |t::ts=>match bn (t+1) N with|true=>Ll N ts|false=>ae
def DR{N:Nat}{σ:List ba}{s:St}:∀{ps:List Tmp}{ds:List D}{vs:List aj}{φ:Fr}{a:Act},cf N σ s φ a->cd σ s vs ds->Ll N ps=ab->cf N σ s (pW ps ds φ) {a with tmps:=(ps.zip vs).foldl (λtmps (t,v)=>tmps.setIfInBounds t v) a.tmps}
 |[],ds,vs,φ,a,h,_,_=>by simpa[pW]using h
 |_::_,[],[],φ,a,h,_,_=>by simpa[pW]using h
 |_::_,[],_::_,φ,a,h,b,_=>b.elim
 |_::_,_::_,[],φ,a,h,b,_=>b.elim
 |t::ts,d::ds,v::vs,φ,a,h,b,c=>by
  simp only[Ll]at c;split at c
  .rename_i e;have:=DR (h.put (d:=t) (dy e) b.1) b.2 c;simpa[pW,Act.put]using this
  grind
def OK:Exit->Option (Option Code)
 |.normal=>aa af
 |.ret=>aa (aa .ret)
 |.exit id=>aa (aa (.exit id))
 |_=>af
def Yields.intro{ι:Type}{g N:Nat}{f:Fr}{r:Loop}{ds:List D}{σ:List ba}{σ':ι->List ba}{j:Option Code}(u:σ[g]?=aa (.loop N f r))(R:r.state=.ready)(hlen:ds.length=r.params.size)(W:Ll N r.params.toList=ab)(h:AW X N r.assign (λe I σ1=>e=.normal/\σ1[g]?=aa (.loop N f r)/\AW X N r.body (λe φ2 σ2=>OK e=aa j/\σ2[g]?=aa (.loop N f {r with state:=.busy}) /\
   ∃i,E6 (σ2.set g (.loop N f {r with state:=if j.isNone then .ready else .done,pending:=j})) (σ' i)) I (σ1.set g (.loop N f {r with state:=.busy}))) (pW r.params.toList ds f) σ):Yields X g ds σ j.isNone σ':=by
 intro s vs l M5 hh hl;obtain⟨tmps,fn,df,h1,h2,h3,h4,h5⟩:=hh.yI u hl;have M3:vs.length=r.params.size:=by grind[cd.get]
 obtain⟨y1,y2⟩:=E4 (P:=P) (args:=vs.toArray) h2 (by grind);refine⟨_,_,_,_,y1,y2,λS c cs hS=>?_⟩;let b:Frame:={fn:=fn,tmps:=#[],todo:=[],defers:=[],mode:=.run,kind:=.normal,roundOf:=aa l}
 have hb:b.kind≠.early:=by simp[b]
 have hf:cf N σ s (pW r.params.toList ds f) {tmps:=(r.params.zip vs.toArray).foldl (λtmps (t,a)=>tmps.setIfInBounds t a) tmps,defers:=[]}:=by
  have:=DR (a:={tmps:=tmps,defers:=[]}) (φ:=f) ⟨h3,⟨[],ar⟩,h4⟩ M5 W;have e:(r.params.zip vs.toArray).foldl (λtmps (x:Tmp×aj)=>tmps.setIfInBounds x.1 x.2) tmps=(r.params.toList.zip vs).foldl (λtmps (x:Tmp×aj)=>tmps.setIfInBounds x.1 x.2) tmps:=by rw[<-Array.foldl_toList];simp
  grind
 show e9 X S (G (b.aT {tmps:=(r.params.zip vs.toArray).foldl (λtmps (t,a)=>tmps.setIfInBounds t a) tmps,defers:=[]} [.code r.assign,.beginRound,.code r.body]) (c::cs)) s;refine h s _ hf hh b [.beginRound,.code r.body] (c::cs) S hb ?_;rintro e I σ1 s1 a1 ⟨rfl,p,q⟩ f1 E A;refine .next rfl λs2 rm=>?_;have M:=X.hZ rm;have m:=E.rely M;have f2:=f1.rely M E;have T:∃L,s2.β[g]?=aa L/\L.v=.func (.yield l) #[] #[]:=by obtain⟨B',L',k1,k2,k3⟩:=(A.trans M.stepW).box g _ _ u h1;rw[p]at k1;cases k1;exact⟨L',k2,k3⟩
 obtain⟨Y,fn2,TV,g1,g2,g3,g4,g5⟩:=m.yI p T;have K:=m.yJ (r':={r with state:=.busy}) p g1 g2 g3 g4 g5 (.inr rfl);have z:∀{s:St} {σ:List ba} {L:Loc},s.β[g]?=aa L->L.bs=[l]->ee s #[⟨.obj l,ae,ae⟩,⟨.obj l,ab,ae⟩]:=λ{s σ L} hL hb =>
  .two (gq (bD hL) (by grind)) (gq (bD hL) (by grind))
 refine⟨_,_,_,Hw (l:=l) rfl hb g2 R,⟨⟨_,_,m,K.1,K.2⟩,ee.seen (z (σ:=σ1) g1 rfl)⟩,?_⟩;have C:=K.2.nT m;have V:=K.1;refine q _ a1 (f2.mono C m.len) V b [] (c::cs) S hb ?_;rintro e φ3 O s3 a3 ⟨hj,o,ii,H⟩ f3 y U;have stA:=((A.trans M.stepW).trans C).trans U;have fin:∀F k,b5 s3 k->((j=af/\F=[])∨(j=aa .ret/\∃k1,F=.code .ret::k1)∨(∃id k1,j=aa (.exit id)/\F=.code (.exit id)::k1/\exitTo id k1=af)) ->
   ∃g' s' es,aG P X.main (G (b.aT a3 F) (c::cs)) k.w=.go g' s'.w es/\pJ k s' es/\e9 X S g' s':=by
  intro F k d Z;have n:=y.rely d;have B:∃L,k.β[g]?=aa L/\L.v=.func (.yield l) #[] #[]:=by obtain⟨B',L',k1,k2,k3⟩:=(stA.trans d.stepW).box g _ _ u h1;rw[o]at k1;cases k1;exact⟨L',k2,k3⟩
  obtain⟨Q,fn5,df5,p1,p2,p3,p4,p5⟩:=n.yI o B;have J:=n.yJ (r':={r with state:=if j.isNone then .ready else .done,pending:=j}) o p1 p2 p3 p4 p5 (.inr rfl);obtain⟨p7,p8,_⟩:=H _ J.1;exact⟨_,_,_,Aj (l:=l) rfl rfl p2 Z,⟨⟨_,_,n,J.1,J.2⟩,ee.seen (z (σ:=O) p1 rfl)⟩,hS ii _ p7 (((stA.trans d.stepW).trans (J.2.nT n)).trans (p8.nT J.1))⟩
 cases e with
 |normal =>
  cases hj;exact .next rfl λk d=>fin [] k (X.hZ d) (.inl ⟨rfl,rfl⟩)
 |ret =>
  cases hj;intro pre;exact .next rfl λk d=>fin _ k (X.hZ d) (.inr (.inl ⟨rfl,pre,rfl⟩))
 |exit id =>
  cases hj;intro pre hp;refine .next rfl λk d=>fin _ k (X.hZ d) (.inr (.inr ⟨id,_,rfl,rfl,?_⟩));have:=hp [];simpa[exitTo]using this
 |_=>cases hj
end
def mT(X:Cx P)(N:Nat)(c:Code)(Q:Post)(φ:Fr)(σ:List ba):Prop :=
 ∀s a,cf N σ s φ a->aD σ s->∀(b:Frame) (k:List Item) (cs:List Frame) (S:ak->St->Prop),b.kind≠.early->b.roundOf=af ->
  (∀e φ' σ' s' a',Q e φ' σ'->cf N σ' s' φ' a'->aD σ' s'->cJ σ s σ' s'->ends X S b k cs e a' s')->e9 X S (G (b.aT a (.code c::k)) cs) s
section
variable {X:Cx P}{Q:Post}
def AW.top(h:AW X N c Q φ σ):mT X N c Q φ σ:=λs a f hh b k cs S hb _ d=>h s a f hh b k cs S hb d
theorem mT.seq{x y:Code}(h:mT X N x (DS (mT X N y Q) Q) φ σ):mT X N (.seq x y) Q φ σ:=by
 intro s a i hh b k cs S hb Kp hQ;refine .ctl hh rfl (λ_=>mK) λj h1=>?_;refine h j a (i.rely h1 hh) (hh.rely h1) b (.code y::k) cs S hb Kp ?_;intro e φ' σ' s' a' q f g st;have c:=h1.stepW.trans st;cases e with
 |normal=>exact q s' a' f g b k cs S hb Kp λe d σ2 s2 a2 q2 f2 h2 nU=>hQ e d σ2 s2 a2 q2 f2 h2 (c.trans nU)
 |_=>exact ends.cons (λ_ _=>rfl) (by simp) (hQ _ _ _ _ _ q f g c)
theorem mT.block{id:Nat}(h:mT X N c (yK id Q) φ σ):mT X N (.block id c) Q φ σ:=by
 intro s a j hh b k cs S hb Kp hQ;refine .ctl hh rfl (λ_=>qx) λm h1=>?_;refine h m a (j.rely h1 hh) (hh.rely h1) b (.inBlock id::k) cs S hb Kp ?_;intro e φ' σ' s' a' q g f st;have d:=h1.stepW.trans st;cases e with
 |normal =>
  exact .ctl f rfl (λ_=>pL) λs2 h2=>hQ .normal φ' σ' s2 a' q (g.rely h2 f) (f.rely h2) (d.trans h2.stepW)
 |exit Gy =>
  simp only[yK]at q;split at q
  .rename_i e;subst e;intro pre hp;refine .ctl f rfl (λ_=>ye (k':=k) (by rw[hp];simp[exitTo])) λs2 h2=>?_;exact hQ .normal φ' σ' s2 a' q (g.rely h2 f) (f.rely h2) (d.trans h2.stepW)
  .rename_i i
   intro pre hp;have:=hQ (.exit Gy) φ' σ' s' a' q g f d (pre++[.inBlock id]) (λk'=>by
    rw[ju,hp];have:(id==Gy)=ae:=by grind
    simp[exitTo,this])
   grind
 |ret=>exact hQ _ _ _ _ _ q g f d
 |panic ch=>exact hQ _ _ _ _ _ q g f d
 |goto l=>exact hQ _ _ _ _ _ q g f d
 |outgrown=>exact hQ _ _ _ _ _ q g f d
def aD.OL(h:aD σ s){o:Nat->Prop}(c:∀b,o b->b<s.w.heap.size/\∀L∈s.β,b∉L.bs):aD σ {s with own:=o} :=
 ⟨h.mem,h.len,λl B L a d=>eG.carry (σ:=σ) (s:=s) (σ':=σ) (s':={s with own:=o}) ⟨λ_ _ _ h=>h,λ_ B L h e=>⟨B,L,h,e,.refl _ _⟩⟩ h.len (λ_ _=>⟨rfl,λ_=>rfl⟩) (h.box l B L a d),h.eH,h.lt,c⟩
def aD.g8(h:aD σ s){r:Nat}{o:Nat->Prop}(f:s.own r)(j:∀b,o b->s.own b)(k:¬o r)(g:∀i,s.M r i=af)(n:s.w.heap[r]?=aa (.deferred (aa []))):
  aD (σ++[.pK]) {s with β:=s.β++[⟨.int .i64 r,[r]⟩],own:=o}/\ey s {s with β:=s.β++[⟨.int .i64 r,[r]⟩],own:=o}:=by
 obtain⟨p,t⟩:=h.own r f;have ex:Ext σ s (σ++[.pK]) {s with β:=s.β++[⟨.int .i64 r,[r]⟩],own:=o}:=by
  refine⟨λ_ _ _ h=>h,λl B L c a=>⟨B,L,?_,?_,.refl _ _⟩⟩
  .grind
  grind
 refine⟨⟨h.mem,by simp[h.len],?_,?_,?_,?_⟩,⟨rfl,λ_ _ _ h=>h,λ_ _ _=>rfl,h.mem,?_⟩⟩
 .intro l B L c a;rcases fy a with d|⟨hl,rfl⟩
  .have hl:l<σ.length:=by rw[<-h.len];grind
   rw[jq hl]at c;exact(h.box l B L c d).carry ex h.len λ_ _=>⟨rfl,λ_=>rfl⟩
  .rw[hl,h.len,fh (aZ _)]at c;simp at c;subst c;exact⟨r,rfl,n,g⟩
 .intro l l' L L' a e b hb oH;rcases fy a with k1|⟨e1,rfl⟩<;>rcases fy e with m|⟨e2,rfl⟩
  .exact h.eH l l' L L' k1 m b hb oH
  .grind
  .grind
  grind
 .intro L a b hb;simp only[eO,gQ]at a;rcases a with a|rfl
  .exact h.lt L a b hb
  grind
 .intro b hb;obtain⟨q,p2⟩:=h.own b (j b hb);grind
 grind
def Hx:Option Code->Option Exit
 |none=>aa .normal
 |some .ret=>aa .ret
 |some (.exit id)=>aa (.exit id)
 |_=>af
def mT.rangeFunc{f:aC}{ps:Array Tmp}{assign body:Code}{F:aP}{capD:List D}{σ':ι->List ba}{r':ι->Loop}(BK:∀s a,cf N σ s φ a->aD σ s->∃n:List aj,a.eval f=.func (.func F) #[] n.toArray/\cd σ s n capD)(Kw:dK X F (.e (.one (.ref σ.length))::capD) (σ++[.loop N φ {state:=.ready,pending:=af,fn:=0,tmps:=#[],params:=ps,assign:=assign,body:=body,defers:=0}]) res σ')(hl:∀i,(σ' i)[σ.length]?=aa (.loop N φ (r' i))/\(r' i).state≠.busy)(k:∀i,∃e,Hx (r' i).pending=aa e/\Q e φ ((σ' i).set σ.length .dead++[.pK])):mT X N (.rangeFunc f ps assign body) Q φ σ:=by
 intro s a fr hh b kk cs S hb Kp hQ;obtain⟨⟨fn,RK,Hy,E⟩,C⟩:=Kw;refine .next rfl λd Vf=>?_;have hr:=X.hZ Vf;have j:=hh.rely hr;have f1:=fr.rely hr hh;obtain⟨n,hv,K⟩:=BK d a f1 j;generalize Ze:d.w.heap.size=r;have q:=λmain=>yH (P:=P) (main:=main) (k:=kk) (cs:=cs) (ps:=ps) (assign:=assign) (body:=body) (b:=b) (w:=d.w) Kp hb RK Hy E hv;rw[Ze]at q;let w1:aA:={d.w with heap:=d.w.heap.push (.deferred (aa []))}
 let lo:Loop:={state:=.ready,pending:=af,fn:=b.fn,tmps:=a.tmps,params:=ps,assign:=assign,body:=body,defers:=r}
 let w2:aA:={d.w with heap:=(d.w.heap.push (.deferred (aa []))).push (.loop lo)}
 have KB:w2.heap.size=r+2:=by grind
 have Zf:w1.heap.size=r+1:=by grind
 have Zg:∀b,b<d.w.heap.size->w1.heap[b]?=d.w.heap[b]?:=λb hb=>by grind
 have W:∀b,b<w1.heap.size->w2.heap[b]?=w1.heap[b]?:=λb hb=>by grind
 have Z:∀b,b<d.w.heap.size->w2.heap[b]?=d.w.heap[b]?:=λb hb=>by grind
 have Vg:w2.heap[r]?=aa (.deferred (aa [])):=by grind
 have U:w2.heap[r+1]?=aa (.loop lo):=by grind
 have nM:∀b,d.w.heap.size<=b->∀o,d.M b o=af:=λb hb o=>by
  cases y:d.M b o with
  |none=>rfl
  |some v=>have:=j.block y;omega
 let L1:Loc:=⟨.func (.yield (r+1)) #[] #[],[r+1]⟩
 let L2:Loc:=⟨.int .i64 r,[r]⟩
 let rr:Loop:={state:=.ready,pending:=af,fn:=0,tmps:=#[],params:=ps,assign:=assign,body:=body,defers:=0}
 obtain⟨g1,g2⟩:=j.grow (M':=d.M) (w':=w2) (by omega) Z (λ_ _ _=>rfl) (λb hb o v y=>by grind) rfl rfl rfl;have z:Ext σ d (σ++[.loop N φ rr]) ⟨d.β++[L1],d.M,w2,d.own⟩:=by
  refine⟨λ_ _ _ h=>h,λl B L hB m=>⟨B,L,?_,?_,.refl _ _⟩⟩
  .grind
  grind
 obtain⟨a1,a2⟩:=g1.gC (B:=.loop N φ rr) (L:=L1) g2 rfl j ⟨r+1,a.tmps,b.fn,r,rfl,U,f1.size,λt=>(f1.slot t).mono z j.len,λo=>nM _ (by omega) o⟩ (λb hb=>by grind)
 have hD:=a1.OL (o:=λb=>d.own b∨b=r) (by
  rintro b (hb|rfl)
  .exact a1.own b hb
  .refine⟨by grind,λL m=>?_⟩;simp only[eO,gQ]at m;rcases m with m|rfl
   .intro T;have:=j.lt L m b T;omega
   grind)
 have d1:=j.kz;obtain⟨e1,e2⟩:=d1.grow (M':=d.M) (w':=w1) (by omega) Zg (λ_ _ _=>rfl) (λb hb o v y=>by grind) rfl rfl rfl;obtain⟨e3,e4⟩:=e1.gC (B:=.dead) (L:=L2) e2 rfl d1 ar (λb hb=>by grind)
 obtain⟨e5,e6⟩:=e3.grow (M':=d.M) (w':=w2) (by grind) W (λ_ _ _=>rfl) (λb hb o v y=>by grind) rfl rfl rfl
 obtain⟨e7,e8⟩:=e5.gC (B:=.dead) (L:=L1) e6 rfl e3 ar (λb hb=>by grind);have TZ:ey ⟨d.β++[L2]++[L1],d.M,w2,d.own⟩ ⟨d.β++[L1],d.M,w2,λb=>d.own b∨b=r⟩:=by
  refine⟨rfl,λ_ _ _ h=>h,λ_ _ _=>rfl,a1.mem,?_⟩;rintro b ((hb|rfl)|⟨L,m,hb⟩)
  .grind
  .exact .inr ⟨L2,by simp,by grind⟩
  grind
 refine⟨_,⟨d.β++[L2]++[L1],d.M,w2,d.own⟩,_,q X.main,⟨⟨_,_,d1,e7,e4.trans e8⟩,.nil⟩,.ghost TZ (C _ (Value.func (.yield (r+1)) #[] #[]::n) ?_ hD S _ λi QH v s4 A l5 R Zh=>?_)⟩
 .refine⟨⟨λB p=>?_,L1,?_,rfl,rfl⟩,?_⟩
  .rw[fh (aZ _)]at p;simp at p;subst p;rfl
  .show (d.β++[L1])[σ.length]?=_;rw[<-j.len,fh (aZ _)];simp
  .exact K.mono (σ:=σ) (s:=d) (σ':=σ++[.loop N φ rr]) (s':=⟨d.β++[L1],d.M,w2,λb=>d.own b∨b=r⟩) ⟨z.mem,z.box⟩ j.len
 have Vh:(b.aT {a with defers:={target:=.collected r,args:=#[]}::a.defers} (.inRangeFunc (r+1)::kk)).finish v=b.aT {a with defers:={target:=.collected r,args:=#[]}::a.defers} (.endRangeFunc (r+1)::kk):=by simp[Frame.finish,Frame.aT]
 refine rD (cs:=cs) (c:=b.aT {a with defers:={target:=.collected r,args:=#[]}::a.defers} (.inRangeFunc (r+1)::kk)) R A λs5 V=>?_;rw[Vh];refine .next rfl λs6 Vi=>?_;have Y:=X.hZ Vi;have x:=(R.rely V).rely Y;have O:=(Zh.trans V.stepW).trans Y.stepW;obtain⟨H,RL⟩:=hl i;have Zi:∃L,s6.β[σ.length]?=aa L/\L.v=.func (.yield (r+1)) #[] #[]:=by
  obtain⟨B',L',k1,k2,k3⟩:=O.box σ.length (.loop N φ rr) L1 (show(σ++[ba.loop N φ rr])[σ.length]?=_ from List.getElem?_concat_length) (by show(d.β++[L1])[σ.length]?=_;rw[<-j.len,fh (aZ _)];simp)
  rw[H]at k1;cases k1;exact⟨L',k2,k3⟩
 obtain⟨I,Zj,Zk,p1,p2,p3,p4,p5⟩:=x.yI H Zi;obtain⟨q1,q2⟩:=x.yJ (r':={r' i with state:=.exhausted}) (B':=.dead) H p1 p2 p3 p4 p5 (.inl rfl);refine⟨_,_,_,Ca p2 RL,⟨⟨_,_,x,q1,q2⟩,ee.seen (.two (gq (bD p1) (by simp)) (gq (bD p1) (by simp)))⟩,?_⟩;have g:=O.trans (q2.nT x);generalize hs7:({s6 with w:={s6.w with heap:=s6.w.heap.setIfInBounds (r+1) (.loop {{r' i with state:=.exhausted}with tmps:=I,fn:=Zj,defers:=Zk})}}:St)=s7 at q1 q2 g;have Zl:s7.own r:=by rw[g.own];grind
 have Zm:s7.w.heap[r]?=aa (.deferred (aa [])):=by rw[g.keep r (.inr rfl)];exact Vg
 have Zn:∀o,s7.M r o=af:=λo=>by rw[g.iq r (by grind) (λL m=>(hD.own r (.inr rfl)).2 L m)];grind
 obtain⟨t1,t2⟩:=q1.g8 (r:=r) (o:=d.own) Zl (λb hb=>by rw[g.own];grind) (λT=>by have:=(j.own r T).1;omega) Zn Zm;refine .ghost t2 ?_;have J:cJ σ d ((σ' i).set σ.length .dead++[.pK]) {s7 with β:=s7.β++[⟨.int .i64 r,[r]⟩],own:=d.own}:=by
  refine⟨?_,λb hb=>?_,λb o v y=>g.mem b o v y,λb hb hn o=>?_,λL m b hb=>?_,λl B L hB m=>?_,g.os,g.tape,g.output,rfl⟩
  .grind
  .show s7.w.heap[b]?=_;rw[g.keep b (.inl hb)];exact Z b (j.own b hb).1
  .show s7.M b o=_;rw[g.iq b (by grind) (λL m=>?_)];grind
  .simp only[eO,gQ]at m;rcases m with m|rfl
   .rcases g.tB L m b hb with h1|⟨L0,h1,h2⟩
    .grind
    grind
   grind
  .have N3:=(b8.1 hB).1;have Uj:=(b8.1 m).1;obtain⟨B',L',k1,k2,k3⟩:=g.box l B L (by grind) (by grind);grind
 have fF:cf N ((σ' i).set σ.length .dead++[.pK]) {s7 with β:=s7.β++[⟨.int .i64 r,[r]⟩],own:=d.own} φ {a with defers:={target:=.collected r,args:=#[]}::a.defers}:=by
  have y:=f1.mono J j.len;obtain⟨ls,OM⟩:=f1.defers;refine⟨y.size,⟨((σ' i).set σ.length .dead).length::ls,⟨⟨?_,⟨.int .i64 r,[r]⟩,r,?_,rfl,rfl⟩,λT=>?_,OM.mono J.ext⟩⟩,y.slot⟩
  .grind
  .show (s7.β++_)[_]?=_;rw[<-q1.len,fh (aZ _)];simp
  .have h1:=OM.Ak _ T;grind
 obtain⟨e,p,hq⟩:=k i;have u:=hQ e φ _ _ _ hq fF t1 (hr.stepW.trans J);revert p;show Hx (r' i).pending=aa e->e9 X S (G (b.aT _ (((r' i).pending.map Item.code).toList++kk)) cs) _;intro p;cases hp:(r' i).pending with
 |none=>rw[hp]at p;cases p;exact u
 |some c =>
  rw[hp]at p;cases c<;>simp only[Hx,reduceCtorEq,dk]at p
  .subst p;exact u [] (λ_=>rfl)
  .subst p;exact u kk
def cf.callee{t:Nat}{F:aP}(hl:look φ t=.e (.one (.c (.fn (.func F) [] cap)))):∀s a,cf N σ s φ a->aD σ s->∃b:List aj,a.eval (.tmp t)=.func (.func F) #[] b.toArray/\cd σ s b (fu cap):=by
 intro s a d _;have h:=d.slot t;rw[hl]at h;have h:=fp h;show ∃b:List aj,a.tmps.getD t ah=.func (.func F) #[] b.toArray/\_;generalize a.tmps.getD t ah=v at h;cases h with
 |fn fs cs hl Dk f1 f2 h1 h2 r1 r2 =>
  grind[l4]
def dK.yL{f:aP}{fn:Func}{args:List D}{σ':ι->List ba}(m:P.funcs[f]?=aa fn)(d:(fn.name== "runtime.NumGoroutine")=ae)(hb:fn.body=aa c)(g:bn args.length fn.ntmps=ab)(h:Fits args σ->mT X fn.ntmps c (λe φ σ1=>∃j,b7 fn σ.length (res j) (σ' j) e φ σ1) (iL 0 args) σ):dK X f args σ res σ':=by refine⟨⟨fn,m,d,by grind⟩,λs0 vs hr hh=>?_⟩;exact(dK.Np m d hb (dy g) λs a f i b k cs S o l n=>h ⟨s0,vs,hr,hh⟩ s a f i b k cs S o l n).2 s0 vs hr hh
def Vj(fn:Func)(res:D)(σ':List ba):Post:=λe φ σ1 =>
 (e=.ret∨e=.normal)/\σ1=σ'/\l7 σ'=ab/\∃ds d ps,wq φ fn.results.toList=aa ds/\qC ds=aa d/\BC d res=aa ps/\au ps
def dK.Hz{f:aP}{fn:Func}{args:List D}{σ':ι->List ba}(q:P.funcs[f]?=aa fn)(k:(fn.name== "runtime.NumGoroutine")=ae)(hb:fn.body=aa c)(g:bn args.length fn.ntmps=ab)(h:AW X fn.ntmps c (λe φ σ1=>∃j,Vj fn (res j) (σ' j) e φ σ1) (iL 0 args) σ):dK X f args σ res σ':=by
 refine⟨⟨fn,q,k,by grind⟩,λs vs hr hh S cs hS=>?_⟩;obtain⟨hl,z⟩:=cd.get hr;let b:Frame:={fn:=f,tmps:=#[],todo:=[],defers:=[],mode:=.run,kind:=.normal,roundOf:=af}
 have a:Frame.enter P f vs.toArray .normal=b.aT {tmps:=vs.toArray++Array.replicate (fn.ntmps-vs.toArray.size) ah,defers:=[]} [.code c]:=by simp[Frame.enter,Frame.aT,q,hb,b]
 rw[a];have g:=dy g;refine h s {tmps:=vs.toArray++Array.replicate (fn.ntmps-vs.toArray.size) ah,defers:=[]} ⟨by grind,⟨[],ar⟩,λt=>?_⟩ hh b [] cs S (by simp[b]) ?_
 .rw[mO];simp only[jJ,bZ,kt];have:=z t;rcases cv t vs.length with x|B
  .have e:(vs.toArray++Array.replicate (fn.ntmps-vs.toArray.size) ah).getD t ah=(vs[t]?).getD ah:=by simp only[dx];grind
   grind
  .rw[qg (by omega)];trivial
 .rintro e φ' σ1 s1 a1 ⟨r,n,rfl,o,ds,d,ps,h1,h2,E,y⟩ u m st;have fin:∀(fr:Frame) s2,b5 s1 s2->fr.fn=f->fr.tmps=a1.tmps->fr.defers=a1.defers->fr.mode=.returning->fr.kind=.normal->e9 X S (G fr cs) s2:=by
   intro fr s2 rm e1 e2 e3 e4 e5;have p:=u.rely rm m;obtain⟨v,A,C,F⟩:=sv (P:=P) p h1 h2;obtain⟨ls,i⟩:=p.defers;have I:a1.defers=[]:=by
    cases ls with
    |nil=>cases H:a1.defers with
     |nil=>rfl
     |cons d ds=>rw[H]at i;exact i.elim
    |cons l ls=>exact absurd rfl (l8 o _ (bD (i.Ak l (by simp))))
   refine hS r fr v _ ⟨e1,e4,by grind,e5,fn,by grind,λw _=>?_⟩ (pO E y C) (m.rely rm) (st.trans rm.stepW);rw[e2];exact⟨A w,λe n=>by rw[F w #[]]at n;grind⟩
  rcases n with rfl|rfl
  .intro pre;exact .ctl m rfl (λ_=>BL rfl) λs2 rm=>fin _ s2 rm rfl rfl (j7 _) rfl rfl
  .exact .ctl m rfl (λ_=>BM rfl) λs2 rm=>fin _ s2 rm rfl rfl (j7 _) rfl rfl
end
structure HX{P:aK}(X:Cx P)(N:Nat)(ops:Array aB)(φ:Fr)(σ:List ba)(x:Nat->D)(c:Nat->Fr)(idx:Nat->Option Nat)(last:Nat):Prop where
 back:∀i o,ops[i]?=aa o->∀e∈o.after,cZ e=ab->e.on<i
 GY:∀i o d,ops[i]?=aa o->o.dst=aa d->idx d=aa i/\d<N
 wu:∀d i,idx d=aa i->∃o,ops[i]?=aa o/\o.dst=aa d
 one:∀i o,ops[i]?=aa o->i≠last->OA X N ops.toList o (c i) σ (x i) σ
 QH:∀i o,ops[i]?=aa o->i≠last->∀t σ s v,dc σ s v (match idx t with|some j=>(if ∃e∈o.after,cZ e=ab/\e.on=j then x j else .any)|none=>look φ t)->dc σ s v (look (c i) t)
 Xd:∀o,ops[last]?=aa o->∀j,j<ops.size->j≠last->∃e∈o.after,cZ e=ab/\e.on=j
 has:last<ops.size
section
variable {X:Cx P}{x:Nat->D}{c:Nat->Fr}{idx:Nat->Option Nat}{last:Nat}
theorem Aq{a t:Nat}(h:∀i,i<ops.size->L.getD i ab=ab):Region.linearise.go .any ops a t L []=[]:=by
 cases a with
 |zero=>exact ux t L
 |succ n =>
  have b:aW .any ops L=[]:=by
   cases b:aW .any ops L with
   |nil=>rfl
   |cons y d =>
    have e:y∈aW .any ops L:=by grind
    grind[mem_ready]
  grind[nY]
def HX.arr(h:HX X N ops φ σ x c idx last){S:ak->St->Prop}{b:Frame}{kk:List Item}(hb:b.kind≠.early){s0:St}(hQ:∀s a,a.tmps.size=N->(∀t,dc σ s (a.tmps.getD t ah) (match idx t with|some j=>if j=last then .any else x j|none=>look φ t))->a.defers=[]->aD σ s->cJ σ s0 σ s->e9 X S (G (b.aT a (.inRegion ops [last]::kk)) cs) s):
  ∀(f:Nat) (L:Array Bool),L.size=ops.size->(L.toList.filter (λb=>!b)).length<=f->¬L.getD last ae=ab ->
   (∀i o,ops[i]?=aa o->L.getD i ae=ab->∀e∈o.after,cZ e=ab->L.getD e.on ae=ab) ->
   ∀(s:St) (a:Act),Gs N σ s (fE φ x idx L) a->a.defers=[]->aD σ s->cJ σ s0 σ s ->
   ∀t,e9 X S (G (b.aT a (.inRegion ops (Region.linearise.go .any ops f t L [])::kk)) cs) s:=by
 intro f;induction f with
 |zero =>
  intro L hs hf m W s a g K hh st t;exfalso;have Z:L[last]'(by have:=h.has;omega)∈L.toList:=by simp
  have O:=h.has;cases hb:L[last]'(by omega)with
  |true=>exact m (by simp[dx,fx (by omega:last<L.size),hb])
  |false =>
   have:L[last]'(by omega)∈L.toList.filter (λb=>!b):=mG.2 ⟨Z,by grind⟩;grind
 |succ f ih =>
  intro L hs hf m W s a g K hh st t;rw[nY];cases I:(aW .any ops L)[t % (aW .any ops L).length]? with
  |none =>
   exfalso;have hr:aW .any ops L=[]:=by
    cases hr:aW .any ops L with
    |nil=>rfl
    |cons y ys =>
     grind[Nat.mod_lt]
   have F:∀i,i<ops.size->L.getD i ae=ab:=by
    intro i;induction i using Nat.strongRecOn with
    |_ i Yy =>
     intro hi;cases hb:L.getD i ae with
     |true=>rfl
     |false =>
      have Z:i∈aW .any ops L:=mem_ready.2 ⟨ops[i],fx hi,by
       grind,λe R u=>by
       have:=h.back i _ (fx hi) e R u
       grind⟩
      grind
   exact m (F last h.has)
  |some i =>
   have hi:=bD I;obtain⟨o,E,TN,Od⟩:=mem_ready.1 hi;have O:i<ops.size:=(gN.1 E).1;have H:¬L.getD i ae=ab:=by grind
   by_cases B:i=last
   .subst B;have A:Region.linearise.go .any ops f (t / (aW .any ops L).length) (L.setIfInBounds i ab) []=[]:=by
     refine Aq λj hj=>?_;have hj2:(L.setIfInBounds i ab).getD j ae=ab:=by
      rw[ef (by omega)];by_cases e:j=i
      .grind
      .obtain⟨ed,R,u,rfl⟩:=h.Xd o E j hj e;grind
     grind
    simp only[A];refine hQ s a g.size (λt=>?_) K hh st;have:=g.slot t;unfold fE at this;cases k:idx t with
    |none=>grind
    |some j =>
     simp only[k]at this⊢;obtain⟨oj,w,_⟩:=h.wu _ _ k;by_cases e:j=i
     .rw[bt e];trivial
     .rw[bh e];obtain⟨ed,R,u,rfl⟩:=h.Xd o E j (gN.1 w).1 e;grind
   have r:(L.setIfInBounds i ab).size=ops.size:=by grind
   have q:((L.setIfInBounds i ab).toList.filter (λb=>!b)).length<=f:=by
    have h1:L.toList[i]?=aa ae:=by rw[x6,fx (by omega:i<L.size)];simpa[dx,fx (by omega:i<L.size)]using H
    grind[count_set]
   have J:∀j o',ops[j]?=aa o'->(L.setIfInBounds i ab).getD j ae=ab->∀e∈o'.after,cZ e=ab->(L.setIfInBounds i ab).getD e.on ae=ab:=by grind[ef]
   have p:¬(L.setIfInBounds i ab).getD last ae=ab:=by grind[ef]
   have U:cf N σ s (c i) a:=g.GX λt σ s v C=>h.QH i o E B t σ s v (by
    unfold fE at C;cases k:idx t with
    |none=>grind
    |some j =>
     simp only[k]at C⊢;split
     .grind
     .trivial)
   have z:∀(s':St) (v:aj),cJ σ s σ s'->dc σ s' v (x i)->Gs N σ s' (fE φ x idx (L.setIfInBounds i ab)) (a.put o.dst v):=by
    intro s' v l C;cases K:o.dst with
    |none =>
     refine⟨g.size,g.defers.imp λ_ h1=>h1.mono l.ext,λt=>?_⟩;have n:=(g.slot t).mono l.ext hh.len;simp only[Act.put];unfold fE at n⊢;cases k:idx t with
     |none=>grind
     |some j =>
      simp only[k]at n⊢;obtain⟨oj,w,Y⟩:=h.wu _ _ k;grind[ef]
    |some d =>
     obtain⟨M,Q⟩:=h.GY i o d E K;refine⟨by simp[Act.put,g.size],g.defers.imp λ_ h1=>h1.mono l.ext,λt=>?_⟩;simp only[Act.put];by_cases e:d=t
     .subst e;have T:d<a.tmps.size:=by rw[g.size];exact Q
      simp only[dx,tY T,fK];unfold fE;simp only[M];rw[bt ((ef (by omega)).2 (.inl rfl))];exact C
     .have n:=(g.slot t).mono l.ext hh.len;simp only[dx]at n⊢;rw[rn e];unfold fE at n⊢;cases k:idx t with
      |none=>grind
      |some j =>
       simp only[k]at n⊢;obtain⟨oj,w,Y⟩:=h.wu _ _ k;grind[ef]
   have:=h.one i o E B s a U hh b kk cs S i (Region.linearise.go .any ops f (t / (aW .any ops L).length) (L.setIfInBounds i ab) []) hb (by grind);simp only[pE]at this;exact this λv s' C V l=>ih _ r q p J s' _ (z _ _ l C) (by cases o.dst<;>exact K) V (st.trans l) _
theorem HX.region(h:HX X N ops φ σ x c idx last)(v:P.follows Departure.mixedOrders=ab){r:ak->St->Prop}{b:Frame}{kk:List Item}(hb:b.kind≠.early){s0:St}{a0:Act}{id:Nat}(f0:cf N σ s0 φ a0)(q:a0.defers=[])(n:aD σ s0)(u:∀s a,a.tmps.size=N->(∀t,dc σ s (a.tmps.getD t ah) (match idx t with|some j=>if j=last then .any else x j|none=>look φ t))->a.defers=[]->aD σ s->cJ σ s0 σ s->e9 X r (G (b.aT a (.inRegion ops [last]::kk)) cs) s):
  e9 X r (G (b.aT a0 (.code (.region id ops ab)::kk)) cs) s0:=by
 refine .next rfl λg f=>?_;have f:=X.hZ f;have e:=n.rely f;have l:=f0.rely f n;have k:Step σ g σ {g with w:={g.w with drawn:=g.w.drawn+1}}:=Step.same rfl rfl rfl rfl;have m:aD σ {g with w:={g.w with drawn:=g.w.drawn+1}}:=e.same rfl;have p:=f.stepW.trans (k.nT e);refine⟨_,{g with w:={g.w with drawn:=g.w.drawn+1}},#[],kS,⟨⟨σ,σ,e,m,k⟩,.nil⟩,?_⟩;simp only[Region.schedule,v,Bool.true_or,bZ];refine h.arr hb (s0:=s0) u ops.size _ (by simp) (by simp) ?_ ?_ _ a0 ?_ q m p _
 .simp[dx,lP];split<;>simp
 .intro i o z hi;simp[dx,lP]at hi;split at hi<;>simp at hi
 .have d:=l.mono (k.nT e) e.len;refine⟨d.size,d.defers,λt=>?_⟩;unfold fE;cases y:idx t with
  |none=>exact d.slot t
  |some j =>
   simp only;rw[bh]
   .exact d.slot t
   .simp[dx,lP];split<;>simp
end
def oS(X:Cx P)(N:Nat)(all:List aB)(o:aB)(φ:Fr)(σ:List ba)(x:ι->D)(σ':ι->List ba):Prop :=
 ∀s a,cf N σ s φ a->aD σ s->∀(b:Frame) (k:List Item) (cs:List Frame) (S:ak->St->Prop) (i:Nat) (rest:List Nat),b.kind≠.early->all.toArray[i]?=aa o ->
  (∀j v s',dc (σ' j) s' v (x j)->aD (σ' j) s'->cJ σ s (σ' j) s'->e9 X S (G (b.aT (a.put o.dst v) (.inRegion all.toArray rest::k)) cs) s')->e9 X S (G (b.aT a (.inRegion all.toArray (i::rest)::k)) cs) s
def yP:List aB->Nat->(Nat->D)->List (Option Nat×D)
 |[],_,_=>[]
 |o::r,i,x=>(o.dst,x i)::yP r (i+1) x
def uT{x:Nat->D}:∀{l:List aB}{k j:Nat},(yP l k x)[j]?=(l[j]?).map λo=>(o.dst,x (k+j))
 |[],k,j=>by simp[yP]
 |o::r,k,0=>by simp[yP]
 |o::r,k,j+1=>by simp only[yP,mF];rw[uT,show k+1+j=k+(j+1) by omega]
def kC(all:List aB)(φ:Fr)(x:Nat->D)(i:Nat):Fr:=iE (λj=>gK j (bM (all.getD i iP).after.toList)) 0 (yP all 0 x) (tb all φ)
def K9(all:List aB)(φ:Fr)(x:Nat->D):Fr:=iE (λ_=>ab) 0 (yP all 0 x) (tb all φ)
def n6(N:Nat):List aB->Bool
 |[]=>ab
 |o::r=>match fD N o.dst with|true=>n6 N r|false=>ae
def xa{N:Nat}:∀{l:List aB},n6 N l=ab->∀(i:Nat)(o:aB),l[i]?=aa o->fD N o.dst=ab
 |[],_,i,o,h=>by grind
 |p::r,h,i,o,hi=>by
  simp only[n6]at h;split at h
  .rename_i a;cases i with
   |zero=>grind
   |succ i=>exact xa h i o (by grind)
  grind
def sD:List aB->Nat->Bool
 |[],_=>ab
 |o::r,i=>match QJ i (bM o.after.toList)with|true=>sD r (i+1)|false=>ae
def Ao:∀{l:List aB}{k:Nat},sD l k=ab->∀(i:Nat)(o:aB),l[i]?=aa o->∀e∈bM o.after.toList,e<k+i
 |[],_,_,i,o,h=>by grind
 |p::r,k,h,i,o,hi=>by
  simp only[sD]at h;split at h
  .rename_i a;cases i with
   |zero=>simp at hi;subst hi;exact BX a
   |succ i=>intro e b;have:=Ao h i o (by grind) e b;omega
  grind
def yQ(pre:Nat->Bool):List Nat->Bool
 |[]=>ae
 |e::r=>match pre e with|true=>yQ pre r|false=>ab
theorem xb{pre:Nat->Bool}:∀{l:List Nat},yQ pre l=ab->∃e∈l,pre e=ae
 |[],h=>by cases h
 |e::r,h=>by
  simp only[yQ]at h;split at h
  .obtain⟨c,b,a⟩:=xb h;grind
  grind
def yR(pre:Nat->Bool)(m:Nat):List aB->Nat->Bool
 |[],_=>ab
 |o::r,i=>match pre i with
  |true=>yR pre m r (i+1)
  |false=>match av i m with
   |true=>yR pre m r (i+1)
   |false=>match yQ pre (bM o.after.toList)with|true=>yR pre m r (i+1)|false=>ae
theorem DW{pre:Nat->Bool}{m:Nat}:∀{l:List aB}{k:Nat},yR pre m l k=ab->∀(i:Nat)(o:aB),l[i]?=aa o->pre (k+i)=ae->k+i≠m->∃e∈bM o.after.toList,pre e=ae
 |[],_,_,i,o,h=>by grind
 |p::r,k,h,i,o,hi=>by
  intro b a;simp only[yR]at h;cases i with
  |zero =>
   simp at hi;subst hi;simp only[gT]at b a;grind[Nat.eq_of_beq_eq_true,xb]
  |succ i =>
   have c:yR pre m r (k+1)=ab:=by grind
   exact DW c i o (by grind) (by grind) (by omega)
section
variable {X:Cx P}{idx:Nat->Option Nat}
def Ln{x:Nat->D}{a:Act}(c:∀t σ s v,dc σ s v (match idx t with|some j=>(if ∃e∈o.after,cZ e=ab/\e.on=j then x j else .any)|none=>look φ t)->dc σ s v (look (kC ops.toList φ x i) t))(d:Gs N σ s (fE φ x idx L) a)(g:∀e∈o.after,cZ e=ab->L.getD e.on ae=ab):cf N σ s (kC ops.toList φ x i) a:=d.GX λt σ s v f=>c t σ s v (by
 unfold fE at f;cases b:idx t with
 |none=>grind
 |some j =>
  simp only[b]at f⊢;split
  .grind
  .trivial)
def Fa{x y:Nat->D}{σ2:List ba}{a:Act}(c:∀d,o.dst=aa d->idx d=aa i/\d<N)(p:∀d j,idx d=aa j->∃o,ops[j]?=aa o/\o.dst=aa d)(A:ops[i]?=aa o)(r:i<L.size)(u:∀j,L.getD j ae=ab->y j=x j)(f:s.β.length=σ.length)(st:cJ σ s σ2 s')(b:Gs N σ s (fE φ x idx L) a)(q:dc σ2 s' v (y i)):Gs N σ2 s' (fE φ y idx (L.setIfInBounds i ab)) (a.put o.dst v):=by
 have old:∀t,idx t≠aa i->dc σ2 s' (a.tmps.getD t ah) (fE φ y idx (L.setIfInBounds i ab) t):=by intro t z;have n:=(b.slot t).mono st.ext f;unfold fE at n⊢;grind[ef]
 cases w:o.dst with
 |none =>
  refine⟨b.size,b.defers.imp λ_ m=>m.mono st.ext,λt=>?_⟩;refine old t λh=>?_;grind
 |some d =>
  obtain⟨g,l⟩:=c d w;refine⟨by simp[Act.put,b.size],b.defers.imp λ_ m=>m.mono st.ext,λt=>?_⟩;simp only[Act.put];by_cases e:d=t
  .subst e;have k:d<a.tmps.size:=by rw[b.size];exact l
   simp only[dx,tY k,fK];unfold fE;simp only[g];rw[bt ((ef r).2 (.inl rfl))];exact q
  .have:=old t (λh=>by grind)
   simp only[dx]at this⊢;grind
def HK{back:∀i o,ops[i]?=aa o->∀e∈o.after,cZ e=ab->e.on<i}(f:L.size=ops.size)(c:aW .any ops L=[]):∀i,i<ops.size->L.getD i ae=ab:=by
 intro i;induction i using Nat.strongRecOn with
 |_ i b =>
  intro hi;cases h:L.getD i ae with
  |true=>rfl
  |false =>
   have g:i∈aW .any ops L:=mem_ready.2 ⟨ops[i],fx hi,by
    grind,λe d a=>by grind⟩
   grind
def Cf{t:Nat}(a:(aW .any ops L)[t % (aW .any ops L).length]?=af):aW .any ops L=[]:=by
 cases c:aW .any ops L with
 |nil=>rfl
 |cons y b =>
  grind[Nat.mod_lt]
theorem yS(e:L.size=ops.size)(d:(L.toList.filter (λb=>!b)).length<=0):∀i,i<ops.size->L.getD i ae=ab:=by
 intro i hi;have c:L[i]'(by omega)∈L.toList:=by simp
 cases a:L[i]'(by omega)with
 |true=>simp[dx,fx (by omega:i<L.size),a]
 |false =>
  have:L[i]'(by omega)∈L.toList.filter (λb=>!b):=mG.2 ⟨c,by grind⟩;grind
end
def fg(i:Nat)(D:Nat->Bool):Nat->Bool:=λj=>match av j i with|true=>ab|false=>D j
section
variable {X:Cx P}{g:Type}{x:g->Nat->D}{idx:Nat->Option Nat}{S:g->(Nat->Bool)->List ba}{Inv:g->(Nat->Bool)->Prop}{c:Nat}
def kq(L:Array Bool):Nat->Bool:=λi=>L.getD i ae
def Fg(hi:i<L.size):kq (L.setIfInBounds i ab)=fg i (kq L):=by funext j;have h:=ef (L:=L) (i:=i) (j:=j) hi;simp only[kq,fg];grind[Nat.eq_of_beq_eq_true,Nat.beq_refl]
def OX{c:Nat}(d:L.size=n)(h:∀k,c<=k->¬L.getD k ae=ab):n-c<=(L.toList.filter (λb=>!b)).length:=by
 have e:(L.toList.drop c).filter (λb=>!b)=L.toList.drop c:=by rw[x9];intro b a;obtain⟨i,hi,rfl⟩:=dz a;have:=h (c+i) (by omega);simp only[qk,iB]at hi;simp only[dx,fx (by omega:c+i<L.size),fK]at this;grind
 grind[List.drop_sublist]
theorem Names.R2(all:List aB)(c:Nat):Names all (List.range' c (all.length-c)) (all.drop c):=by
 have key:∀(l:List aB) (n:Nat),(∀j o,l[j]?=aa o->all[n+j]?=aa o)->Names all (List.range' n l.length) l:=by
  intro l;induction l with
  |nil=>intro n _;trivial
  |cons o r b =>
   intro n h;rw[gd,List.range'_succ];refine⟨by simpa using h 0 o rfl,b (n+1) λj a hj=>?_⟩;have:=h (j+1) a (by grind);grind
 have:=key (all.drop c) c λj o h=>by grind
 grind
structure R3{P:aK}(X:Cx P)(N:Nat)(ops:Array aB)(φ:Fr){g:Type}(x:g->Nat->D)(S:g->(Nat->Bool)->List ba)(Inv:g->(Nat->Bool)->Prop)(idx:Nat->Option Nat)(c:Nat):Prop where
 back:∀i o,ops[i]?=aa o->∀e∈o.after,cZ e=ab->e.on<i
 GY:∀i o d,ops[i]?=aa o->o.dst=aa d->idx d=aa i/\d<N
 wu:∀d i,idx d=aa i->∃o,ops[i]?=aa o/\o.dst=aa d
 one:∀κ (D:Nat->Bool) i o,Inv κ D->ops[i]?=aa o->i<c->D i=ae->(∀e∈o.after,cZ e=ab->D e.on=ab)->(∀j o',ops[j]?=aa o'->D j=ab->∀e∈o'.after,cZ e=ab->D e.on=ab)->oS X N ops.toList o (kC ops.toList φ (x κ) i) (S κ D) (λq:{κ':g // (∀j,D j=ab->x κ' j=x κ j)/\Inv κ' (fg i D)}=>x q.1 i) (λq=>S q.1 (fg i D))
 QH:∀(x:Nat->D) i o,ops[i]?=aa o->∀t σ s v,dc σ s v (match idx t with|some j=>(if ∃e∈o.after,cZ e=ab/\e.on=j then x j else .any)|none=>look φ t)->dc σ s v (look (kC ops.toList φ x i) t)
 fin:∀(x:Nat->D) t σ s v,dc σ s v (match idx t with|some j=>x j|none=>look φ t)->dc σ s v (look (K9 ops.toList φ x) t)
 QO:∀i o,ops[i]?=aa o->c<=i->∀L:Array Bool,(∀i o,ops[i]?=aa o->L.getD i ae=ab->∀e∈o.after,cZ e=ab->L.getD e.on ae=ab)->(∀e∈o.after,cZ e=ab->L.getD e.on ae=ab)->∀k,k<i->L.getD k ae=ab
 cc:c<=ops.size
 OY:∀κ (D:Nat->Bool),Inv κ D->(∀i,i<c->D i=ab)->∀i,c<=i->i<ops.size->x κ i=.any
def D2(a:L.size=n)(hi:i<n):L.getD i ab=ae↔¬L.getD i ae=ab:=by grind
theorem R3.seq(h:R3 X N ops φ x S Inv idx c):∀(a d:Nat)(L:Array Bool)(t:Nat),L.size=ops.size->c<=d->d<=ops.size->ops.size-d<=a->(∀k,k<ops.size->(L.getD k ae=ab↔k<d)) ->
  Region.linearise.go .any ops a t L []=List.range' d (ops.size-d):=by
 intro a;induction a with
 |zero =>
  grind[ux]
 |succ a w =>
  intro d L t u E C F v;by_cases A:d=ops.size
  .grind [Aq]
  .rw[nY];have l:d<ops.size:=by omega
   have s:∀i o,ops[i]?=aa o->L.getD i ae=ab->∀e∈o.after,cZ e=ab->L.getD e.on ae=ab:=λi o p hi e j hb=>by have b:=(gN.1 p).1;have h1:=(v i b).1 hi;have h2:=h.back i o p e j hb;grind
   have q:∀i,i∈aW .any ops L->i=d:=λi hi=>by
    obtain⟨o,p,hl,y⟩:=mem_ready.1 hi;have b:=(gN.1 p).1;have z:¬i<d:=λm=>(D2 u b).1 hl ((v i b).2 m);rcases cv d i with h1|h1
    .have:=h.QO i o p (by omega) L s y d h1;grind
    .omega
   have r:d∈aW .any ops L:=mem_ready.2 ⟨ops[d],fx l,(D2 u l).2 (λhh=>by grind),λe j hb=>by
    have:=h.back d _ (fx l) e j hb
    grind⟩
   have n:0<(aW .any ops L).length:=List.length_pos_of_mem r;have f:=jy t n;rw[bd f];have e1:=q _ (ql f);simp only[e1];rw[w (d+1) _ _ (by grind) (by omega) (by omega) (by omega) (λk B=>by grind[ef])]
   rw[show ops.size-d=(ops.size-(d+1))+1 by omega,List.range'_succ]
def R3.arr(h:R3 X N ops φ x S Inv idx c){Q:ak->St->Prop}{b:Frame}{kk:List Item}(hb:b.kind≠.early){σ0:List ba}{s0:St}(hQ:∀l D s a,Inv l D->(∀i,i<c->D i=ab)->cf N (S l D) s (K9 ops.toList φ (x l)) a->aD (S l D) s->cJ σ0 s0 (S l D) s->e9 X Q (G (b.aT a (.inRegion ops (List.range' c (ops.size-c))::kk)) cs) s):
  ∀(f:Nat) (l:g) (L:Array Bool),Inv l (kq L)->L.size=ops.size->(L.toList.filter (λb=>!b)).length<=f->(∀k,c<=k->¬L.getD k ae=ab) ->
   (∀i o,ops[i]?=aa o->L.getD i ae=ab->∀e∈o.after,cZ e=ab->L.getD e.on ae=ab) ->
   ∀(s:St) (a:Act),Gs N (S l (kq L)) s (fE φ (x l) idx L) a->aD (S l (kq L)) s->cJ σ0 s0 (S l (kq L)) s ->
   ∀t,e9 X Q (G (b.aT a (.inRegion ops (Region.linearise.go .any ops f t L [])::kk)) cs) s:=by
 have fin:∀(l:g) (L:Array Bool) (s:St) (a:Act) (f t:Nat),Inv l (kq L)->L.size=ops.size->(L.toList.filter (λb=>!b)).length<=f->(∀k,c<=k->¬L.getD k ae=ab)->(∀i,i<c->L.getD i ae=ab)->Gs N (S l (kq L)) s (fE φ (x l) idx L) a->aD (S l (kq L)) s->cJ σ0 s0 (S l (kq L)) s->e9 X Q (G (b.aT a (.inRegion ops (Region.linearise.go .any ops f t L [])::kk)) cs) s:=by
  intro l L s a f t B C R w p m hh st;have Y:=h.cc;rw[h.seq f c L t C (aZ _) Y (by
   have h2:=OX (n:=ops.size) (c:=c) C w;omega) (λk hk=>⟨λK=>by grind,λK=>p k K⟩)]
  exact hQ l _ s a B p (m.GX λt σ s v I=>h.fin (x l) t σ s v (by
   unfold fE at I;cases hi:idx t with
   |none=>grind
   |some k =>
    simp only[hi]at I⊢;obtain⟨o,A,_⟩:=h.wu _ _ hi;rcases cv k c with h1|h1
    .grind
    .rw[h.OY l _ B p k h1 (gN.1 A).1];trivial)) hh st
 intro f;induction f with
 |zero =>
  intro l L B C R w H s a m hh st t;have Y:=h.cc;grind[yS]
 |succ f ih =>
  intro l L B C R w H s a m hh st t;have Y:=h.cc;cases r:(aW .any ops L)[t % (aW .any ops L).length]? with
  |none=>exact fin l L s a _ t B C R w (λi hi=>HK (back:=h.back) C (Cf r) i (by omega)) m hh st
  |some i =>
   have hi:=bD r;obtain⟨o,A,TN,u⟩:=mem_ready.1 hi;have uc:i<ops.size:=(gN.1 A).1;rcases cv i c with E|E
   rotate_left
   .exact fin l L s a _ t B C R w (λk hk=>h.QO i o A E L H u k (by omega)) m hh st
   rw[nY,r];have J:¬L.getD i ae=ab:=by grind
   have y:((L.setIfInBounds i ab).toList.filter (λb=>!b)).length<=f:=by
    have h1:L.toList[i]?=aa ae:=by rw[x6,fx (by omega:i<L.size)];simpa[dx,fx (by omega:i<L.size)]using J
    grind[count_set]
   have M:∀j Z,ops[j]?=aa Z->(L.setIfInBounds i ab).getD j ae=ab->∀e∈Z.after,cZ e=ab->(L.setIfInBounds i ab).getD e.on ae=ab:=by grind[ef]
   have V:cf N (S l (kq L)) s (kC ops.toList φ (x l) i) a:=Ln (h.QH (x l) i o A) m u;have:=h.one l (kq L) i o B A E (by unfold kq;grind) u H s a V hh b kk cs Q i (Region.linearise.go .any ops f (t / (aW .any ops L).length) (L.setIfInBounds i ab) []) hb (by grind);simp only[pE]at this;refine this λq v s' I F z=>?_;obtain⟨W,U,O⟩:=q;have T:=Fg (L:=L) (i:=i) (by omega);simp only at I F z;rw[<-T]at I F z O;exact ih W _ O (by grind) y (λk hk=>by grind[ef]) M s' _ (Fa (λd hd=>h.GY i o d A hd) h.wu A (by omega) (λj hj=>U j hj) hh.len z m I) F (st.trans z) _
def AW.reg(hf:P.follows Departure.mixedOrders=ab)(c:Nat)(x:g->Nat->D)(S:g->(Nat->Bool)->List ba)(Inv:g->(Nat->Bool)->Prop)(E:g)(hI0:Inv E λ_=>ae)(h0:S E (λ_=>ae)=σ)(Rg:ma all=ab)(G:sD all 0=ab)(H:n6 N all=ab)(hc:c<=all.length)(QO:∀i,c<=i->i<all.length->∀L:Nat->Prop,(∀i,i<all.length->L i->∀e∈bM (all.getD i iP).after.toList,L e)->(∀e∈bM (all.getD i iP).after.toList,L e)->∀k,k<i->L k)(OY:∀p (D:Nat->Bool),Inv p D->(∀i,i<c->D i=ab)->∀i,c<=i->i<all.length->x p i=.any)(one:∀p (D:Nat->Bool) i o,Inv p D->all[i]?=aa o->i<c->D i=ae->(∀e∈bM o.after.toList,D e=ab)->(∀j o',all[j]?=aa o'->D j=ab->∀e∈bM o'.after.toList,D e=ab)->oS X N all o (kC all φ (x p) i) (S p D) (λq:{R:g // (∀j,D j=ab->x R j=x p j)/\Inv R (fg i D)}=>x q.1 i) (λq=>S q.1 (fg i D))){Q:Post}(hQ:∀p D,Inv p D->(∀i,i<c->D i=ab)->iO X N all (all.drop c) (Q .normal) (K9 all φ (x p)) (S p D))(id:Nat):
  AW X N (.region id all.toArray ab) Q φ σ:=by
 have n:∀i:Nat,all.toArray[i]?=all[i]?:=λi=>by simp
 let idx:Nat->Option Nat:=λt=>(a9 all.length).find? (λi=>decide ((all.getD i iP).dst=aa t));have K:∀t j,idx t=aa j->∃o,all[j]?=aa o/\o.dst=aa t:=by grind
 have u:∀i o d,all[i]?=aa o->o.dst=aa d->idx d=aa i:=by
  intro i o d f O;have hi:i<all.length:=(b8.1 f).1;cases hx:idx d with
  |none =>
   have:=List.find?_eq_none.1 hx i (by grind);grind
  |some j =>
   grind[rE]
 have V:∀t,nZ t all=ab↔∃j,idx t=aa j:=by grind[oN,qD]
 have J:∀i o,all[i]?=aa o->all.getD i iP=o:=λi o h=>by grind
 have O:R3 X N all.toArray φ x S Inv idx c:=by
  refine⟨?_,?_,?_,?_,?_,?_,λi o f UQ L hLc hLp k hk=>?_,by grind,λp D I W i h1 h2=>OY p D I W i h1 (by grind)⟩
  .intro i o f e U hb;rw[n]at f;have:=Ao G i o f e.on (ei.2 ⟨e,by grind,hb,rfl⟩);omega
  .intro i o d f O;rw[n]at f;exact⟨u i o d f O,iw (xa H i o f) d O⟩
  .grind
  .intro p D i o I f ZL ZM Od BK;rw[n]at f;exact one p D i o I f ZL ZM (λe U=>by
    grind[ei]) λj o hj hDj e U=>by grind[ei]
  .intro x i o f t σ s v T;rw[n]at f;show dc σ s v (look (kC all φ x i) t);unfold kC;rw[J i o f];rcases mc (m:=λj=>gK j (bM o.after.toList)) (φ:=tb all φ) (t:=t) (l:=yP all 0 x) (i:=0)with⟨j,y,h1,h2,C⟩|C
   .rw[C];rw[uT]at h1;cases hj:all[j]? with
    |none=>grind
    |some oj =>
     simp only[hj,lR,dk,kO,bo]at h1;rw[u j oj t hj h1.1]at T;simp only at T;rw[bt]at T
     .grind
     .simp only[bo]at h2;obtain⟨e,a,b,c⟩:=ei.1 (G3 h2);grind
   .rw[C,kK];split
    .trivial
    grind
  .intro x t σ s v T;show dc σ s v (look (K9 all φ x) t);unfold K9;rcases mc (m:=λ_=>ab) (φ:=tb all φ) (t:=t) (l:=yP all 0 x) (i:=0)with⟨j,y,h1,h2,C⟩|C
   .rw[C];rw[uT]at h1;grind
   .rw[C,kK];split
    .trivial
    grind
  .rw[n]at f;refine QO i UQ (b8.1 f).1 (λk=>L.getD k ae=ab) (λi' hi' hl e U=>?_) (λe U=>?_) k hk
   .grind [ei]
   grind[ei]
 intro s a Y hh b kk cs SS hb UH;refine .next rfl λB A=>?_;have A:=X.hZ A;have z:=hh.rely A;have M:=Y.rely A hh;have F:Step σ B σ {B with w:={B.w with drawn:=B.w.drawn+1}}:=Step.same rfl rfl rfl rfl;have Gr:aD σ {B with w:={B.w with drawn:=B.w.drawn+1}}:=z.same rfl;have WE:=A.stepW.trans (F.nT z);refine⟨_,{B with w:={B.w with drawn:=B.w.drawn+1}},#[],kS,⟨⟨σ,σ,z,Gr,F⟩,.nil⟩,?_⟩;simp only[Region.schedule,hf,Bool.true_or,bZ];have WT:kq (Array.replicate all.toArray.size ae)=λ_=>ae:=by funext i;simp[kq,dx,lP];split<;>simp
 refine O.arr hb (σ0:=σ) (s0:=s) (λp D s2 a2 I W f2 h2 nU=>?_) all.toArray.size E _ (by grind) (by simp) (by simp) ?_ ?_ _ a ?_ (by grind) (by grind) _
 .refine hQ p D I W s2 a2 f2 h2 b kk cs SS _ hb ?_ λφ3 σ3 s3 a3 q3 f3 C Z=>UH .normal _ _ s3 a3 q3 f3 C (nU.trans Z);grind[Names.R2]
 .intro i _ hi;simp[dx,lP]at hi;split at hi<;>simp at hi
 .intro i o f hi;simp[dx,lP]at hi;split at hi<;>simp at hi
 .rw[WT,h0];have r:=M.mono (F.nT z) z.len;refine⟨r.size,r.defers,λt=>?_⟩;unfold fE;cases ZN:idx t with
  |none=>exact r.slot t
  |some j =>
   simp only;rw[bh]
   .exact r.slot t
   .simp[dx,lP];split<;>simp
def oS.to{d:Type}{y:ι->D}{σ':ι->List ba}{z:d->D}{e:d->List ba}(h:oS X N all o φ σ y σ')(l:∀j,∃k,y j=z k/\σ' j=e k):oS X N all o φ σ z e:=by intro s a f hh b k cs S i rest hb hi hK;refine h s a f hh b k cs S i rest hb hi λj v s' r1 r2 r3=>?_;obtain⟨q,p2,p3⟩:=l j;grind
def OA.KN{d:Type}{y:D}{z:d->D}{e:d->List ba}(h:OA X N all o φ σ y σ')(k:d)(h1:y=z k)(h2:σ'=e k):oS X N all o φ σ z e:=by subst h1 h2;exactλs a f hh b k' cs S i rest hb hi hK=>h s a f hh b k' cs S i rest hb hi λv s' r1 r2 r3=>hK k v s' r1 r2 r3
end
section
variable {X:Cx P}
theorem oS.l0{x:ι->D}{σ':ι->List ba}(n:o.guard=af)(h:∀s e,aD σ s->(∀y,dc σ s (e y) (bH φ y))->∃(j:ι)(s':St)(v:aj),(aq e o).run P s.w=.ok (.value v) s'.w/\dc (σ' j) s' v (x j)/\aD (σ' j) s'/\Step σ s (σ' j) s'/\ee s ((aq e o).events P s.w #[])):oS X N all o φ σ x σ':=by intro s a f hh b k cs S i rest hb hi hK;refine yF hb hi (dC n) λp d=>?_;have c:=hh.rely d;obtain⟨j,s',v,h1,h2,l,g,m⟩:=h p a.eval c (dJ (f.rely d hh));exact⟨_,s',v,h1,.inl rfl,⟨⟨σ,σ' j,c,l,g⟩,m⟩,hK j v s' h2 l (d.stepW.trans (g.nT c))⟩
def oS.yN{x:D}(h:OA X N all o φ σ x σ'):oS X N all o φ σ (λ_:Unit=>x) (λ_=>σ') :=
 λs a f hh b k cs S i rest hb hi hK=>h s a f hh b k cs S i rest hb hi λv s'=>hK () v s'
def OA.law{x:D}(h:bx P o (bH φ) σ x σ')(a:o.guard=af):OA X N all o φ σ x σ':=.l0 (λ_ _ _ _=>dC a) h
def OA.eval{x:D}(b:c6 P T)(hC:bA X CT)(h:wv T CT ds all φ σ o=aa (x,af,obs))(a:au obs):OA X N all o φ σ x σ:=gD b hC h a
def OA.dg{x:D}(a:c6 P T)(hC:bA X CT)(h:wv T CT [] all φ σ o=aa (x,af,[])):OA X N all o φ σ x σ:=gD a hC h ar
def rN(X:Cx P)(N:Nat)(all:List aB)(φ:Fr)(σ:List ba)(x:Nat->D)(pre:Nat->Bool):List aB->Nat->Prop
 |[],_=>True
 |o::r,i=>(match pre i with|true=>OA X N all o (kC all φ x i) σ (x i) σ|false=>True)/\rN X N all φ σ x pre r (i+1)
def rO(X:Cx P)(N:Nat)(all:List aB)(φ:Fr)(σ:List ba)(x:Nat->D)(m:Nat):List aB->Nat->Prop
 |[],_=>True
 |o::r,i=>(match av i m with|true=>True|false=>OA X N all o (kC all φ x i) σ (x i) σ)/\rO X N all φ σ x m r (i+1)
theorem rN.get{x:Nat->D}{pre:Nat->Bool}:∀{l:List aB}{k:Nat},rN X N all φ σ x pre l k->∀(i:Nat)(o:aB),l[i]?=aa o->pre (k+i)=ab->OA X N all o (kC all φ x (k+i)) σ (x (k+i)) σ
 |[],_,_,i,o,h=>by grind
 |p::r,k,h,0,o,hi=>λa=>by simp at hi;subst hi;have h1:=h.1;grind
 |p::r,k,h,i+1,o,hi=>λa=>by have:=rN.get h.2 i o (by grind) (by grind);grind
theorem rO.get{x:Nat->D}{m:Nat}:∀{l:List aB}{k:Nat},rO X N all φ σ x m l k->∀(i:Nat)(o:aB),l[i]?=aa o->k+i≠m->OA X N all o (kC all φ x (k+i)) σ (x (k+i)) σ
 |[],_,_,i,o,h=>by grind
 |p::r,k,h,0,o,hi=>λa=>by simp at hi;subst hi;have h1:=h.1;simp only[gT]at a;grind[Nat.eq_of_beq_eq_true]
 |p::r,k,h,i+1,o,hi=>λa=>by have:=rO.get h.2 i o (by grind) (by omega);grind
def Cg(pre:Nat->Bool)(x:Nat->D)(y:ι->Nat->D)(j:ι)(i:Nat):D:=match pre i with|true=>x i|false=>y j i
def DX{m c:Nat}{pre:Nat->Bool}{x:Nat->D}{a:ι->Nat->D}{σ':ι->List ba}{S:ι->(Nat->Bool)->List ba}(y:pre m=ae)(z:yR pre m all 0=ab)(same:∀j i,pre i=ab->a j i=x i)(one:∀i o,all[i]?=aa o->pre i=ab->OA X N all o (kC all φ x i) σ (x i) σ)(two:∀j (D:Nat->Bool) i o,all[i]?=aa o->i≠m->i<c->D i=ae->(∀k g,all[k]?=aa g->D k=ab->∀e∈bM g.after.toList,D e=ab)->OA X N all o (kC all φ (a j) i) (S j D) (a j i) (S j (fg i D)))(Kq:∀o,all[m]?=aa o->oS X N all o (kC all φ x m) σ (λj=>a j m) σ')(A:∀j (D:Nat->Bool),(∀i,D i=ab->pre i=ab)->σ' j=S j (fg m D)):
  ∀(b:Option ι) (D:Nat->Bool) i o,(b.isSome=D m/\(b=af->∀i,D i=ab->pre i=ab))->all[i]?=aa o->i<c->D i=ae->(∀e∈bM o.after.toList,D e=ab)->(∀j g,all[j]?=aa g->D j=ab->∀e∈bM g.after.toList,D e=ab) ->
   oS X N all o (kC all φ (b.elim x a) i) (b.elim σ λj=>S j D) (λq:{d:Option ι // (∀j,D j=ab->d.elim x a j=b.elim x a j)/\(d.isSome=fg i D m/\(d=af->∀k,fg i D k=ab->pre k=ab))}=>q.1.elim x a i) (λq=>q.1.elim σ λj=>S j (fg i D)):=by
 intro b D i o v s t p u f;have B:∀{k},fg i D k=ab->k=i∨D k=ab:=λ{k} l=>by unfold fg at l;grind[Nat.eq_of_beq_eq_true]
 have w:∀{k},k≠i->fg i D k=D k:=λ{k} l=>by unfold fg;grind[Nat.eq_of_beq_eq_true]
 by_cases n:i=m
 .subst n;cases b with
  |some j=>grind
  |none =>
   refine(Kq o s).to λj=>⟨⟨aa j,λk l=>same j k (v.2 rfl k l),?_,λh=>by cases h⟩,rfl,A j D (v.2 rfl)⟩
   unfold fg;grind[Nat.beq_refl]
 .cases b with
  |none =>
   have r:pre i=ab:=by grind[DW]
   exact(one i o s r).KN ⟨af,λ_ _=>rfl,by grind,λ_ k l=>by grind⟩ rfl rfl
  |some j=>exact(two j D i o s n t p f).KN ⟨aa j,λ_ _=>rfl,by grind,λh=>by cases h⟩ rfl rfl
def uU{m c:Nat}{pre:Nat->Bool}{a:Option ι}{D:Nat->Bool}(d:a.isSome=D m/\(a=af->∀i,D i=ab->pre i=ab))(e:m<c)(b:∀i,i<c->D i=ab):∃j,a=aa j:=by
 cases a with
 |some j=>grind
 |none=>grind
def AK.Kq(p:P.follows Departure.mixedOrders=ab)(m:Nat)(pre:Nat->Bool)(x:Nat->D)(y:ι->Nat->D)(σ':ι->List ba){id:Nat}(c:ma ops.toList=ab)(b:sD ops.toList 0=ab)(d:n6 N ops.toList=ab)(g:Nat.blt m ops.toList.length=ab)(e:pre m=ae)(f:yR pre m ops.toList 0=ab)(one:rN X N ops.toList φ σ x pre ops.toList 0)(two:∀j,rO X N ops.toList φ (σ' j) (Cg pre x y j) m ops.toList 0)(Kq:oS X N ops.toList (ops.toList.getD m iP) (kC ops.toList φ x m) σ (λj=>Cg pre x y j m) σ')(k:∀j,AK X N Qf K .normal (K9 ops.toList φ (Cg pre x y j)) (σ' j)):AK X N Qf (.code (.region id ops ab)::K) .normal φ σ:=by
 have g:=dy g;have:=AW.reg (X:=X) (N:=N) (φ:=φ) (σ:=σ) p (all:=ops.toList) ops.toList.length (λa:Option ι=>a.elim x (Cg pre x y)) (λa _=>a.elim σ σ') (λa D=>a.isSome=D m/\(a=af->∀i,D i=ab->pre i=ab)) af ⟨rfl,λ_ _ h=>by cases h⟩ rfl c b d (aZ _)
  (λi h1 h2=>absurd h2 (ly.2 h1)) (λa D _ _ i h1 h2=>absurd h2 (ly.2 h1))
  (DX (S:=λj _=>σ' j) e f (λj i l=>by simp only[Cg,l]) (λi o hi l=>by have:=one.get i o hi (by grind);grind) (λj D i o hi zC _ _ _=>by have:=(two j).get i o hi (by grind);grind)
   (λo r=>by grind) (λ_ _ _=>rfl))
  (Q:=AK X N Qf K) (λa D n q=>by obtain⟨j,rfl⟩:=uU n g q;rw[tv];exact .nil (k j)) id
 rw[pE]at this;exact this
end
def GB(p:Bs):aj:=.string ⟨p.toArray⟩
def P9{a:ByteArray}{p:Bs}(h:a.data.toList=p):Value.string a=GB p:=by subst h;simp[GB]
theorem str_val{p:Bs}(h:Rd M v (.str p)):v=GB p/\cO v=ab:=by
 cases h with
 |str e _=>exact⟨P9 e,rfl⟩
section
variable {X:Cx P}{x:Nat->D}{S:(Nat->Bool)->List ba}
def n7:List aB->List (List Bool)->List (List Bool)
 |[],a=>a
 |o::r,a=>oT (Dz a (bM o.after.toList)) λc=>n7 r (a++[c])
 where oT:List Bool->(List Bool->List (List Bool))->List (List Bool)
 |[],q=>q []
 |true::r,q=>oT r λr=>q (ab::r)
 |false::r,q=>oT r λr=>q (ae::r)
theorem mS:∀(l:List Bool)(q:List Bool->List (List Bool)),n7.oT l q=q l
 |[],q=>rfl
 |true::r,q=>by simp only[n7.oT];rw[mS r]
 |false::r,q=>by simp only[n7.oT];rw[mS r]
def Ab{all:List aB}{D:Nat->Bool}(b:∀(j:Nat)(o:aB),all[j]?=aa o->D j=ab->∀e∈bM o.after.toList,D e=ab):
  ∀(r:List aB) (a:List (List Bool)),(∀k,r[k]?=all[a.length+k]?)->(∀(j:Nat) (c:List Bool),a[j]?=aa c->∀o,all[j]?=aa o->(∀e∈bM o.after.toList,D e=ab)->∀q,bit c q=ab->D q=ab) ->
   ∀(j:Nat) (c:List Bool),(n7 r a)[j]?=aa c->∀o,all[j]?=aa o->(∀e∈bM o.after.toList,D e=ab)->∀q,bit c q=ab->D q=ab
 |[],a,_,h=>h
 |o::r,a,d,h=>by
  simp only[n7];rw[mS];refine Ab b r _ (λk=>?_) ?_
  .have:=d (k+1);grind
  .intro j c g;have f:=d 0;simp only[j4,gT]at f;rcases Nat.lt_trichotomy j a.length with l|rfl|i
   .grind
   .rw[fh (aZ _)]at g;grind[yw]
   grind
def fM(all:List aB)(i j:Nat):Bool:=match(n7 all [])[i]? with|some c=>bit c j|none=>ae
def uJ{D:Nat->Bool}(a:∀(j:Nat)(o:aB),all[j]?=aa o->D j=ab->∀e∈bM o.after.toList,D e=ab):∀(i:Nat) o,all[i]?=aa o->(∀e∈bM o.after.toList,D e=ab)->∀j,fM all i j=ab->D j=ab:=by
 intro i o d g j b;unfold fM at b;split at b
 .rename_i c f;exact Ab a all [] (by simp) (by simp) i c f o d g j b
 grind
def DJ{D:Nat->Bool}(c:∀(j:Nat)(o:aB),all[j]?=aa o->D j=ab->∀e∈bM o.after.toList,D e=ab)(g:D i=ae):∀j,(j=i∨fM all j i=ab)->D j=ae:=by
 intro j f;rcases f with rfl|f
 .exact g
 .cases h:D j with
  |false=>rfl
  |true =>
   have a:∃d,all[j]?=aa d:=by
    cases a:all[j]? with
    |some d=>grind
    |none =>
     exfalso;have k:(n7 all []).length=all.length:=by
      have:∀(r:List aB) (b:List (List Bool)),(n7 r b).length=b.length+r.length:=by
       intro r;induction r with
       |nil=>intro b;simp[n7]
       |cons o r l=>intro b;simp only[n7];grind[mS]
      grind
     unfold fM at f;grind
   obtain⟨d,a⟩:=a;have:=uJ c j d a (c j d a h) i f;grind
def fV(X:Cx P)(N:Nat)(all:List aB)(φ:Fr)(x:Nat->D)(S:(Nat->Bool)->List ba)(i:Nat)(o:aB):Prop :=
 ∀D:Nat->Bool,(∀j,fM all i j=ab->D j=ab)->(∀j,(j=i∨fM all j i=ab)->D j=ae)->OA X N all o (kC all φ x i) (S D) (x i) (S (fg i D))
def Hh{P:aK}(X:Cx P)(N:Nat)(all:List aB)(φ:Fr)(x:Nat->D)(S:(Nat->Bool)->List ba):List aB->Nat->Prop
 |[],_=>True
 |o::r,i=>fV X N all φ x S i o/\Hh X N all φ x S r (i+1)
theorem Hh.get{all:List aB}:∀{l:List aB}{k:Nat},Hh X N all φ x S l k->∀i o,l[i]?=aa o->fV X N all φ x S (k+i) o
 |[],_,_,i,o,h=>by grind
 |p::r,k,h,0,o,a=>by simp at a;subst a;exact h.1
 |p::r,k,h,i+1,o,a=>by have:=Hh.get h.2 i o (by grind);grind
def AK.flags{id:Nat}(l:P.follows Departure.mixedOrders=ab)(x:Nat->D)(S:(Nat->Bool)->List ba)(j:S (λ_=>ae)=σ)(b:ma ops.toList=ab)(a:sD ops.toList 0=ab)(d:n6 N ops.toList=ab)(one:Hh X N ops.toList φ x S ops.toList 0)(k:∀D,(∀i,i<ops.toList.length->D i=ab)->AK X N Qf K .normal (K9 ops.toList φ x) (S D)):AK X N Qf (.code (.region id ops ab)::K) .normal φ σ:=by
 have:=AW.reg (X:=X) (N:=N) (φ:=φ) (σ:=σ) l (all:=ops.toList) ops.toList.length (λ_:Unit=>x) (λ_=>S) (λ_ _=>True) () ar j b a d (aZ _)
  (λi h1 h2=>absurd h2 (ly.2 h1)) (λh D _ _ i h1 h2=>absurd h2 (ly.2 h1))
  (λh D i o _ g _ f c e=>by have h1:=one.get i o g;rw[bo]at h1;exact(h1 D (uJ e i o g c) (DJ e f)).KN ⟨(),λ_ _=>rfl,ar⟩ rfl rfl)
  (Q:=AK X N Qf K) (λh D _ m=>by rw[tv];exact .nil (k D m)) id
 rw[pE]at this;exact this
end
section
variable {X:Cx P}{x:Nat->D}{k:Bool->Bool->Bool->List ba}{g b f:Nat}
abbrev uI(k:Bool->Bool->Bool->List ba)(g b f:Nat):(Nat->Bool)->List ba:=λD=>k (D g) (D b) (D f)
def kB{D:Nat->Bool}(h:av j i=ae):fg i D j=D j:=by simp only[fg,h]
def yC{D:Nat->Bool}:fg i D i=ab:=by simp only[fg,j9]
def fV.q3(h1:av g i=ae)(h2:av b i=ae)(e:av f i=ae)(h:∀a c d,OA X N all o (kC all φ x i) (k a c d) (x i) (k a c d)):fV X N all φ x (uI k g b f) i o:=by intro D _ _;show OA X N all o _ (k (D g) (D b) (D f)) _ (k (fg i D g) (fg i D b) (fg i D f));rw[kB h1,kB h2,kB e];exact h _ _ _
def fV.WG(j:c6 P T)(hC:bA X CT)(e:au obs)(h:∀a c d,wv T CT [] all (kC all φ x i) (k a c d) o=aa (x i,af,obs):=by intro a c d;cases a<;>cases c<;>cases d<;>rfl)(h1:av g i=ae:=by rfl)(h2:av b i=ae:=by rfl)(l:av f i=ae:=by rfl):fV X N all φ x (uI k g b f) i o:=.q3 h1 h2 l λa c d=>OA.eval j hC (h a c d) e
def fV.OB(e:c6 P T)(hC:bA X CT)(h:∀a c d,wv T CT [] all (kC all φ x i) (k a c d) o=aa (x i,af,[]):=by intro a c d;cases a<;>cases c<;>cases d<;>rfl)(h1:av g i=ae:=by rfl)(h2:av b i=ae:=by rfl)(j:av f i=ae:=by rfl):fV X N all φ x (uI k g b f) i o:=.WG (obs:=[]) e hC ar h h1 h2 j
def fV.e1(hi:av g i=ab)(h1:av g i=ab)(h2:av b i=ae)(j:av f i=ae)(h:∀c d,OA X N all o (kC all φ x i) (k ae c d) (x i) (k ab c d)):fV X N all φ x (uI k g b f) i o:=by intro D _ a;have e:=bT hi;subst e;show OA X N all o _ (k (D g) (D b) (D f)) _ (k (fg g D g) (fg g D b) (fg g D f));rw[yC,kB h2,kB j,a g (.inl rfl)];exact h _ _
def fV.e2(hi:av b i=ab)(h1:av g i=ae)(j:av f i=ae)(hb:fM all f i=ab)(d:av b i=ab)(h:∀a,OA X N all o (kC all φ x i) (k a ae ae) (x i) (k a ab ae)):fV X N all φ x (uI k g b f) i o:=by intro D _ c;have e:=bT hi;subst e;show OA X N all o _ (k (D g) (D b) (D f)) _ (k (fg b D g) (fg b D b) (fg b D f));rw[yC,kB h1,kB j,c b (.inl rfl),c f (.inr hb)];exact h _
def fV.e3(hi:av f i=ab)(h1:av g i=ae)(h2:av b i=ae)(hb:fM all i b=ab)(c:av f i=ab)(h:∀a,OA X N all o (kC all φ x i) (k a ab ae) (x i) (k a ab ab)):fV X N all φ x (uI k g b f) i o:=by intro D j d;have e:=bT hi;subst e;show OA X N all o _ (k (D g) (D b) (D f)) _ (k (fg f D g) (fg f D b) (fg f D f));rw[yC,kB h1,kB h2,d f (.inl rfl),j b hb];exact h _
end
def nF(f:aj)(l:List Int):aj->(Nat->Option Obj)->Prop:=λv a=>v=f/\∃r es c,f=.map (aa r)/\(∀b,a b=if b=r then aa (.map es c)else af)/\MapKept.Stamped es c /\
 (∀e∈es.toList,∃n,e.key=.int .i64 n/\e.val=.bool ab/\bq .i64 n)/\∀n,n∈l↔∃e∈es.toList,e.key=.int .i64 n
structure S9(σ:List ba)(s:St)(b:Nat)(f:aj)(l:List Int)(L:Loc)(r:Nat)(es:Array MapEntry)(c:Nat):Prop where
 at':s.β[b]?=aa L
 v:L.v=f
 m:f=.map (aa r)
 st:MapKept.Stamped es c
 kv:∀e∈es.toList,∃n,e.key=.int .i64 n/\e.val=.bool ab/\bq .i64 n
 mem:∀n,n∈l↔∃e∈es.toList,e.key=.int .i64 n
 heap:s.w.heap[r]?=aa (.map es c)
 bs:∀b,b∈L.bs↔b=r
def nF.open{f:aj}{l:List Int}(hh:aD σ s)(hl:σ[b]?=aa (.cp (nF f l))):∃L r es c,S9 σ s b f l L r es c:=by
 have hb:b<s.β.length:=by rw[hh.len];grind
 obtain⟨ch,⟨h1,r,es,c,h2,i,d,a,g⟩,e,h,_⟩:=hh.box b _ _ hl (bd hb);exact⟨_,r,es,c,bd hb,h1,h2,d,a,g,e r _ (by grind),λb=>by grind⟩
section
variable {T p q:ay}{z:aC}{f:aj}{l:List Int}{n:Int}
def Ta{es:Array MapEntry}(h:∀e∈es.toList,∃n,e.key=.int .i64 n/\e.val=.bool ab/\bq .i64 n):∀e∈es.toList,MapKept.IsKey (.int .i64) e.key:=λe b=>by obtain⟨n,a,_⟩:=h e b;rw[a];rfl
def Xt{f:aj}{d:D}(h:dc σ s v d)(e:d=.e (.one (.v f))):v=f:=by subst e;exact Rd.eW h
def Xu{n:Int}{d:D}(h:dc σ s v d)(e:d=.e (.one (.c (.int .i64 n)))):v=.int .i64 n/\bq .i64 n:=by subst e;have:=fp h;generalize v=w at this;cases this;exact⟨rfl,by assumption⟩
def bx.Mh(h:o.op=.lookup T x y ae)(C:P.underlying T=aa (.map p q))(A:P.underlying p=aa (.int .i64))(G:∀w,(zeroValue q).run P w=.ok (.bool ae) w)(hl:σ[b]?=aa (.cp (nF f l)))(I:η x=.e (.one (.v f)))(F:η y=.e (.one (.c (.int .i64 n)))):bx P o η σ (.e (.one (.c (.bool (l.contains n))))) σ:=by
 refine bx.mL λs H hh hr=>?_;obtain⟨L,r,es,c,g⟩:=nF.open hh hl;have ex:H x=.map (aa r):=(Xt (hr x) I).trans g.m;obtain⟨B,O⟩:=Xu (hr y) F;obtain⟨a,u⟩:=w8 (d:=.int .i64) (k:=.int .i64 n) rfl (Ta g.kv);have D:nz s ⟨.obj r,ae,ae⟩:=gq (bD g.at') ((g.bs r).2 rfl);have key:∃v:Bool,(Instr.lookup T (.map (aa r)) (.int .i64 n) ae).run P s.w=.ok (.bool v) s.w/\(Instr.lookup T (.map (aa r)) (.int .i64 n) ae).events P s.w #[]=#[⟨.obj r,ae,ae⟩]/\v=l.contains n:=by
  cases a with
  |none =>
   obtain⟨i,t⟩:=sF (ok:=ae) C A g.heap u (λ_=>G s.w)
   exact⟨ae,i,t,by
    symm;rw[<-nL,x5,g.mem]
    rintro⟨e,E,A⟩;exact u.no rfl e E A⟩
  |some jv =>
   obtain⟨j,v⟩:=jv;obtain⟨i,t⟩:=sF (ok:=ae) (z:=ah) C A g.heap u (λh=>by cases h);obtain⟨e,h1,h2,N⟩:=u.yes j v rfl;have J:e∈es.toList:=by grind
   obtain⟨_,_,M,_⟩:=g.kv e J;exact⟨ab,i.trans (show Result.ok v s.w=_ by grind),t,by symm;rw[x5,g.mem];grind⟩
 obtain⟨v,i,t,K⟩:=key;refine⟨.bool v,?_,by rw[<-K];exact Rd.bool,?_⟩
 .simp only[aq,h,ex,B,bL,i,b6,cK]
 .simp only[aq,h,ex,B,aJ,i,t,aO,Sem.events_pure];exact .one D
def bx.PY(h:o.op=.mapUpdate T x y z)(F:P.underlying T=aa (.map p q))(J:P.underlying p=aa (.int .i64))(hl:σ[b]?=aa (.cp (nF f l)))(N:η x=.e (.one (.v f)))(R:η y=.e (.one (.c (.int .i64 n))))(S:η z=.e (.one (.c (.bool ab)))):bx P o η σ .any (σ.set b (.cp (nF f (l++[n])))):=by
 intro s D hh hr;obtain⟨L,r,es,c,g⟩:=nF.open hh hl;have ex:D x=.map (aa r):=(Xt (hr x) N).trans g.m;obtain⟨G,Z⟩:=Xu (hr y) R;have I:D z=.bool ab:=by have:=hr z;rw[S]at this;have:=fp this;generalize D z=w at this;cases this;rfl
 obtain⟨a,B⟩:=w8 (d:=.int .i64) (k:=.int .i64 n) rfl (Ta g.kv);have H:∀w,nz s ⟨.obj r,w,ae⟩:=λw=>gq (bD g.at') ((g.bs r).2 rfl);have O:r<s.w.heap.size:=(gN.1 g.heap).1;have key:∃es' c',(Instr.mapUpdate T (.map (aa r)) (.int .i64 n) (.bool ab)).run P s.w=.ok () {s.w with heap:=s.w.heap.setIfInBounds r (.map es' c')}/\(Instr.mapUpdate T (.map (aa r)) (.int .i64 n) (.bool ab)).events P s.w #[]=#[⟨.obj r,ae,ae⟩,⟨.obj r,ab,ae⟩] /\
   MapKept.Stamped es' c'/\(∀e∈es'.toList,∃n,e.key=.int .i64 n/\e.val=.bool ab/\bq .i64 n)/\∀m,m∈l++[n]↔∃e∈es'.toList,e.key=.int .i64 m:=by
  cases a with
  |none =>
   obtain⟨t,A⟩:=sG (x:=.bool ab) F J g.heap B;refine⟨_,_,t,A,MapKept.stamped_push g.st (B.no rfl),λe u=>?_,λm=>?_⟩
   .rw[Array.toList_push,eO]at u;rcases u with u|u
    .exact g.kv e u
    grind
   .rw[eO,g.mem,Array.toList_push];constructor
    .rintro(⟨e,h1,h2⟩|h1)
     .grind
     .simp at h1;subst h1;exact⟨_,List.mem_append_right _ (gQ.2 rfl),rfl⟩
    grind
  |some jv =>
   obtain⟨j,v⟩:=jv;obtain⟨e,h1,h2,h3⟩:=B.yes j v rfl;have M:e∈es.toList:=by grind
   obtain⟨_,_,Q,_⟩:=g.kv e M;have U:es.modify j (λe=>{key:=.int .i64 n,val:=.bool ab,born:=e.born})=es:=by
    apply Array.ext_getElem?;intro i;rw[x7];split
    .rename_i hi;subst hi;rw[h1,<-h2,<-Q];rfl
    .rfl
   obtain⟨t,A⟩:=sG (x:=.bool ab) F J g.heap B;refine⟨es,c,t.trans (show Result.ok () {s.w with heap:=s.w.heap.setIfInBounds r (.map (es.modify j λe=>{key:=.int .i64 n,val:=.bool ab,born:=e.born}) c)}=_ by grind),A,g.st,g.kv,λm=>?_⟩;rw[eO,g.mem];constructor
   .rintro(E|E)
    .exact E
    grind
   grind
 obtain⟨es',c',t,A,W,V,K⟩:=key;have C:=hh.jh (H':=nF f (l++[n])) (L':=L) (w':={s.w with heap:=s.w.heap.setIfInBounds r (.map es' c')}) hl g.at' rfl (by simp) (λb _ hb=>by show(s.w.heap.setIfInBounds r _)[b]?=_;rw[rn (by rintro rfl;exact hb ((g.bs r).2 rfl))]) (λb hb=>.inl hb)
  ⟨λb=>if b=r then aa (.map es' c')else af,⟨g.v,r,es',c',g.m,λ_=>rfl,W,V,K⟩,λb Y hb=>by grind,λb=>by rw[g.bs];by_cases e:b=r<;>simp[e]⟩ rfl rfl rfl
 have e1:s.β.set b L=s.β:=by
  apply gR;intro i;by_cases e:b=i
  .subst e;rw[fJ (b8.1 g.at').1,g.at']
  grind
 rw[e1]at C;refine⟨.skip,_,?_,rfl,C.1,C.2,?_⟩
 .simp only[aq,h,ex,G,I,bL,t,b6,cK]
 .simp only[aq,h,ex,G,I,aJ,t,A,aO,Sem.events_pure];exact .two (H _) (H _)
end
section
variable {X:Cx P}{T:ay}
def AK.I9(h:o.op=.makeMap T af)(j:o.guard=af)(r:fD N o.dst=ab)(k:∀f,AK X N Qf (.ops all rest::K) .normal (kV o.dst (.e (.one (.v f))) φ) (σ++[.cp (nF f [])])):AK X N Qf (.ops all (o::rest)::K) .normal φ σ:=by
 refine AK.hand (ι:=aj) (λf=>.e (.one (.v f))) (λf=>σ++[.cp (nF f [])]) j r (λs a y hh=>?_) k;let w':aA:={s.w with heap:=s.w.heap.push (.map #[] 0)}
 have d:w'.heap[s.w.heap.size]?=aa (.map #[] 0):=by grind
 have g:w'.heap.size=s.w.heap.size+1:=by grind
 obtain⟨m,u⟩:=hh.grow (M':=s.M) (w':=w') (by grind) (λb hb=>by grind) (λ_ _ _=>rfl) (λb hb o v c=>by have:=hh.block c;omega) rfl rfl rfl;obtain⟨t,i⟩:=m.gC u rfl hh (B:=.cp (nF (.map (aa s.w.heap.size)) [])) (L:=⟨.map (aa s.w.heap.size),[s.w.heap.size]⟩)
  ⟨λb=>if b=s.w.heap.size then aa (.map #[] 0)else af,⟨rfl,_,#[],0,rfl,λ_=>rfl,MapKept.stamped_empty 0,λe x=>by grind,λn=>by simp⟩,λb o hb=>by
   grind,λb=>by by_cases e:b=s.w.heap.size<;>simp[e],λb hb o=>by
   simp at hb;subst hb;show s.M _ _=af;cases c:s.M s.w.heap.size o with
   |none=>rfl
   |some v=>have:=hh.block c;omega⟩ (λb hb=>by grind)
 refine⟨.map (aa s.w.heap.size),.value (.map (aa s.w.heap.size)),_,.map (aa s.w.heap.size),?_,.inl rfl,Rd.val rfl,t,i,?_⟩
 .simp[aq,h,Instr.makeMap,run_newObj,w']
 .simp[aq,h,Instr.makeMap];exact .nil
end
def Lo(p:Nat->Bool):List Nat->Bool
 |[]=>ae
 |e::r=>match p e with|true=>ab|false=>Lo p r
def DY{p:Nat->Bool}:∀{l:List Nat},Lo p l=ab->∃e∈l,p e=ab
 |[],h=>by cases h
 |e::r,h=>by
  simp only[Lo]at h;split at h
  .grind
  .obtain⟨c,b,a⟩:=DY h;grind
def uV(all:List aB)(k:Nat):Nat->List Nat->Bool
 |0,l=>gK k l
 |f+1,l=>match gK k l with|true=>ab|false=>Lo (λe=>uV all k f (bM (all.getD e iP).after.toList)) l
def rP{all:List aB}{k:Nat}{L:Nat->Prop}(c:∀i,i<all.length->L i->∀e∈bM (all.getD i iP).after.toList,L e):∀{f:Nat}{l:List Nat},uV all k f l=ab->(∀e∈l,L e)->L k
 |0,l,h,b=>b k (G3 h)
 |f+1,l,h,b=>by
  simp only[uV]at h;split at h
  .grind [G3]
  .obtain⟨e,j,d⟩:=DY h;rcases cv e all.length with g|g
   .exact rP c d (c e g (b e j))
   .have:all.getD e iP=iP:=by grind
    rw[this]at d;exact rP c d (λm a=>by simp[iP,bM]at a)
def uW(all:List aB)(f:Nat)(l:List Nat):Nat->Bool
 |0=>ab
 |n+1=>match uV all n f l with|true=>uW all f l n|false=>ae
def xc{all:List aB}{f:Nat}{l:List Nat}:∀{n:Nat},uW all f l n=ab->∀k,k<n->uV all k f l=ab
 |0,_,k,a=>by omega
 |n+1,h,k,a=>by
  simp only[uW]at h;split at h
  .rename_i b;by_cases e:k=n
   .grind
   .exact xc h k (by omega)
  grind
def yT(all:List aB)(f:Nat):Nat->Nat->Bool
 |_,0=>ab
 |i,r+1=>match uW all f (bM (all.getD i iP).after.toList) i with|true=>yT all f (i+1) r|false=>ae
def xd{all:List aB}{f:Nat}:∀{i r:Nat},yT all f i r=ab->∀q,i<=q->q<i+r->uW all f (bM (all.getD q iP).after.toList) q=ab
 |i,0,_,q,b,a=>by omega
 |i,r+1,h,q,b,a=>by
  simp only[yT]at h;split at h
  .rename_i c;by_cases e:q=i
   .grind
   .exact xd h q (by omega) (by omega)
  grind
section
variable {X:Cx P}
def Fb(c:Nat)(pre:Nat->Bool)(x:Nat->D)(y:ι->Nat->D)(j:ι)(i:Nat):D:=match Nat.blt i c with|true=>Cg pre x y j i|false=>.any
def AK.OT(v:P.follows Departure.mixedOrders=ab)(m c g:Nat)(pre:Nat->Bool)(x:Nat->D)(y:ι->Nat->D)(σ':ι->List ba){id:Nat}(d:ma ops.toList=ab)(b:sD ops.toList 0=ab)(f:n6 N ops.toList=ab)(p:pre m=ae)(s:yR pre m ops.toList 0=ab)(u:Nat.blt c ops.toList.length=ab)(n:Nat.blt m c=ab)(e:∀i,pre i=ab->i<c)(QO:yT ops.toList g c (ops.toList.length-c)=ab)(one:rN X N ops.toList φ σ x pre ops.toList 0)(two:∀j,rO X N ops.toList φ (σ' j) (Fb c pre x y j) m (ops.toList.take c) 0)(Kq:oS X N ops.toList (ops.toList.getD m iP) (kC ops.toList φ x m) σ (λj=>Fb c pre x y j m) σ')(k:∀j,AK X N Qf (.ops ops.toList (ops.toList.drop c)::K) .normal (K9 ops.toList φ (Fb c pre x y j)) (σ' j)):AK X N Qf (.code (.region id ops ab)::K) .normal φ σ:=by
 have u:=dy u;have n:=dy n;have:=AW.reg (X:=X) (N:=N) (φ:=φ) (σ:=σ) v (all:=ops.toList) c (λa:Option ι=>a.elim x (Fb c pre x y)) (λa _=>a.elim σ σ') (λa D=>a.isSome=D m/\(a=af->∀i,D i=ab->pre i=ab)) af ⟨rfl,λ_ _ h=>by cases h⟩ rfl d b f (by omega)
  (λi h1 h2 L w l k z=>rP w (xc (xd QO i h1 (by omega)) k z) l)
  (λa D q r i h1 h2=>by
   obtain⟨j,rfl⟩:=uU q n r;have:Nat.blt i c=ae:=by
    cases hb:Nat.blt i c with
    |false=>rfl
    |true=>have:=dy hb;omega
   simp only[Option.elim,Fb,this])
  (DX (S:=λj _=>σ' j) p s (λj i l=>by have:Nat.blt i c=ab:=qf (e i l);simp only[Fb,this,Cg,l])
   (λi o hi l=>by have:=one.get i o hi (by grind);grind)
   (λj D i o hi zC uc _ _=>by
    have t:(ops.toList.take c)[i]?=aa o:=by grind
    have:=(two j).get i o t (by grind);grind)
   (λo A=>by grind) (λ_ _ _=>rfl))
  (Q:=AK X N Qf K) (λa D q r=>by obtain⟨j,rfl⟩:=uU q n r;exact k j) id
 rw[pE]at this;exact this
end
section
variable {X:Cx P}{x:Nat->D}{l:Bool->Bool->Bool->Bool->List ba}{e f k g:Nat}
abbrev qL(l:Bool->Bool->Bool->Bool->List ba)(e f k g:Nat):(Nat->Bool)->List ba:=λD=>l (D e) (D f) (D k) (D g)
theorem pV{D:Nat->Bool}(h:av j i=ae):fg i D j=D j:=by simp only[fg,h]
theorem Aa{D:Nat->Bool}:fg i D i=ab:=by simp only[fg,j9]
def fV.q4(h1:av e i=ae)(h2:av f i=ae)(m:av k i=ae)(j:av g i=ae)(h:∀a b c d,OA X N all o (kC all φ x i) (l a b c d) (x i) (l a b c d)):fV X N all φ x (qL l e f k g) i o:=by intro D _ _;grind[pV]
def fV.TT(n:c6 P T)(hC:bA X CT)(j:au obs)(h:∀a b c d,wv T CT [] all (kC all φ x i) (l a b c d) o=aa (x i,af,obs):=by intro a b c d;cases a<;>cases b<;>cases c<;>cases d<;>rfl)(h1:av e i=ae:=by rfl)(h2:av f i=ae:=by rfl)(p:av k i=ae:=by rfl)(m:av g i=ae:=by rfl):fV X N all φ x (qL l e f k g) i o:=.q4 h1 h2 p m λa b c d=>OA.eval n hC (h a b c d) j
def fV.Rt(m:c6 P T)(hC:bA X CT)(h:∀a b c d,wv T CT [] all (kC all φ x i) (l a b c d) o=aa (x i,af,[]):=by intro a b c d;cases a<;>cases b<;>cases c<;>cases d<;>rfl)(h1:av e i=ae:=by rfl)(h2:av f i=ae:=by rfl)(n:av k i=ae:=by rfl)(j:av g i=ae:=by rfl):fV X N all φ x (qL l e f k g) i o:=.TT (obs:=[]) m hC ar h h1 h2 n j
def fV.c1(h2:av f e=ae)(d:av k e=ae)(b:av g e=ae)(j:fM all f e=ab)(m:fM all k e=ab)(c:fM all g e=ab)(h:OA X N all o (kC all φ x e) (l ae ae ae ae) (x e) (l ab ae ae ae)):fV X N all φ x (qL l e f k g) e o:=by intro D i a;grind[Aa,pV]
def fV.c2(h1:av e f=ae)(d:av k f=ae)(c:av g f=ae)(m:fM all f e=ab)(j:fM all k f=ab)(b:fM all g f=ab)(h:OA X N all o (kC all φ x f) (l ab ae ae ae) (x f) (l ab ab ae ae)):fV X N all φ x (qL l e f k g) f o:=by intro D i a;grind[Aa,pV]
def fV.c3(h1:av e k=ae)(h2:av f k=ae)(c:av g k=ae)(j:fM all k e=ab)(i:fM all k f=ab)(b:fM all g k=ab)(h:OA X N all o (kC all φ x k) (l ab ab ae ae) (x k) (l ab ab ab ae)):fV X N all φ x (qL l e f k g) k o:=by intro D d a;grind[Aa,pV]
def fV.c4(h1:av e g=ae)(h2:av f g=ae)(b:av k g=ae)(j:fM all g e=ab)(d:fM all g f=ab)(i:fM all g k=ab)(h:OA X N all o (kC all φ x g) (l ab ab ab ae) (x g) (l ab ab ab ab)):fV X N all φ x (qL l e f k g) g o:=by intro D c a;grind[Aa,pV]
end
section
open Go.ChangeMaps (setBlock)
section
def Cj(w:aA)(ty:ay)(r b a d:Nat)(seen:Array Nat)(es:Array MapEntry)(clock:Nat)(n:w.heap[r]?=aa (.mapIter (aa b) a seen d))(q:w.heap[b]?=aa (.map es clock))(i:∀x∈es.toList,x.born<a)(p:a<=d):
    ∀e∈(Instr.next (.pointer (aa ⟨r,0,af⟩)) ae ty).events P w #[],e.sync=ae/\(e.loc=.obj r∨e.loc=.obj b):=by
  have y:(getObj r).run P w=.ok (.mapIter (aa b) a seen d) w:=by simp only[getObj,Sem.run,n]
  have A:(getObj b).run P w=.ok (.map es clock) w:=by simp only[getObj,Sem.run,q]
  have z:∀es,(getObj r).events P w es=es.push ⟨.obj r,ae,ae⟩:=λes=>by simp only[getObj,Sem.events,Sem.runT,n];rfl
  have v:∀es,(getObj b).events P w es=es.push ⟨.obj b,ae,ae⟩:=λes=>by simp only[getObj,Sem.events,Sem.runT,q];rfl
  have t:∀(w1:aA) (sn:Array Nat) (evs:Array Event),w1.heap[r]?=aa (.mapIter (aa b) a seen d)->(setObj r (.mapIter (aa b) a sn clock)).events P w1 evs=evs.push ⟨.obj r,ab,ae⟩:=λw1 sn evs h=>by simp only[setObj,Sem.events,Sem.runT,h];rfl
  have u:∀(w1:aA) (o:Obj),w1.heap[r]?=aa (.mapIter (aa b) a seen d)->∃w2,(setObj r o).run P w1=.ok () w2:=λw1 o h=>⟨{w1 with heap:=w1.heap.setIfInBounds r o},by simp only[setObj,Sem.run,h]⟩
  simp only[Instr.next,aJ,y,A,z,v,aO,next_test_false seen es a d i p,gb,bJ];generalize D:((if(Array.filter (λx=>decide (x.born<a)) (Array.filter (λe=>!seen.contains e.born) es)).isEmpty=ab then #[af]else #[])++Array.map aa (Array.filter (λx=>decide (x.born<a)) (Array.filter (λe=>!seen.contains e.born) es)++Array.filter (λx=>decide (x.born≥a)) (Array.filter (λe=>!seen.contains e.born) es)))=L;have B:∃j w1,(w1=w∨w1=w.drew)/\(choose (Question.mapNext L.size)).run P w=.ok j w1/\∀es,(choose (Question.mapNext L.size)).events P w es=es:=by
    by_cases k:L.size<=1
    · exact⟨0,w,Or.inl rfl,by simp[choose,Sem.run,Question.forced,k],λes=>by simp[choose,Sem.events,Sem.runT,Question.forced,k]⟩
    · exact⟨_,w.drew,Or.inr rfl,by
        simp only[choose,Sem.run,Question.forced,bc,k,bJ,Question.cut];rfl,λes=>by simp only[choose,Sem.events,Sem.runT,Question.forced,bc,k,bJ,Question.cut]⟩
  obtain⟨j,w1,m,g,l⟩:=B;have f:w1.heap[r]?=aa (.mapIter (aa b) a seen d):=by rcases m with rfl|rfl<;>exact n
  simp only[g,l,aO];intro e c;have fin:e∈(#[⟨.obj r,ae,ae⟩,⟨.obj b,ae,ae⟩,⟨.obj r,ab,ae⟩]:Array Event):=by
    cases s:L[j]? with
    | none=>rw[s]at c;simp[stuck,Sem.events,Sem.runT]at c;rcases c with h|h<;>simp[h]
    | some o =>
      rw[s]at c;cases o with
      | none=>simp at c;rcases c with h|h<;>simp[h]
      | some x =>
        obtain⟨w2,C⟩:=u w1 (.mapIter (aa b) a (seen.push x.born) clock) f;simp[t w1 _ _ f]at c;rcases c with h|h|h<;>simp[h]
  simp at fin;rcases fin with rfl|rfl|rfl<;>simp
def Ap(w:aA)(r b a:Nat)(seen:Array Nat)(es:Array MapEntry)(clock:Nat)(e:MapEntry)(c:w.heap[r]?=aa (.mapIter (aa b) a (seen.push e.born) clock))(d:w.heap[b]?=aa (.map es clock))(l:e∈es.toList)(k:(es.toList.map (·.born)).Nodup):
    (Instr.entry (.pointer (aa ⟨r,0,af⟩))).events P w #[]=#[⟨.obj r,ae,ae⟩,⟨.obj b,ae,ae⟩]:=by
  have h:es.find? (·.born==e.born)=aa e:=by rw[<-Array.find?_toList];grind[find_born]
  have j:(getObj r).run P w=.ok (.mapIter (aa b) a (seen.push e.born) clock) w:=by simp only[getObj,Sem.run,c]
  have i:(getObj b).run P w=.ok (.map es clock) w:=by simp only[getObj,Sem.run,d]
  have g:∀es,(getObj r).events P w es=es.push ⟨.obj r,ae,ae⟩:=λes=>by simp only[getObj,Sem.events,Sem.runT,c];rfl
  have f:∀es,(getObj b).events P w es=es.push ⟨.obj b,ae,ae⟩:=λes=>by simp only[getObj,Sem.events,Sem.runT,d];rfl
  simp only[Instr.entry,aJ,j,i,g,f,aO,Array.back?_push,lQ,gb,bJ,h];rfl
def D1(r c:Nat)(sn:Array Nat):aj->(Nat->Option Obj)->Prop:=λv d=>∃a:Nat,v=.pointer (aa ⟨a,0,af⟩)/\d=λb=>if b=a then aa (.mapIter (aa r) c sn c)else af
def HS(H:aj->(Nat->Option Obj)->Prop)(r:Nat)(es:Array MapEntry)(c:Nat):Prop:=∀v a,H v a->a r=aa (.map es c)
variable {X:Cx P}
def aD.has(hh:aD σ s)(a:σ[l]?=aa (.cp H)){r:Nat}{es:Array MapEntry}{c:Nat}(b:HS H r es c):s.w.heap[r]?=aa (.map es c)/\∃L∈s.β,r∈L.bs:=by
  have hl:l<s.β.length:=by rw[hh.len];grind
  obtain⟨ch,h1,h2,e,d⟩:=hh.box l _ s.β[l] a (bd hl);have:=b _ _ h1;grind
def aD.W3(hh:aD σ s){r c:Nat}{sn:Array Nat}(e:σ[l]?=aa (.cp (D1 r c sn))):∃a:Nat,s.β[l]?=aa ⟨.pointer (aa ⟨a,0,af⟩),((s.β[l]?).map (·.bs)).getD []⟩/\s.w.heap[a]?=aa (.mapIter (aa r) c sn c)/\∀L,s.β[l]?=aa L->∀b,b∈L.bs↔b=a:=by
  have hl:l<s.β.length:=by rw[hh.len];grind
  have d:=bd hl;obtain⟨ch,⟨a,f,h1⟩,h2,i,h⟩:=hh.box l _ s.β[l] e d;refine⟨a,?_,h2 a _ (by grind),λL g b=>?_⟩
  · rw[d];simp[<-f]
  grind
def AK.range{t x d:Nat}{m q:ay}(p:o.op=.range t (.tmp x))(J:o.dst=aa d)(E:o.guard=af)(F:fD N o.dst=ab)(n:P.underlying t=aa (.map m q)){r:Nat}(A:∀s a,cf N σ s φ a->aD σ s->a.eval (.tmp x)=.map (aa r)){mb:Nat}{H:aj->(Nat->Option Obj)->Prop}{es:Array MapEntry}{c:Nat}(G:σ[mb]?=aa (.cp H))(C:HS H r es c)(k:AK X N Qf (.ops all rest::K) .normal ((d,.e (.one (.ref σ.length)))::φ) (σ++[.cp (D1 r c #[])])):AK X N Qf (.ops all (o::rest)::K) .normal φ σ:=by
  refine AK.hand (ι:=Unit) (λ_=>.e (.one (.ref σ.length))) (λ_=>σ++[.cp (D1 r c #[])]) E F ?_ λ_=>by rw[J];exact k
  intro s a O hh;have i:a.eval (.tmp x)=.map (aa r):=A s a O hh;obtain⟨h,L,I,g⟩:=hh.has G C;have h1:=run_range_map s.w t m q r es c n h;have h2:(Instr.range t (.map (aa r))).events P s.w #[]=#[⟨.obj r,ae,ae⟩]:=by
    have D:∀es,(getObj r).events P s.w es=es.push ⟨.obj r,ae,ae⟩:=λes=>by simp only[getObj,Sem.events,Sem.runT,h];rfl
    have y:∀(o:Obj) (w:aA) es,(newObj o).events P w es=es:=λo w es=>by simp only[newObj,Sem.events,Sem.runT]
    simp[Instr.range,run_underlying n,MapKept.run_getObj_map h,D,y]
  have R:∀b,s.w.heap.size<=b->∀o,s.M b o=af:=λb hb o=>by
    cases l:s.M b o with
    | none=>rfl
    | some v=>have:=hh.block l;omega
  let w':aA:=s.w.alloc (.mapIter (aa r) c #[] c);have u:w'.heap.size=s.w.heap.size+1:=by show(s.w.heap.push _).size=_;simp
  have j:w'.heap[s.w.heap.size]?=aa (.mapIter (aa r) c #[] c):=dt _ _;obtain⟨z,Q⟩:=hh.grow (M':=s.M) (w':=w') (by omega) (λb hb=>cC _ _ hb) (λ_ _ _=>rfl) (λb hb o v l=>by grind) rfl rfl rfl;obtain⟨a1,a2⟩:=z.gC (B:=.cp (D1 r c #[])) (L:=⟨.pointer (aa ⟨s.w.heap.size,0,af⟩),[s.w.heap.size]⟩) Q rfl hh
    ⟨λb=>if b=s.w.heap.size then aa (.mapIter (aa r) c #[] c)else af,⟨_,rfl,rfl⟩,λb o hb=>by grind,λb=>by by_cases e:b=s.w.heap.size<;>simp[e],λb hb o=>by grind⟩
    (λb hb=>by grind)
  refine⟨(),.value (.pointer (aa ⟨s.w.heap.size,0,af⟩)),_,.pointer (aa ⟨s.w.heap.size,0,af⟩),?_,.inl rfl,⟨λB f=>?_,⟨.pointer (aa ⟨s.w.heap.size,0,af⟩),[s.w.heap.size]⟩,?_,rfl,rfl⟩,a1,a2,?_⟩
  · simp only[aq,p,i,bL,h1,b6,cK];rfl
  · rw[fh (aZ _)]at f;simp at f;subst f;rfl
  · show(s.β++_)[σ.length]?=_
    rw[<-hh.len,fh (aZ _)];simp
  · exact oU (ee.of_eq h2 (.one (gq I g))) (by simp only[aq,p,i])
def cf.R0{x:Nat}(c:look φ x=.e (.one (.v v))):∀s a,cf N σ s φ a->aD σ s->a.eval (.tmp x)=v:=λs a b _=>by have:=b.slot x;rw[c]at this;exact Rd.eW this
inductive xh (es:Array MapEntry) (sn:Array Nat)
  | over (h:∀e∈es.toList,e.born∈sn)
  | one (e:MapEntry) (h:e∈es.toList) (hn:e.born∉sn)
def xh.d{es:Array MapEntry}{sn:Array Nat}:xh es sn->D
  | .over _=>.fe [.one (.c (.bool ae))]
  | .one e _ _=>.fe [.one (.c (.bool ab)),.one (.v e.key),.one (.v e.val)]
def xh.sn{es:Array MapEntry}{sn:Array Nat}:xh es sn->Array Nat
  | .over _=>sn
  | .one e _ _=>sn.push e.born
def AK.next{x d:Nat}{ty:ay}(u:o.op=.next (.tmp x) ae)(W:o.type=ty)(Z:o.dst=aa d)(S:o.guard=af)(T:fD N o.dst=ab){mb ib:Nat}(O:look φ x=.e (.one (.ref ib))){r c:Nat}{sn:Array Nat}(E:σ[ib]?=aa (.cp (D1 r c sn))){H:aj->(Nat->Option Obj)->Prop}{es:Array MapEntry}(V:σ[mb]?=aa (.cp H))(R:HS H r es c)(m:MapKept.Stamped es c)(D:∀e∈es.toList,cO e.key=ab/\cO e.val=ab)(k:∀i:xh es sn,AK X N Qf (.ops all rest::K) .normal ((d,i.d)::φ) (σ.set ib (.cp (D1 r c i.sn)))):AK X N Qf (.ops all (o::rest)::K) .normal φ σ:=by
  refine AK.hand (ι:=xh es sn) (λi=>i.d) (λi=>σ.set ib (.cp (D1 r c i.sn))) S T ?_ λi=>by rw[Z];exact k i
  intro s a hf hh;obtain⟨f,h1,h2,F⟩:=hh.W3 E;have j:a.eval (.tmp x)=.pointer (aa ⟨f,0,af⟩):=by
    have:=hf.slot x;rw[O]at this;obtain⟨_,L,C,j,_⟩:=(show fU _ s _ (.ref ib)from this)
    rw[h1]at C;cases C;exact j
  obtain⟨I,L,C,Y⟩:=hh.has V R;have v:=bD h1;have y:=(F _ h1 f).2 rfl;have n:ee s ((Instr.next (.pointer (aa ⟨f,0,af⟩)) ae o.type).events P s.w #[]):=by
    intro e t;obtain⟨q1,J|J⟩:=Cj s.w o.type f r c c sn es c h2 I m.1 (aZ _) e t
    · obtain⟨z,wr,sy⟩:=e;grind[gq]
    · obtain⟨z,wr,sy⟩:=e;grind[gq]
  have q:σ.set ib (.cp (D1 r c sn))=σ:=by apply gR;grind
  rcases run_next_at (P:=P) s.w o.type f r c c sn es c h2 I m.1 (aZ _)with⟨n1,A⟩|⟨e,t,w1,B,A⟩
  · have p:∀e∈es.toList,e.born∈sn:=by intro e t;have:=Array.eq_empty_of_size_eq_zero n1;unfold leftOf at this;grind[Array.filter_eq_empty_iff]
    refine⟨.over p,.value (.tuple #[.bool ae]),s,_,?_,.inl rfl,⟨[.bool ae],rfl,Rd.bool,ar⟩,?_,?_,?_⟩
    · simp only[aq,u,j,bL,A,b6,cK]
    · show aD (σ.set ib (.cp (D1 r c sn))) s
      grind
    · show Step σ s (σ.set ib (.cp (D1 r c sn))) s
      rw[q];exact .refl _ _
    · exact oU n (by simp only[aq,u,j])
  · have h:e∈es.toList/\e.born∉sn:=by simp[leftOf]at t;grind
    have g:w1.heap=s.w.heap/\w1.os=s.w.os/\w1.tape=s.w.tape/\w1.output=s.w.output:=by rcases B with rfl|rfl<;>exact⟨rfl,rfl,rfl,rfl⟩
    have Q:f<s.w.heap.size:=hh.lt _ v f y;have G:f<w1.heap.size:=by grind
    obtain⟨M,U⟩:=hh.jh (l:=ib) (H':=D1 r c (sn.push e.born)) (L':=⟨.pointer (aa ⟨f,0,af⟩),((s.β[ib]?).map (·.bs)).getD []⟩) (w':=setBlock w1 f (.mapIter (aa r) c (sn.push e.born) c)) E h1 rfl
      (by simp[setBlock,g.1]) (λb hb hn=>by
        have zC:f≠b:=by grind
        simp only[setBlock]
        grind) (λb hb=>.inl hb)
      ⟨λb=>if b=f then aa (.mapIter (aa r) c (sn.push e.born) c)else af,⟨f,rfl,rfl⟩,λb o hb=>by
        by_cases e1:b=f
        · subst e1
          simp only[bZ]at hb;cases hb;simp only[setBlock];grind
        grind,λb=>by
        rw[F _ h1 b]
        by_cases e1:b=f<;>simp[e1]⟩ (by simp[setBlock,g.2.1]) (by simp[setBlock,g.2.2.1]) (by simp[setBlock,g.2.2.2])
    obtain⟨c1,c2⟩:=D e h.1;refine⟨.one e h.1 h.2,.value (.tuple #[.bool ab,e.key,e.val]),_,_,?_,.inl rfl,⟨[.bool ab,e.key,e.val],rfl,Rd.bool,Rd.val c1,Rd.val c2,ar⟩,M,U,?_⟩
    · simp only[aq,u,j,bL,A,b6,cK]
    · exact oU n (by simp only[aq,u,j])
def AK.entry{x d:Nat}(l:o.op=.entry (.tmp x))(C:o.dst=aa d)(t:o.guard=af)(u:fD N o.dst=ab){mb ib:Nat}(p:look φ x=.e (.one (.ref ib))){r c:Nat}{sn:Array Nat}{e:MapEntry}(n:σ[ib]?=aa (.cp (D1 r c (sn.push e.born)))){es:Array MapEntry}(v:σ[mb]?=aa (.cp H))(q:HS H r es c)(b:MapKept.Stamped es c)(j:e∈es.toList){y:D}(A:∀s:St,dc σ s (.tuple #[e.key,e.val]) y)(k:AK X N Qf (.ops all rest::K) .normal ((d,y)::φ) σ):AK X N Qf (.ops all (o::rest)::K) .normal φ σ:=by
  refine AK.hand (ι:=Unit) (λ_=>y) (λ_=>σ) t u ?_ λ_=>by rw[C];exact k
  intro s a F hh;obtain⟨g,h1,h2,B⟩:=hh.W3 n;have f:a.eval (.tmp x)=.pointer (aa ⟨g,0,af⟩):=by
    have:=F.slot x;rw[p]at this;obtain⟨_,L,h,f,_⟩:=(show fU _ s _ (.ref ib)from this)
    rw[h1]at h;cases h;exact f
  obtain⟨m,L,h,i⟩:=hh.has v q;have E:=run_entry_at (P:=P) s.w g r c sn es c e h2 m j b.2.1;have z:=Ap (P:=P) s.w g r c sn es c e h2 m j b.2.1;refine⟨(),.value (.tuple #[e.key,e.val]),s,_,?_,.inl rfl,A s,hh,.refl _ _,?_⟩
  · simp only[aq,l,f,bL,E,b6,cK]
  · exact oU (ee.of_eq z (.two (gq (bD h1) ((B _ h1 g).2 rfl)) (gq h i))) (by simp only[aq,l,f])
end
end
inductive s9 where
 |nil (a:Option Addr)
 |row (b cap:Nat)
def rz(bf:s9)(n:Nat):aj:=match bf with
 |.nil a=>.slice a 0 0
 |.row b cap=>.slice (aa ⟨b,0,af⟩) n cap
def KL(xs:List aj):Nat->List C:=λi=>[.val (xs.getD i ah)]
section
variable {X:Cx P}
def AW.BO{Q:Post}{φ':ι->Fr}{σ':ι->List ba}(h:∀s a,cf N σ s φ a->aD σ s->∃(i:ι)(s':St),s'.w=s.w/\cf N (σ' i) s' (φ' i) a/\aD (σ' i) s'/\Step σ s (σ' i) s')(k:∀i,AW X N c Q (φ' i) (σ' i)):AW X N c Q φ σ:=by intro s a m hh b kk cs S hb hQ;obtain⟨i,s',n,g,d,st⟩:=h s a m hh;have f:=st.nT hh;refine .ghost (.of hh d n f) ?_;exact k i s' a g d b kk cs S hb λe j σ2 s2 a2 q l h2 nU=>hQ e j σ2 s2 a2 q l h2 (f.trans nU)
def AK.GN(l:Nat)(H':ι->aj->(Nat->Option Obj)->Prop)(hl:σ[l]?=aa (.cp H))(h:∀v ch,H v ch->∃i,H' i v ch)(kk:∀i,AK X N Qf (.code c::K) .normal φ (σ.set l (.cp (H' i)))):AK X N Qf (.code c::K) .normal φ σ:=by
 refine AW.BO (φ':=λ_=>φ) (σ':=λi=>σ.set l (.cp (H' i))) (λs a m hh=>?_) kk;have f:l<σ.length:=(b8.1 hl).1;have g:l<s.β.length:=by rw[hh.len];grind
 have j:=bd g;generalize s.β[l]=L at j;obtain⟨ch,o,d,n,k⟩:=hh.box l _ L hl j;obtain⟨i,hi⟩:=h _ _ o;have ex:Ext σ s (σ.set l (.cp (H' i))) s:=by
  refine⟨λ_ _ _ h=>h,λl' B L' lz fC=>?_⟩;by_cases e:l=l'
  .subst e;rw[hl]at lz;cases lz;exact⟨.cp (H' i),L',by grind,fC,rfl⟩
  .exact⟨B,L',by grind,fC,.refl _ _⟩
 have st:Step σ s (σ.set l (.cp (H' i))) s :=
  ⟨aZ _,λ_ _ _=>rfl,λ_ _ _ h=>h,λ_ _ _ _=>rfl,λL h b hb=>.inr ⟨L,h,hb⟩,ex.box,rfl,rfl,rfl,rfl⟩
 refine⟨i,s,rfl,⟨m.size,m.defers.imp λ_ h1=>h1.mono st.ext,λu=>(m.slot u).mono st.ext hh.len⟩,⟨hh.mem,by simp[hh.len],?_,hh.eH,hh.lt,hh.own⟩,st⟩;intro l' B L' lz fC;by_cases e:l=l'
 .subst e;rw[fJ f]at lz;cases lz;rw[j]at fC;cases fC;exact⟨ch,hi,d,n,k⟩
 .rw[j5 e]at lz;exact(hh.box l' B L' lz fC).carry ex hh.len λ_ _=>⟨rfl,λ_=>rfl⟩
end
def s8:C->Bool
 |.int _ _|.bool _|.str _|.nQ|.nS|.yh|.val _=>ab
 |_=>ae
def ud:A->Bool
 |.c x=>s8 x
 |.any=>ab
 |_=>ae
def KH:List A->Bool
 |[]=>ab
 |a::r=>match ud a with|true=>KH r|false=>ae
def GM:E1->Bool
 |.one a=>ud a
 |.agg cs=>KH cs
def Dq:List E1->Bool
 |[]=>ab
 |a::r=>match GM a with|true=>Dq r|false=>ae
def KI:D->Bool
 |.e x=>GM x
 |.fe xs=>Dq xs
 |.any=>ab
section
theorem oL{M':Mem}{c:C}(h:s8 c=ab)(r:Rd M v c):Rd M' v c:=by
 cases r<;>first|(simp[s8]at h;done)|skip
 case int h1=>exact .int h1
 case bool=>exact .bool
 case str h1 h2=>exact .str h1 h2
 case nQ=>exact .nQ
 case nS=>exact .nS
 case yh=>exact .yh
 case val h1=>exact .val h1
def Dr{a:A}(h:ud a=ab)(r:fU σ s v a):fU σ' s' v a:=by
 cases a with
 |c x=>exact oL h r
 |any=>exact r
 |_=>simp[ud]at h
def Ds:∀{vs:List aj}{cs:List A},KH cs=ab->dH σ s vs cs->dH σ' s' vs cs
 |[],[],_,_=>trivial
 |[],_::_,_,r=>r.elim
 |_::_,[],_,r=>r.elim
 |v::vs,c::cs,h,r=>by
  simp only[KH]at h;cases a:ud c with
  |false=>grind
  |true=>simp only[a]at h;exact⟨Dr a r.1,Ds h r.2⟩
def yi{x:E1}(h:GM x=ab)(r:mE σ s v x):mE σ' s' v x:=by
 cases x with
 |one a=>exact Dr h r
 |agg cs=>obtain⟨vs,c,b⟩:=r;exact⟨vs,c,Ds h b⟩
def zK:∀{vs:List aj}{cs:List E1},Dq cs=ab->gn σ s vs cs->gn σ' s' vs cs
 |[],[],_,_=>trivial
 |[],_::_,_,r=>r.elim
 |_::_,[],_,r=>r.elim
 |v::vs,c::cs,h,r=>by
  simp only[Dq]at h;cases a:GM c with
  |false=>grind
  |true=>simp only[a]at h;exact⟨yi a r.1,zK h r.2⟩
def KJ{d:D}(h:KI d=ab)(r:dc σ s v d):dc σ' s' v d:=by
 cases d with
 |e x=>exact yi h r
 |fe xs=>obtain⟨vs,b,a⟩:=r;exact⟨vs,b,zK h a⟩
 |any=>trivial
end
def zL:List ba->Bool
 |[]=>ab
 |.cp _::r=>zL r
 |.dead::r=>zL r
 |_=>ae
def zM:∀{l:List ba},zL l=ab->∀B∈l,(∃H,B=.cp H)∨B=.dead
 |[],_,B,a=>by grind
 |b::r,h,B,a=>by
  have c:((∃H,b=.cp H)∨b=.dead)/\zL r=ab:=by cases b<;>simp_all[zL]
  rcases dD.1 a with rfl|a
  .exact c.1
  .exact zM c.2 B a
def gY(σ:List ba)(a:Nat)(u:aj)(k n:Nat)(es:Nat->List C):Prop :=
 ∀s,aD σ s->∃(L:Loc) (M':Mem),s.β[a]?=aa L/\(∀b o v,s.M b o=aa v->M' b o=aa v)/\(∀b,b∉L.bs->∀o,M' b o=s.M b o)/\(∀b o v,M' b o=aa v->s.w.cell? ⟨b,o,af⟩=aa v) /\
  (∀b∈L.bs,∀o,s.M b o=af)/\Rd M' u (.sl ae k n es)
section
variable {X:Cx P}
def cd.setAt{σ:List ba}{s:St}{d:D}:∀{vs:List aj}{ds:List D}{p:Nat}{v:aj},cd σ s vs ds->vs[p]?=aa v->dc σ s v d->cd σ s vs (ds.set p d)
 |[],[],_,_,_,h,_=>by grind
 |[],_::_,_,_,h,_,_=>h.elim
 |_::_,[],_,_,h,_,_=>h.elim
 |u::vs,e::ds,0,v,h,a,b=>by simp at a;subst a;exact⟨b,h.2⟩
 |u::vs,e::ds,p+1,v,h,a,b=>⟨h.1,cd.setAt (p:=p) h.2 (by grind) b⟩
def iX(σ:List ba)(ds Dt:List D):Prop :=
 ∀s vs,aD σ s->cd σ s vs ds->∃(B:Nat->Prop) (M':Mem),(∀b,B b->∃L∈s.β,b∈L.bs)/\(∀b o v,s.M b o=aa v->M' b o=aa v)/\(∀b,¬B b->∀o,M' b o=s.M b o) /\
  (∀b o v,M' b o=aa v->s.w.cell? ⟨b,o,af⟩=aa v)/\(∀b,B b->∀o,s.M b o=af)/\cd σ {s with M:=M'} vs Dt
def iX.refl(σ:List ba)(ds:List D):iX σ ds ds:=λs vs hh hr=>⟨λ_=>False,s.M,λ_ h=>h.elim,λ_ _ _ h=>h,λ_ _ _=>rfl,hh.mem,λ_ h=>h.elim,hr⟩
def iX.step{ds Dt:List D}(h:iX σ ds Dt)(p q:Nat){u:aj}(z:Dt[p]?=aa (.e (.one (.v u))))(hl:gY σ q u k n es):iX σ ds (Dt.set p (.e (.one (.c (.sl ae k n es))))):=by
 classical
 intro s vs hh hr;obtain⟨B,M1,J,y,F,A,I,j⟩:=h s vs hh hr;obtain⟨L,a,m,H,C,E,G,x⟩:=hl s hh;have h1:∀b o v,M1 b o=aa v->(M1 b o).or (a b o)=aa v:=λb o v d=>by grind
 have h2:∀b o v,a b o=aa v->(M1 b o).or (a b o)=aa v:=λb o v d=>by
  cases e:M1 b o with
  |none=>grind
  |some v' =>
   grind
 refine⟨λb=>B b∨b∈L.bs,λb o=>(M1 b o).or (a b o),?_,λb o v d=>h1 b o v (y b o v d),?_,?_,?_,?_⟩
 .grind
 .grind
 .intro b o v d;cases e:M1 b o with
  |none=>grind
  |some v'=>grind
 .grind
 .have e1:Ext σ {s with M:=M1} σ {s with M:=λb o=>(M1 b o).or (a b o)}:=⟨h1,λl B L w m=>⟨B,L,w,m,.refl _ _⟩⟩
  have t:=j.mono e1 hh.len;obtain⟨r,f⟩:=cd.get j;have g:p<vs.length:=by grind
  have i:vs[p]?=aa u:=by have:=f p;rw[z,bd g]at this;have:=Rd.eW (show Rd M1 vs[p] (.val u)from this);grind
  exact t.setAt i (show dc σ {s with M:=λb o=>(M1 b o).or (a b o)} u (.e (.one (.c (.sl ae k n es))))from Rd.mono h2 x)
end
def iv(E:ay)(k:Nat)(bf:s9)(n:Nat)(xs:List aj):aj->(Nat->Option Obj)->Prop:=λv a=>v=.nilFunc/\(∀x∈xs,cO x=ab)/\xs.length=n*k/\match bf with
 |.nil _=>n=0/\a=λ_=>af
 |.row b cap=>n<=cap/\cap<=9223372036854775807/\∃c,(xs++c).length=cap*k/\a=λd=>if d=b then aa (.cells (xs++c).toArray E (0,0))else af
def rA(k:Nat)(xs:List aj):Nat->List C:=λi=>((xs.drop (i*k)).take k).map .val
def zN{xs:List aj}(a:xs.length=n*k)(hi:i<n):(rA k xs i).length=k:=by
 have:i*k+k<=n*k:=by rw[<-j8];exact dY _ hi
 simp[rA,a];omega
def zO{xs:List aj}{c:C}(h:(rA k xs i)[j]?=aa c):∃u,xs[i*k+j]?=aa u/\c=.val u:=by simp only[rA,mJ,ig,pG]at h;grind
def iv.lookup{cap:Nat}{xs:List aj}{ch:Nat->Option Obj}(h:iv E k (.row b cap) n xs v ch):∃a,(xs++a).length=cap*k/\ch b=aa (.cells (xs++a).toArray E (0,0))/\∀c,(ch c).isSome=ab↔c=b:=by obtain⟨_,_,_,_,_,a,h1,h2⟩:=h;grind
def Rd.Ra{cap:Nat}{xs:List aj}(f:∀x∈xs,cO x=ab)(hl:xs.length=n*k)(d:n<=cap)(e:cap<=9223372036854775807)(g:∀o,M b o=xs[o]?):Rd M (.slice (aa ⟨b,0,af⟩) n cap) (.sl ae k n (rA k xs)):=by refine Rd.pH (M:=M) (k:=k) (n:=n) (es:=rA k xs) (vs:=xs) (a:=aa ⟨b,0,af⟩) (b:=b) (off:=0) (cap:=cap) (t:=ae) ⟨hl,λi hi=>zN hl hi,λi hi j c hj=>?_⟩ (λ_=>rfl) d e (by simp) (λp u h=>by grind);obtain⟨u,h1,rfl⟩:=zO hj;exact⟨u,h1,.val (f u (bD h1))⟩
section
variable {X:Cx P}
def iv.Du{f:Nat}{bf:s9}{xs:List aj}(hl:σ[f]?=aa (.cp (iv E k bf n xs)))(es:Nat->List C)(w:∀i,i<n->(es i).length=k/\∀M j c x,(es i)[j]?=aa c->xs[i*k+j]?=aa x->Rd M x c):gY σ f (rz bf n) k n es:=by
 intro s hh;have I:f<σ.length:=(b8.1 hl).1;have q:f<s.β.length:=by rw[hh.len];grind
 have z:=bd q;generalize s.β[f]=L at z;obtain⟨ch,B,d,A,e⟩:=hh.box f _ L hl z;cases bf with
 |nil a0 =>
  obtain⟨_,_,_,rfl,_⟩:=B;exact⟨L,s.M,z,λ_ _ _ h=>h,λ_ _ _=>rfl,hh.mem,e,Rd.iV⟩
 |row b cap =>
  obtain⟨S,N,m,J⟩:=B.lookup;obtain⟨O,G,r,y,F,_⟩:=B;have H:b∈L.bs:=(A b).2 (by grind)
  have l:=d b _ m;obtain⟨c1,c2⟩:=hh.yc (b:=b) (vs:=xs) (e b H) (λo v R=>by
   simp only[aU,l]
   grind)
  refine⟨L,λD o=>if D=b then xs[o]? else s.M D o,z,c2,λD K o=>bh (by grind),c1.mem,e,?_⟩;refine Rd.pH (k:=k) (n:=n) (es:=es) (vs:=xs) (a:=aa ⟨b,0,af⟩) (b:=b) (off:=0) (cap:=cap) (t:=ae) ⟨r,λi hi=>(w i hi).1,λi hi j c hj=>?_⟩ (λ_=>rfl) y F (by simp) (λp u T=>by grind);have Q:j<k:=by grind
  have g:i*k+j<xs.length:=by
   rw[r];have:i*k+k<=n*k:=by rw[<-j8];exact dY _ hi
   omega
  exact⟨xs[i*k+j],bd g,(w i hi).2 _ j c _ hj (bd g)⟩
def jk.pM(h:kQ P o x y E ie)(hs:ie.size=k){bf:s9}{xs:List aj}(hx:bH φ x=.e (.one (.v (rz bf n))))(hl:σ[l]?=aa (.cp (iv E k bf n xs))){tx:Bool}{es':Nat->List C}(hy:bH φ y=.e (.one (.c (.sl tx k 1 es')))){xv:List aj}(hxv:xv.length=k)(hcx:∀(M:Mem) (v:aj) (j:Nat) (c:C),(es' 0)[j]?=aa c->Rd M v c->xv[j]?=aa v/\cO v=ab)(hb:(n+1)*ie.bytes<=140737488355328):
  jk P N o φ σ (λJ:s9=>.e (.one (.v (rz J (n+1))))) λJ=>σ.set l (.cp (iv E k J (n+1) (xs++xv))):=by
 intro s a hf hh;obtain⟨t,t2,i,i2,ho,hi,G,B,F⟩:=h.op;have N3:l<σ.length:=(b8.1 hl).1;have Z:l<s.β.length:=by rw[hh.len];grind
 have hL:=bd Z;generalize s.β[l]=L at hL;obtain⟨ch,V,T,QZ,Um⟩:=hh.box l _ L hl hL;have S:=bD hL;have R:=dJ hf x;rw[hx]at R;have R:=Rd.eW R;have hw:=dJ hf y;rw[hy]at hw;have hw:=fp hw;have K:=V.2.1;have O:=V.2.2.1;have nM:∀b,s.w.heap.size<=b->∀o,s.M b o=af:=λb hb o=>by
  cases hm:s.M b o with
  |none=>rfl
  |some v=>have:=hh.block hm;omega
 have mk:∀(M':Mem) (a0:Option Addr) (cap:Nat),rz bf n=.slice a0 n cap->cap<n+1->aD (σ.map λ_=>.dead) {s with M:=M'}->(∀f o v,s.M f o=aa v->M' f o=aa v) ->
   Rd M' (.slice a0 n cap) (.sl ae k n (rA k xs))->(∀{es},ee {s with M:=M'} es->ee s es) ->
   ∃i nx s' v,(aq a.eval o).run P s.w=.ok nx s'.w/\(nx=.value v∨(nx=.skip/\v=ah))/\dc (σ.set l (.cp (iv E k i (n+1) (xs++xv)))) s' v (.e (.one (.v (rz i (n+1)))))/\aD (σ.set l (.cp (iv E k i (n+1) (xs++xv)))) s'/\Step σ s (σ.set l (.cp (iv E k i (n+1) (xs++xv)))) s'/\ee s ((aq a.eval o).events P s.w #[]):=by
  intro M' a0 cap Yf BQ Kn Yg hR TH;have H:Rd ({s with M:=M'}:St).M (a.eval y) (.sl tx ie.size 1 es'):=by rw[hs];exact hw.mono Yg
  have Ws:Rd ({s with M:=M'}:St).M (.slice a0 n cap) (.sl ae ie.size n (rA k xs)):=by grind
  obtain⟨vs,g,z,A,f2,f3,f4,f5⟩:=gX (P:=P) (s:={s with M:=M'}) (ty:=o.type) hi G B F h.elem Kn Ws H BQ hb h.bytes;have f6:=ir (P:=P) (s:={s with M:=M'}) (ty:=o.type) hi G B F h.elem Kn Ws H BQ hb h.bytes;rw[hs]at A f4;have M3:vs.length=(n+1)*k:=A.len;have BK:xs.length+k=(n+1)*k:=by grind
  have Yh:0<k:=by have:=h.size;omega
  have QF:∀j,j<k->∃v,vs[n*k+j]?=aa v/\xv[j]?=aa v/\cO v=ab:=λj hj=>by
   have N8:=A.width n (by omega);have Yi:cD n (rA k xs) es' n=es' 0:=by simp[cD]
   rw[Yi]at N8;obtain⟨v,v1,v2⟩:=A.rd n (by omega) j ((es' 0)[j]'(by omega)) (by grind);grind
  have M5:vs=xs++xv:=by
   apply gR;intro q;by_cases e:q<xs.length
   .have hi:q / k<n:=rv (by grind);have hqk:q / k*k+q % k=q:=oz q k;have Yj:=zN (k:=k) O hi;have hap:cD n (rA k xs) es' (q / k)=rA k xs (q / k):=by simp[cD,hi]
    have Yk:q % k<(rA k xs (q / k)).length:=by rw[Yj];exact jy _ Yh
    obtain⟨v,v1,v2⟩:=A.rd (q / k) (by omega) (q % k) ((rA k xs (q / k))[q % k]) (by grind);obtain⟨u,u1,u2⟩:=zO (bd Yk);grind[Rd.eW]
   grind
  subst M5;have Un:∀x∈xv,cO x=ab:=λx hx=>by grind[List.getElem_of_mem]
  let w':aA:=s.w.drew.alloc (.cells (xs++xv++g).toArray E);have N9:w'.heap[s.w.heap.size]?=aa (.cells (xs++xv++g).toArray E (0,0)):=dt s.w.drew _;have KB:w'.heap.size=s.w.heap.size+1:=by show(s.w.drew.heap.push _).size=_;simp
  obtain⟨t1,U⟩:=hh.jh (l:=l) (H':=iv E k (.row s.w.heap.size z) (n+1) (xs++xv)) (L':=⟨L.v,[s.w.heap.size]⟩) (w':=w') hl hL rfl (by omega)
   (λb hb _=>cC s.w.drew _ hb) (λb hb=>by grind)
   ⟨λf=>if f=s.w.heap.size then aa (.cells (xs++xv++g).toArray E (0,0))else af,⟨V.1,λx hx=>by
    grind,by grind,f2,f3,g,by rw[f4],rfl⟩,λb o hb=>by grind,λb=>by by_cases e:b=s.w.heap.size<;>simp[e]⟩ rfl rfl rfl
  refine⟨.row s.w.heap.size z,.value (.slice (aa ⟨s.w.heap.size,0,af⟩) (n+1) z),_,_,?_,.inl rfl,Rd.val rfl,t1,U,?_⟩
  .rw[cW ho,R,Yf];simp only[bL,cK];have Yl:(Builtin.append_ #[t,t2] o.type #[.slice a0 n cap,a.eval y]).run P s.w=_:=f5;rw[Yl];rfl
  grind[cW,dX]
 cases bf with
 |nil a0 =>
  obtain⟨_,_,_,rfl,_⟩:=V;refine mk s.M a0 0 rfl (by simp) (by have:=hh.kz;exact⟨this.mem,this.len,this.box,this.eH,this.lt,this.own⟩) (λ_ _ _ h=>h) Rd.iV (λh=>h)
 |row b cap =>
  obtain⟨g,Uo,Y,Rb⟩:=V.lookup;obtain⟨N4,_,_,BQ,Ky,_⟩:=V;have D:b∈L.bs:=(QZ b).2 (by grind);have p:=T b _ Y;have W:=Um b D;have Up:b<s.w.heap.size:=hh.lt L S b D;have MZ:∀o v,xs[o]?=aa v->s.w.cell? ⟨b,o,af⟩=aa v:=by intro o v ho;simp only[aU,p];grind
  obtain⟨c1,c2⟩:=hh.yc (b:=b) (vs:=xs) W MZ;have TH:∀{es:Array Event},ee {s with M:=λf o=>if f=b then xs[o]? else s.M f o} es->ee s es:=λhe =>
   he.tZ (b:=b) S D c2 λf o v R=>by grind
  have hR:=Rd.Ra (M:=λf o=>if f=b then xs[o]? else s.M f o) (b:=b) (cap:=cap) (xs:=xs) K O BQ Ky (λo=>by simp);by_cases m:n+1<=cap
  .have H:Rd ({s with M:=λf o=>if f=b then xs[o]? else s.M f o}:St).M (a.eval y) (.sl tx ie.size 1 es'):=by rw[hs];exact hw.mono c2
   obtain⟨d,A,f2⟩:=jz (P:=P) (s:={s with M:=λf o=>if f=b then xs[o]? else s.M f o}) (ty:=o.type) (n:=n) (b:=b) (cap:=cap) hi G B F h.elem c1 p (by grind) H m;have f6:=kR (P:=P) (s:=s) (ty:=o.type) (n:=n) (b:=b) (cap:=cap) hi G B F h.elem hh p (by grind) (x:=a.eval y) (tx:=tx) (es':=es') (by grind) m S D (λo _=>W o);rw[hs]at A f2;have QE:d.length=k:=by have:=A.len;omega
   have Ym:=A.width 0 (by omega);have QF:∀j,j<k->∃v,d[j]?=aa v/\xv[j]?=aa v/\cO v=ab:=λj hj=>by obtain⟨v,v1,v2⟩:=A.rd 0 (by omega) j ((es' 0)[j]'(by omega)) (bd (by omega));grind
   have Q:d=xv:=by apply gR;grind
   subst Q;have Un:∀x∈d,cO x=ab:=λx hx=>by grind[List.getElem_of_mem]
   have hfk:n*k+k<=cap*k:=by rw[<-j8];exact dY _ m
   have hzk:k<=g.length:=by grind
   have I:((xs++g).take (n*k)++d++(xs++g).drop (n*k+d.length))=xs++d++g.drop k:=by rw[<-O,QE];simp[List.drop_append]
   rw[I]at f2;have N0:(s.w.setRow b (xs++d++g.drop k).toArray).heap[b]?=aa (.cells (xs++d++g.drop k).toArray E (0,0)):=setRow_heap s.w b _ _ E _ p;have BR:∀f,f≠b->(s.w.setRow b (xs++d++g.drop k).toArray).heap[f]?=s.w.heap[f]?:=λf r=>setRow_other s.w b f _ r;obtain⟨t1,U⟩:=hh.jh (l:=l) (H':=iv E k (.row b cap) (n+1) (xs++d)) (L':=L) (w':=s.w.setRow b (xs++d++g.drop k).toArray) hl hL rfl (by simp)
    (λf r hn=>BR f (by grind)) (λf r=>.inl r)
    ⟨λf=>if f=b then aa (.cells (xs++d++g.drop k).toArray E (0,0))else af,⟨N4,λx hx=>by
     grind,by grind,m,Ky,g.drop k,by grind,rfl⟩,λf o r=>by
     grind,λf=>by grind⟩ rfl rfl rfl
   refine⟨.row b cap,.value (.slice (aa ⟨b,0,af⟩) (n+1) cap),_,_,?_,.inl rfl,Rd.val rfl,t1,U,?_⟩
   .rw[cW ho,R];simp only[bL,cK,rz];have Yn:(Builtin.append_ #[t,t2] o.type #[.slice (aa ⟨b,0,af⟩) n cap,a.eval y]).run P s.w=_:=f2;rw[Yn];rfl
   .rw[cW ho,R];exact dX f6
  .exact mk _ (aa ⟨b,0,af⟩) cap rfl (by omega) c1 c2 hR TH
def AK.pM(h:kQ P o x y E ie)(m:ie.size=k){d:Nat}(r:o.dst=aa d)(i:o.guard=af)(p:fD N o.dst=ab){bf:s9}{xs:List aj}(q:bH φ x=.e (.one (.v (rz bf n))))(hl:σ[l]?=aa (.cp (iv E k bf n xs))){tx:Bool}{es':Nat->List C}(g:bH φ y=.e (.one (.c (.sl tx k 1 es')))){xv:List aj}(b:xv.length=k)(f:∀(M:Mem) (v:aj) (j:Nat) (c:C),(es' 0)[j]?=aa c->Rd M v c->xv[j]?=aa v/\cO v=ab)(hb:(n+1)*ie.bytes<=140737488355328)(kk:∀a:s9,AK X N Qf (.ops all rest::K) .normal ((d,.e (.one (.v (rz a (n+1)))))::φ) (σ.set l (.cp (iv E k a (n+1) (xs++xv))))):AK X N Qf (.ops all (o::rest)::K) .normal φ σ :=
 AK.hand (ι:=s9) (λa=>.e (.one (.v (rz a (n+1))))) (λa=>σ.set l (.cp (iv E k a (n+1) (xs++xv)))) i p (.pM h m q hl g b f hb) λa=>by rw[r];exact kk a
def AK.KM(t:Nat)(E:ay)(k:Nat){l:Nat}(h:look φ t=.e (.one (.c (.sl ab l 0 es))))(kk:∀bf:s9,AK X N Qf (.code c::K) .normal ((t,.e (.one (.v (rz bf 0))))::φ) (σ++[.cp (iv E k bf 0 [])])):AK X N Qf (.code c::K) .normal φ σ:=by
 refine AW.BO (λs a d hh=>?_) kk;have g:=d.slot t;rw[h]at g;obtain⟨a0,cap,vs,i,_,_,b,_,_⟩:=(fp g).flat;have b:=b rfl;subst b;obtain⟨j,f⟩:=hh.gC (B:=.cp (iv E k (.nil a0) 0 [])) (L:=⟨.nilFunc,[]⟩) (.refl _ _) rfl hh ⟨λ_=>af,⟨rfl,by simp,by simp,rfl,rfl⟩,by simp,by simp,by simp⟩ (by simp);refine⟨.nil a0,{s with β:=s.β++[⟨.nilFunc,[]⟩]},rfl,⟨d.size,d.defers.imp λ_ h1=>h1.mono f.ext,λu=>?_⟩,j,f⟩;simp only[look];cases hb:av t u with
 |false=>exact(d.slot u).mono f.ext hh.len
 |true =>
  have e:=bT hb;subst e;show Rd _ _ _;rw[i];exact Rd.val rfl
def AK.ue(t l:Nat){bf:s9}{xs:List aj}(es:Nat->List C)(w:look φ t=.e (.one (.v (rz bf n))))(hl:σ[l]?=aa (.cp (iv E k bf n xs)))(g:∀i,i<n->(es i).length=k/\∀M j c x,(es i)[j]?=aa c->xs[i*k+j]?=aa x->Rd M x c)(kk:AK X N Qf (.code c::K) .normal ((t,.e (.one (.c (.sl ae k n es))))::φ) (σ.set l .dead)):AK X N Qf (.code c::K) .normal φ σ:=by
 refine AK.ghost (λs a f hh=>?_) kk;obtain⟨L,M',r,p,m,z,F,G⟩:=iv.Du hl es g s hh;have d:l<σ.length:=(b8.1 hl).1;have q:=f.slot t;rw[w]at q;have D:=Rd.eW q;have ex:Ext σ s (σ.set l .dead) {s with M:=M'}:=by
  refine⟨p,λl' B L' lz fC=>?_⟩;by_cases e:l=l'
  .subst e;rw[hl]at lz;cases lz;exact⟨.dead,L',by grind,fC,rfl⟩
  .exact⟨B,L',by grind,fC,.refl _ _⟩
 have st:Step σ s (σ.set l .dead) {s with M:=M'}:=by refine⟨aZ _,λ_ _ _=>rfl,p,λb _ y o=>m b (y L (bD r)) o,λL h b hb=>.inr ⟨L,h,hb⟩,ex.box,rfl,rfl,rfl,rfl⟩
 refine⟨{s with M:=M'},rfl,⟨f.size,f.defers.imp λ_ h1=>h1.mono st.ext,λu=>?_⟩,⟨z,by simp[hh.len],?_,hh.eH,hh.lt,hh.own⟩,st⟩
 .simp only[look];cases hb:av t u with
  |false=>exact(f.slot u).mono st.ext hh.len
  |true =>
   have e:=bT hb;subst e;show Rd _ _ _;grind
 .intro l' B L' lz fC;by_cases e:l=l'
  .subst e;rw[fJ d]at lz;cases lz;trivial
  .rw[j5 e]at lz;exact(hh.box l' B L' lz fC).carry ex hh.len λb hb=>⟨rfl,m b λA=>e (hh.eH l l' L L' r fC b A hb)⟩
end
structure gZ(k n:Nat)(es:Nat->List C)(xs:List aj):Prop where
 len:xs.length=n*k
 wid:∀i,i<n->(es i).length=k
 at':∀i,i<n->∀j c,(es i)[j]?=aa c->∃x,xs[i*k+j]?=aa x/\∀M,Rd M x c
def gZ.rd{xs:List aj}(h:gZ k n es xs):∀i,i<n->(es i).length=k/\∀M j c x,(es i)[j]?=aa c->xs[i*k+j]?=aa x->Rd M x c:=λi hi =>
 ⟨h.wid i hi,λM j c x hj hx=>by obtain⟨y,h1,h2⟩:=h.at' i hi j c hj;grind⟩
def Nt(v:aj):A->A
 |.vec 0 _ _ _=>.v v
 |a=>a
def HV(v:aj):E1->E1
 |.one a=>.one (Nt v a)
 |e=>e
def Ck(v:aj):List E1->List E1
 |[]=>[]
 |a::r=>HV v a::Ck v r
def Nu(v:aj):D->D
 |.e x=>.e (HV v x)
 |.fe xs=>.fe (Ck v xs)
 |.any=>.any
def lH(n:Nat):A->Bool
 |.vec 0 _ b _=>av b n
 |a=>ud a
def o0(n:Nat):E1->Bool
 |.one a=>lH n a
 |e=>GM e
def oc(n:Nat):List E1->Bool
 |[]=>ab
 |a::r=>match o0 n a with|true=>oc n r|false=>ae
def tM(n:Nat):D->Bool
 |.e x=>o0 n x
 |.fe xs=>oc n xs
 |.any=>ab
section
variable {L:Loc}
def HW(g:s.β[0]?=aa L){a:A}(h:lH n a=ab)(r:fU [ba.vec E k n es] s v a):fU σ' s' v (Nt L.v a):=by
 cases a with
 |c x=>exact oL h r
 |any=>exact r
 |vec l k' n' es' =>
  cases l with
  |zero =>
   obtain⟨i,_,b⟩:=r;have b:=b E k n es rfl;have e:=bT h;obtain⟨L',f,d⟩:=b.2 e.symm;rw[g]at f;cases f;show Rd _ _ _;rw[d];exact .val (d▸i.cell)
  |succ l=>simp[lH,ud]at h
 |ptr=>simp[lH,ud]at h
 |ref=>simp[lH,ud]at h
 |bp=>simp[lH,ud]at h
def Au(b:s.β[0]?=aa L){x:E1}(h:o0 n x=ab)(r:mE [ba.vec E k n es] s v x):mE σ' s' v (HV L.v x):=by
 cases x with
 |one a=>exact HW b h r
 |agg cs=>exact yi (x:=.agg cs) h r
def xi(a:s.β[0]?=aa L):∀{vs:List aj}{cs:List E1},oc n cs=ab->gn [ba.vec E k n es] s vs cs->gn σ' s' vs (Ck L.v cs)
 |[],[],_,_=>trivial
 |[],_::_,_,r=>r.elim
 |_::_,[],_,r=>r.elim
 |v::vs,c::cs,h,r=>by
  simp only[oc]at h;cases b:o0 n c with
  |false=>grind
  |true=>simp only[b]at h;exact⟨Au a b r.1,xi a h r.2⟩
def Av(a:s.β[0]?=aa L){d:D}(h:tM n d=ab)(r:dc [ba.vec E k n es] s v d):dc σ' s' v (Nu L.v d):=by
 cases d with
 |e x=>exact Au a h r
 |fe xs=>obtain⟨vs,b,c⟩:=r;exact⟨vs,b,xi a h c⟩
 |any=>trivial
end
def tN:List ResultVar->Bool
 |[]=>ab
 |.tmp _::r=>tN r
 |.cell _ _::_=>ae
def sJ{P:aK}{a:Act}:∀{rs:List ResultVar},tN rs=ab->∃vs,(∀w,(rs.mapM (fz a)).run P w=Result.ok vs w)/\cN P (rs.mapM (fz a))
 |[],_=>⟨[],by simp,by rw[List.mapM_nil];exact .pure⟩
 |.tmp t::r,h=>by
  obtain⟨vs,c,b⟩:=sJ (P:=P) (a:=a) (rs:=r) h;refine⟨a.tmps.getD t ah::vs,λw=>?_,?_⟩
  .simp only[mI,bL,fz,cK,b6,c]
  .rw[mI];exact .bind .pure λ_=>.bind b λ_=>.pure
def sY.tmp{f:aP}{fn:Func}{fr:Frame}(h:sY P f fr v s)(q:P.funcs[f]?=aa fn)(g:tN fn.results.toList=ab)(m:∀b o u,s.M b o=aa u->s.w.cell? ⟨b,o,af⟩=aa u):sY P f fr v s':=by
 obtain⟨h1,h2,l,k,c,i,n⟩:=h;have e:c=fn:=by grind
 subst e;let a:Act:={tmps:=fr.tmps,defers:=[]}
 obtain⟨vs,k1,p⟩:=sJ (P:=P) (a:=a) g;have e1:∀w,(c.results.mapM (fz a)).run P w=Result.ok vs.toArray w:=λw=>by grind[Array.mapM_eq_mapM_toList,Sem.run_map,Go.Result.andThen_ok]
 have e2:∀w,(results c fr.tmps).run P w=.ok (if h:vs.toArray.size=1 then vs.toArray[0]else .tuple vs.toArray) w:=λw=>by unfold results;rw[bL];refine(dm (λr=>Result.andThen r _) (e1 w)).trans ?_;simp
 have e3:cN P (results c fr.tmps):=by
  unfold results;have e:cN P (c.results.mapM (fz a)):=by rw[pC];exact .map p
  exact .bind e λ_=>.pure
 have d:=(n s.w m).1;rw[e2]at d;cases d;exact⟨h1,h2,l,k,c,i,λw _=>⟨e2 w,λe j=>by rw[e3 w #[]]at j;grind⟩⟩
def Ev.thaw{X:Cx P}[X.gY]{f:aP}{args:List D}{res:D}(h:Ev X f args [] res [.vec E k n es]){fn:Func}(hf:P.funcs[f]?=aa fn)(ht:tN fn.results.toList=ab)(J:tM n res=ab)(Q:∀i,i<n->(es i).length=k/\∀c∈es i,s8 c=ab):
  dK (ι:={q:s9×List aj // gZ k n es q.2}) X f args [] (λq=>Nu (rz q.1.1 n) res) (λq=>[.cp (iv E k q.1.1 n q.1.2)]):=by
 refine⟨h.1,λs vs hr hh S cs hS=>h.2 s vs hr hh S cs λfr v s' hl l5 iQ st=>?_⟩;have ZR:s.β=[]:=jo hh.len;have hlen:s'.β.length=1:=iQ.len;obtain⟨L,O⟩:∃L,s'.β=[L]:=by
  match hq:s'.β with
  |[L]=>grind
  |[]=>grind
  |_::_::_=>grind
 have hL:s'.β[0]?=aa L:=by grind
 obtain⟨WH,Z⟩:=iQ.box 0 _ L rfl hL;rcases Z with⟨⟨QZ,Uh⟩,y⟩|⟨b,cap,cells,Rj,C,BK,DG⟩
 .subst Uh;obtain⟨a,cap,ZK,hv,BQ,Ky,ZS,_⟩:=y.flat;have A:cap=0:=ZS rfl;subst A;let z:St:={s' with β:=[⟨.nilFunc,[]⟩]}
  have hg:ey s' z:=⟨rfl,λ_ _ _ h=>h,λ_ _ _=>rfl,iQ.mem,λb hb=>by grind⟩
  have t:gZ k 0 es []:=⟨by simp,λi hi=>by omega,λi hi=>by omega⟩
  refine .ghost hg (hS ⟨(.nil a,[]),t⟩ fr v z (hl.tmp hf ht iQ.mem) ?_ ?_ ?_)
  .have:=Av (σ':=[ba.cp (iv E k (.nil a) 0 [])]) (s':=z) hL J l5;rw[hv]at this;exact this
  .refine⟨iQ.mem,rfl,λl B L' hB fC=>?_,?_,by grind,λb hb=>⟨(iQ.own b hb).1,by grind⟩⟩
   .cases l with
    |zero=>cases hB;cases fC;exact⟨λ_=>af,⟨rfl,by simp,by simp,rfl,rfl⟩,by simp,by simp,by simp⟩
    |succ l=>grind
   grind
  .refine⟨st.size,st.keep,st.mem,st.iq,λL' fC b hb=>?_,λl B L' hB=>by grind,st.os,st.tape,st.output,st.own⟩;grind
 .subst Rj;have R:b∈(⟨.slice (aa ⟨b,0,af⟩) n cap,[b]⟩:Loc).bs:=by simp
  have V:s.w.heap.size<=b:=by
   rcases st.tB _ (by grind) b R with h1|⟨L0,h1,_⟩
   .exact h1
   grind
  have Up:b<s'.w.heap.size:=iQ.lt _ (by grind) b R;obtain⟨a1,ZT,m,W,r,N,_,hF,hm⟩:=WH.flat;cases W;have I:m.length=n*k:=hF.len;have ZU:∀p u,m[p]?=aa u->cells[p]?=aa u:=λp u hp=>by obtain⟨b1,ZV,e,Vx⟩:=hm p u hp;cases e;have:=iQ.mem _ _ _ Vx;simp only[aU,C]at this;simpa using this
  have hnk:n*k<=cells.length:=by rw[BK];exact dY _ r
  have No:cells.take (n*k)=m:=by apply gR;grind
  have N1:m++cells.drop (n*k)=cells:=by grind[List.take_append_drop]
  have t:gZ k n es m:=by refine⟨I,λi hi=>(Q i hi).1,λi hi j c hj=>?_⟩;obtain⟨u,T,u2⟩:=hF.rd i hi j c hj;grind[oL]
  have G:∀x∈m,cO x=ab:=λx hx=>by
   obtain⟨p,hp,rfl⟩:=dz hx;have hk:0<k:=by grind
   have hi:p / k<n:=rv (by grind);have U:p / k*k+p % k=p:=oz p k;have hj:p % k<(es (p / k)).length:=by rw[(Q _ hi).1];exact jy _ hk
   obtain⟨u,T,u2⟩:=t.at' _ hi _ _ (bd hj);rw[U,bd hp]at T;cases T;exact(u2 s.M).cell
  have H:∀d o v',s.M d o=aa v'->d≠b:=λd o v' hm' e=>by have:=hh.block hm';omega
  let K:Mem:=λd o=>if d=b then af else s'.M d o;let Y:St:={s' with β:=[],own:=λx=>s'.own x∨x=b}
  let s2:St:={Y with M:=K}
  let z:St:={s' with β:=[⟨.nilFunc,[b]⟩],M:=K}
  have F:∀d o v',K d o=aa v'->s'.M d o=aa v':=λd o v' h'=>by grind
  have Vq:ey s' Y:=⟨rfl,λ_ _ _ h=>h,λ_ _ _=>rfl,iQ.mem,λd g=>by
   rcases g with(g|g)|⟨L',fC,_⟩
   .grind
   .exact .inr ⟨_,by rw[O];simp;rfl,by grind⟩
   grind⟩
  have TO:lT Y s2:=⟨rfl,rfl,rfl,F,λd o v' h'=>by grind⟩
  have ZW:ey s2 z:=⟨rfl,λ_ _ _ h=>h,λ_ _ _=>rfl,λd o v' h'=>iQ.mem _ _ _ (F _ _ _ h'),λd g=>by grind⟩
  refine .ghost Vq (.forget Cx.gY.ok TO (.ghost ZW (hS ⟨(.row b cap,m),t⟩ fr v z (hl.tmp hf ht iQ.mem) ?_ ?_ ?_)))
  .exact Av (L:=⟨.slice (aa ⟨b,0,af⟩) n cap,[b]⟩) hL J l5
  .refine⟨λd o v' h'=>iQ.mem _ _ _ (F _ _ _ h'),rfl,λl B L' hB fC=>?_,?_,λL' fC d g=>?_,λd g=>⟨(iQ.own d g).1,λL' fC=>?_⟩⟩
   .cases l with
    |zero =>
     cases hB;cases fC;refine⟨λd=>if d=b then aa (.cells (m++cells.drop (n*k)).toArray E (0,0))else af,⟨rfl,G,I,r,N,cells.drop (n*k),?_,rfl⟩,λd o g=>?_,λd=>?_,λd g o=>?_⟩
     .grind
     .grind
     .by_cases e:d=b<;>simp[e]
     grind
    |succ l=>grind
   .grind
   .grind
   .simp[z]at fC;subst fC;have:=(iQ.own d g).2 _ (by rw[O];simp;rfl);grind
  .refine⟨st.size,st.keep,λd o v' h'=>?_,λd g hn o=>?_,λL' fC d g=>?_,λl B L' hB=>by grind,st.os,st.tape,st.output,st.own⟩
   .simp only[z,K,bh (H d o v' h')];exact st.mem _ _ _ h'
   .have:d≠b:=by omega
    simp only[z,K,bh this];exact st.iq d g hn o
   grind
section
variable {X:Cx P}
def AK.fact{p:Prop}(h:∀s,aD σ s->p)(k:p->AK X N Qf (.code c::K) .normal φ σ):AK X N Qf (.code c::K) .normal φ σ :=
 λs a b hh=>k (h s hh) s a b hh
def AK.M6{p:Prop}(h:∀s,aD σ s->p)(k:p->AK X N Qf (.ops all rest::K) .normal φ σ):AK X N Qf (.ops all rest::K) .normal φ σ :=
 λs a b hh=>k (h s hh) s a b hh
def iv.len{E:ay}{k n l:Nat}{bf:s9}{xs:List aj}(hl:σ[l]?=aa (.cp (iv E k bf n xs)))(s:St)(hh:aD σ s):xs.length=n*k/\n<=9223372036854775807/\(0<n->∃b cap,bf=.row b cap)/\∀a,bf=.nil a->n=0:=by
 have c:l<s.β.length:=by rw[hh.len];grind
 obtain⟨ch,e,_⟩:=hh.box l _ _ hl (bd c);cases bf with
 |nil a=>obtain⟨_,_,f,rfl,_⟩:=e;grind
 |row b cap=>obtain⟨_,_,f,h,g,_⟩:=e;grind
def pq:List A->Bool
 |[]=>ab
 |.c x::r=>match s8 x with|true=>pq r|false=>ae
 |_=>ae
def mN(vs:List aj)(cs:List A):Prop:=vs.length=cs.length/\∀(j:Nat)(c:C),cs[j]?=aa (A.c c)->∃v,vs[j]?=aa v/\∀M,Rd M v c
theorem mN.of{σ:List ba}{s:St}:∀{vs:List aj}{cs:List A},pq cs=ab->dH σ s vs cs->mN vs cs
 |[],[],_,_=>⟨rfl,λj c h=>by grind⟩
 |[],_::_,_,r=>r.elim
 |_::_,[],_,r=>r.elim
 |v::vs,.c x::cs,h,r=>by
  simp only[pq]at h;cases a:s8 x with
  |false=>grind
  |true =>
   simp only[a]at h;obtain⟨h1,h2⟩:=mN.of h r.2;refine⟨by grind,λj c hj=>?_⟩;cases j with
   |zero=>simp at hj;subst hj;exact⟨v,rfl,λM=>oL a r.1⟩
   |succ j=>grind
 |_::_,.ptr _ _::_,h,_=>by simp[pq]at h
 |_::_,.vec _ _ _ _::_,h,_=>by simp[pq]at h
 |_::_,.ref _::_,h,_=>by simp[pq]at h
 |_::_,.bp _ _::_,h,_=>by simp[pq]at h
 |_::_,.any::_,h,_=>by simp[pq]at h
theorem dH.cO{σ:List ba}{s:St}:∀{vs:List aj}{cs:List A},dH σ s vs cs->∀v∈vs,AM.cO v=ab
 |[],[],_,v,h=>by grind
 |[],_::_,r,_,_=>r.elim
 |_::_,[],r,_,_=>r.elim
 |u::vs,c::cs,r,v,h=>by
  rcases dD.1 h with rfl|h
  .exact fU.cell r.1
  .exact dH.cO r.2 v h
def jk.BS(hT:c6 P T)(l:Nat){cap:Nat}{xs:List aj}{new:List A}{i:TI}(h:o.op=.store t x y)(hi:bz T t=aa i)(hx:bH φ x=.e (.one (.v (.pointer (aa ⟨b,off,af⟩)))))(hy:kg (bH φ y)=aa new)(N9:new.length=i.size)(V:pq new=ab)(hl:σ[l]?=aa (.cp (iv E k (.row b cap) n xs)))(Rc:off+new.length<=xs.length):
  jk P N o φ σ (ι:={vs:List aj // mN vs new}) (λ_=>.any) (λvs=>σ.set l (.cp (iv E k (.row b cap) n (xs.take off++vs.1++xs.drop (off+vs.1.length))))):=by
 intro s a hf hh;have F:=dJ hf x;rw[hx]at F;have F:=Rd.eW F;have z:=kJ hy (dJ hf y);have N3:l<σ.length:=(b8.1 hl).1;have M:l<s.β.length:=by rw[hh.len];grind
 have S:=bd M;generalize s.β[l]=L at S;obtain⟨ch,hH,C,U,Um⟩:=hh.box l _ L hl S;obtain⟨f,Uo,K,Rb⟩:=iv.lookup hH;obtain⟨Y,Z,Yo,Q,W,_⟩:=hH;have O:b∈L.bs:=(U b).2 (by grind);have m:=C b _ K;let vs:=(a.eval y).cells.toList;have R:mN vs new:=mN.of V z;have M3:vs.length=new.length:=R.1;have q:off+0+vs.length<=(xs++f).toArray.size:=by grind
 have B:=run_storeCells_at P b off E vs 0 (xs++f).toArray s.w m q z.cell;simp only[gT]at B;have D:(xs++f).take off++vs++(xs++f).drop (off+vs.length)=(xs.take off++vs++xs.drop (off+vs.length))++f:=by grind
 rw[D]at B;have Yp:(xs.take off++vs++xs.drop (off+vs.length)).length=xs.length:=by grind
 have N0:=setRow_heap s.w b (xs++f).toArray ((xs.take off++vs++xs.drop (off+vs.length))++f).toArray E (0,0) m;have I:∀c,c≠b->(s.w.setRow b ((xs.take off++vs++xs.drop (off+vs.length))++f).toArray).heap[c]?=s.w.heap[c]?:=λc g=>setRow_other s.w b c _ g;obtain⟨t1,t2⟩:=hh.jh (l:=l) (H':=iv E k (.row b cap) n (xs.take off++vs++xs.drop (off+vs.length))) (L':=L) (w':=s.w.setRow b ((xs.take off++vs++xs.drop (off+vs.length))++f).toArray) hl S rfl (by simp)
  (λc g hn=>I c (by grind)) (λc g=>.inl g)
  ⟨λc=>if c=b then aa (.cells ((xs.take off++vs++xs.drop (off+vs.length))++f).toArray E (0,0))else af,⟨Y,λx hx=>by
   grind[dH.cO],by grind,Q,W,f,by grind,rfl⟩,λc o g=>by
   simp_all,λc=>by simp_all⟩ rfl rfl rfl
 have G:(a.eval y).cells.size=i.size:=by grind
 refine⟨⟨vs,R⟩,.skip,_,ah,?_,.inr ⟨rfl,rfl⟩,ar,t1,t2,?_⟩
 .have J:(storeCells ⟨b,off,af⟩ (a.eval y).cells.toList).run P s.w=_:=B;simp[aq,h,F,Instr.storeAt,Instr.sureAddr,storeVar,(hT t i hi).run_sizeOf,G,J]
 .intro ev p;have e:aq a.eval o=(do storeVar t ⟨b,off,af⟩ (a.eval y);pure .skip):=by simp[aq,h,F,Instr.storeAt,Instr.sureAddr]
  rw[e]at p;have H:ev∈(storeCells ⟨b,off,af⟩ (a.eval y).cells.toList).events P s.w #[]:=by
   simp only[storeVar,aJ,(hT t i hi).run_sizeOf,G,aO,events_sizeOf,dn,eN,bJ,bL,b6,Sem.events_pure]at p;generalize(storeCells ⟨b,off,af⟩ (a.eval y).cells.toList).run P s.w=r at p;cases r with
   |ok v w'=>simpa using p
   |halt x w'=>simpa using p
  rcases dW (a.eval y).cells.toList 0 (xs++f).toArray s.w #[] m q z.cell ev H with Kn|⟨j,_,_,rfl⟩
  .grind
  .exact ky (bD S) O (Um b O _)
def AK.BS{T:List (Nat×TI)}(m:c6 P T)(l:Nat){t:ay}{x y:aC}{E:ay}{k n b cap off:Nat}{xs:List aj}{new:List A}{i:TI}(h:o.op=.store t x y)(hi:bz T t=aa i)(q:bH φ x=.e (.one (.v (.pointer (aa ⟨b,off,af⟩)))))(g:kg (bH φ y)=aa new)(a:new.length=i.size)(f:pq new=ab)(hl:σ[l]?=aa (.cp (iv E k (.row b cap) n xs)))(c:off+new.length<=xs.length)(j:o.guard=af)(p:fD N o.dst=ab)(kk:∀vs,mN vs new->AK X N Qf (.ops all rest::K) .normal (kV o.dst .any φ) (σ.set l (.cp (iv E k (.row b cap) n (xs.take off++vs++xs.drop (off+vs.length)))))):AK X N Qf (.ops all (o::rest)::K) .normal φ σ :=
 AK.hand _ _ j p (jk.BS m l h hi q g a f hl c) λvs=>kk vs.1 vs.2
def AK.swap(i j:Nat){H1 H2:aj->(Nat->Option Obj)->Prop}(G:i≠j)(hi:σ[i]?=aa (.cp H1))(hj:σ[j]?=aa (.cp H2))(h1:∀v ch,H1 v ch->v=.nilFunc)(h2:∀v ch,H2 v ch->v=.nilFunc)(kk:AK X N Qf (.code c::K) .normal φ ((σ.set i (.cp H2)).set j (.cp H1))):AK X N Qf (.code c::K) .normal φ σ:=by
 refine AK.ghost (λs a z hh=>?_) kk;have D:i<σ.length:=(b8.1 hi).1;have C:j<σ.length:=(b8.1 hj).1;have w:i<s.β.length:=by rw[hh.len];grind
 have p:j<s.β.length:=by rw[hh.len];grind
 obtain⟨n,o⟩:∃L,s.β[i]?=aa L:=⟨_,bd w⟩;obtain⟨k,r⟩:∃L,s.β[j]?=aa L:=⟨_,bd p⟩;have E:=hh.box i _ n hi o;have A:=hh.box j _ k hj r;have J:n.v=.nilFunc:=by obtain⟨ch,F,_⟩:=E;grind
 have I:k.v=.nilFunc:=by obtain⟨ch,F,_⟩:=A;grind
 let s':St:={s with β:=(s.β.set i k).set j n}
 have t:∀l,((σ.set i (.cp H2)).set j (.cp H1))[l]?=if l=j then aa (.cp H1)else if l=i then aa (.cp H2)else σ[l]?:=λl=>by grind
 have m:∀l,s'.β[l]?=if l=j then aa n else if l=i then aa k else s.β[l]?:=λl=>by grind
 have y:∀L∈s'.β,L∈s.β:=λL f=>by grind
 have ex:Ext σ s ((σ.set i (.cp H2)).set j (.cp H1)) s':=by
  refine⟨λ_ _ _ h=>h,λl B L g f=>?_⟩;rw[t,m];by_cases e:l=j
  .subst e;rw[hj]at g;cases g;rw[r]at f;cases f;exact⟨.cp H1,n,by simp,by simp,by show n.v=_;grind⟩
  .by_cases x:l=i
   .subst x;rw[hi]at g;cases g;rw[o]at f;cases f;exact⟨.cp H2,k,by simp[e],by simp[e],by show k.v=_;grind⟩
   .exact⟨B,L,by grind,by grind,.refl _ _⟩
 have st:Step σ s ((σ.set i (.cp H2)).set j (.cp H1)) s':=by exact⟨aZ _,λ_ _ _=>rfl,λ_ _ _ h=>h,λ_ _ _ _=>rfl,λL h b hb=>.inr ⟨L,y L h,hb⟩,ex.box,rfl,rfl,rfl,rfl⟩
 refine⟨s',rfl,⟨z.size,z.defers.imp λ_ h1=>h1.mono ex,λu=>(z.slot u).mono ex hh.len⟩,⟨hh.mem,by simp[s',hh.len],?_,?_,λL f b hb=>hh.lt L (y L f) b hb,λb hb=>⟨(hh.own b hb).1,λL f=>(hh.own b hb).2 L (y L f)⟩⟩,st⟩
 .intro l B L g f;rw[t]at g;rw[m]at f;split at g
  .rename_i e;rw[bt e]at f;cases g;cases f;exact E
  .rename_i e;rw[bh e]at f;split at g
   .rename_i x;rw[bt x]at f;cases g;cases f;exact A
   .rename_i x;rw[bh x]at f;exact(hh.box l B L g f).carry ex hh.len λb hb=>⟨rfl,λ_=>rfl⟩
 .intro l l' L1 L2 q1 q2 b hb oH;rw[m]at q1 q2;have key:∀l L,(if l=j then aa n else if l=i then aa k else s.β[l]?)=aa L->s.β[if l=j then i else if l=i then j else l]?=aa L:=λl L q=>by grind
  have:=hh.eH _ _ L1 L2 (key l L1 q1) (key l' L2 q2) b hb oH;by_cases e1:l=j<;>by_cases e2:l'=j<;>by_cases e3:l=i<;>by_cases H:l'=i<;>simp_all
def AK.GO(R:c6 P T){i:TI}{I Q:IntKind}(h:o.op=.makeSlice t x y)(hi:bz T t=aa i)(hd:i.desc=.slice E)(hE:bz T E=aa ie)(hx:bH φ x=.e (.one (.c (.int I n))))(hy:bH φ y=.e (.one (.c (.int Q n))))(hb:n*ie.bytes<=140737488355328)(V:n<=140737488355328)(hg:o.guard=af)(hN:fD N o.dst=ab)(kk:∀b xs,AK X N Qf (.ops all rest::K) .normal (kV o.dst (.e (.one (.v (rz (.row b n) n)))) φ) (σ++[.cp (iv E ie.size (.row b n) n xs)])):AK X N Qf (.ops all (o::rest)::K) .normal φ σ:=by
 refine AK.hand (ι:=Nat×List aj) (λq=>.e (.one (.v (rz (.row q.1 n) n)))) (λq=>σ++[.cp (iv E ie.size (.row q.1 n) n q.2)]) hg hN (λs a W hh=>?_) λq=>kk q.1 q.2;have k:=dJ W x;rw[hx]at k;have k:=fp k;generalize B:a.eval x=vx at k;cases k;have l:=dJ W y;rw[hy]at l;have l:=fp l;generalize A:a.eval y=vy at l;cases l;have j:=(R t i hi).QG;rw[hd]at j;obtain⟨g,z,D,z2,z3,U,S,z6,z7⟩:=(R E ie hE).info;have f:(g.bytes:Int)*(n:Int)<=281474976710656:=by grind
 have m:=run_make (P:=P) (w:=s.w) t E g z j D U I Q n n (by omega) (Int.le_refl _) f (by omega);simp only[bF]at m;let xs:=(madeCells z.cells (n*g.size)).toList;have O:xs.length=n*ie.size:=by grind[size_madeCells]
 have Yq:∀v∈z.cells.toList,cO v=ab:=dH.cO (jR (σ:=σ) (s:=s) S);have Uo:z.cells.toList.length=ie.size:=by have:=dm List.length S;grind
 have H:∀v∈xs,cO v=ab:=by intro v Y;simp only[xs,madeCells,Array.toList_map,ku]at Y;grind[Nat.mod_lt]
 have hB:eG (σ++[.cp (iv E ie.size (.row s.w.heap.size n) n xs)]) {s with w:=s.w.alloc (.cells xs.toArray E),β:=s.β++[⟨.nilFunc,[s.w.heap.size]⟩]} (.cp (iv E ie.size (.row s.w.heap.size n) n xs)) ⟨.nilFunc,[s.w.heap.size]⟩:=by
  refine⟨λr=>if r=s.w.heap.size then aa (.cells (xs++[]).toArray E (0,0))else af,⟨rfl,H,O,aZ _,by omega,[],by grind,rfl⟩,λr o f=>?_,λr=>?_,λr f o=>?_⟩
  .by_cases e:r=s.w.heap.size
   .subst e;simp only[bZ]at f;grind[dt]
   grind
  .by_cases e:r=s.w.heap.size<;>simp[e]
  .simp at f;subst f;cases G:s.M s.w.heap.size o with
   |none=>rfl
   |some v=>have:=hh.block G;omega
 have C:aD σ {s with w:=s.w.alloc (.cells xs.toArray E)}/\Step σ s σ {s with w:=s.w.alloc (.cells xs.toArray E)} :=
  hh.grow (by simp) (λb hb=>cC s.w _ hb) (λb hb o=>rfl) (λb hb o v G=>by have:=hh.block G;omega) rfl rfl rfl
 obtain⟨g1,g2⟩:=C.1.gC C.2 rfl hh hB (λb hb=>by simp_all)
 refine⟨(s.w.heap.size,xs),.value (.slice (aa ⟨s.w.heap.size,0,af⟩) n n),_,_,?_,.inl rfl,Rd.val rfl,g1,g2,?_⟩
 .simp[aq,h,B,A,m,xs]
 .have e:aq a.eval o=(do pure (.value (<-Instr.makeSlice t (.int I n) (.int Q n)))):=by simp[aq,h,B,A]
  rw[e];refine dX ?_;intro e p;have hu:∀u,(underlying t).run P u=.ok (.slice E) u:=λu=>by simp[underlying,j]
  have J:∀u,(typeInfo E).run P u=.ok g u:=λu=>by simp[typeInfo,D]
  have F:∀u,(zeroValue E).run P u=.ok z u:=λu=>by simp[zeroValue,typeInfo,D,U]
  have L:∀u,(sizeOf E).run P u=.ok g.size u:=λu=>by simp[sizeOf,typeInfo,D]
  have Z:IntKind.i64.wrap (n:Int)=n:=by grind[IntKind.wrap_i64]
  have n1:¬(n:Int)<0:=by omega
  have n2:¬(281474976710656<(g.bytes:Int)*n):=by omega
  simp[Instr.makeSlice,hu,J,L,asInt,asIntOf,Z,n1,n2]at p;rw[F]at p;simp only[aO,(cN.newRow (P:=P)) _ _,ite_self]at p;unfold askRoom at p;split at p
  .have:e=⟨.mark .noRoom,ae,ab⟩:=by simpa using p
   rw[this];exact .inl rfl
  .simp at p
end
section
variable {d:Nat}{u:aj}
end
def ta{xs vs:List α}{a:Nat}(h:a+vs.length<=xs.length)(p:Nat):(xs.take a++vs++xs.drop (a+vs.length))[p]?=if a<=p/\p<a+vs.length then vs[p-a]? else xs[p]?:=by
 have b:(xs.take a).length=a:=by grind
 grind
def gZ.eQ{es':Nat->List C}{xs:List aj}{new:List A}(h:gZ k n es xs)(i j:Nat)(hi:i<n)(o:mN vs new)(p:j+new.length<=k)(w:∀a,a<n->a≠i->es' a=es a)(hl:(es' i).length=k)(s:∀(q:Nat) (c:C),(es' i)[q]?=aa c->(j<=q/\q<j+new.length/\new[q-j]?=aa (A.c c))∨(¬(j<=q/\q<j+new.length)/\(es i)[q]?=aa c)):gZ k n es' (xs.take (i*k+j)++vs++xs.drop (i*k+j+vs.length)):=by
 have x:i*k+k<=n*k:=by rw[<-j8];exact dY _ hi
 have t:=o.1;have z:=h.len;have f:i*k+j+vs.length<=xs.length:=by omega
 refine⟨by grind,λa b=>?_,λa b q c v=>?_⟩
 .by_cases e:a=i
  .grind
  .rw[w a b e];exact h.wid a b
 .rw[ta f];by_cases e:a=i
  .subst e;rcases s q c v with⟨h1,h2,y⟩|⟨h1,h2⟩
   .rw[bt (by omega),show a*k+q-(a*k+j)=q-j by omega];exact o.2 _ c y
   .rw[bh (by omega)];exact h.at' a b q c h2
  .have l:(es a)[q]?=aa c:=by grind
   have r:q<k:=by rw[<-h.wid a b];grind
   rw[bh ?_]
   .exact h.at' a b q c l
   .rcases Nat.lt_or_gt_of_ne e with m|g
    .have:a*k+k<=i*k:=by rw[<-j8];exact dY _ m
     omega
    .have:i*k+k<=a*k:=by rw[<-j8];exact dY _ g
     omega
def gZ.snoc{es':Nat->List C}{xs:List aj}(h:gZ k n es xs)(j:∀i,i<n->es' i=es i)(hl:(es' n).length=k)(g:vs.length=k)(m:∀(q:Nat)(c:C),(es' n)[q]?=aa c->∃v,vs[q]?=aa v/\∀M,Rd M v c):gZ k (n+1) es' (xs++vs):=by
 have l:=h.len;refine⟨by grind,λi hi=>?_,λi hi q c o=>?_⟩
 .by_cases e:i=n
  .grind
  .rw[j i (by omega)];exact h.wid i (by omega)
 .by_cases e:i=n
  .grind
  .have a:i<n:=by omega
   have b:(es i)[q]?=aa c:=by grind
   have f:q<k:=by rw[<-h.wid i a];grind
   have:i*k+k<=n*k:=by rw[<-j8];exact dY _ a
   rw[jq (by omega)];exact h.at' i a q c b
def yp(T:List (Nat×TI))(φ:Fr):List ResultVar->Option (List D)
 |[]=>aa []
 |.tmp t::r=>match yp T φ r with
  |some q=>aa (look φ t::q)
  |none=>af
 |.cell ad t::r=>match yp T φ r with
  |some q=>match look φ ad with
   |.e (.one (.c (.rp cs)))=>match bz T t with
    |some i=>match lU i (cs.map A.c)with
     |some e=>aa (.e e::q)
     |none=>af
    |none=>af
   |_=>af
  |none=>af
def yq{P:aK}{T:List (Nat×TI)}(O:c6 P T){N:Nat}{σ:List ba}{s:St}{φ:Fr}{a:Act}(f:cf N σ s φ a):∀{rs:List ResultVar}{ds:List D},yp T φ rs=aa ds ->
  ∃vs,cd σ s vs ds/\∀w,(∀b o u,s.M b o=aa u->w.cell? ⟨b,o,af⟩=aa u)->(rs.mapM (fz a)).run P w=Result.ok vs w/\∀es,∀e∈(rs.mapM (fz a)).events P w es,e∈es∨∃b o u,e=⟨.cell ⟨b,o,af⟩,ae,ae⟩/\s.M b o=aa u
 |[],ds,h=>by cases h;exact⟨[],ar,λw _=>⟨by simp,λes e l=>.inl (by simpa using l)⟩⟩
 |.tmp t::r,ds,h=>by
  simp only[yp]at h;cases z:yp T φ r with
  |none=>grind
  |some q =>
   simp[z]at h;subst h;obtain⟨vs,W,Z⟩:=yq O f z;refine⟨a.tmps.getD t ah::vs,⟨f.slot t,W⟩,λw p=>?_⟩;obtain⟨k1,k2⟩:=Z w p;refine⟨by simp only[mI,bL,fz,cK,b6,k1],λes e l=>k2 es e ?_⟩;simpa[mI,fz,k1]using l
 |.cell ad t::r,ds,h=>by
  simp only[yp]at h;cases z:yp T φ r with
  |none=>grind
  |some q =>
   simp only[z]at h;have hs:=f.slot ad;generalize look φ ad=x at h hs;split at h
   case h_2=>cases h
   rename_i cs;cases hi:bz T t with
   |none=>grind
   |some i =>
    simp only[hi]at h;cases k:lU i (cs.map A.c)with
    |none=>grind
    |some e0 =>
     simp[k]at h;subst h;obtain⟨vs,W,Z⟩:=yq O f z;have L:=fp hs;generalize S:a.tmps.getD ad ah=vx at L;cases L;rename_i b off g R M8;let y:=(a9 cs.length).map g;have H:dH σ s y (cs.map A.c):=by
      have key:∀(n:Nat) (ds:List C),(∀j c,ds[j]?=aa c->Rd s.M (g (n+j)) c)->dH σ s ((a9 ds.length).map λj=>g (n+j)) (ds.map A.c):=by
       intro n ds;induction ds generalizing n with
       |nil=>intro _;trivial
       |cons d ds ih =>
        intro hd;rw[gd,x3];refine⟨hd 0 d rfl,?_⟩;have:=ih (n+1) (λj c m=>by have:=hd (j+1) c (by grind);grind);grind[Function.comp_def]
      have:=key 0 cs (by grind);grind
     have I:∀(j:Nat) (v:aj),y[j]?=aa v->s.M b (off+j)=aa v:=λj v m=>by
      simp only[y,mJ]at m;by_cases E:j<cs.length
      .simp[E]at m;subst m;exact R j cs[j] (bd E)
      grind
     let w0:aA:={s.w with heap:=s.w.heap}
     have F:∃v,mE σ s v e0/\∀w,(∀b o u,s.M b o=aa u->w.cell? ⟨b,o,af⟩=aa u)->(loadVar t ⟨b,off,af⟩).run P w=.ok v w:=by
      have U:=O t i hi;cases Y:i.agg<;>simp only[lU,Y]at k
      .cases B:eh 0 (cs.map A.c)with
       |none=>grind
       |some a0 =>
        simp[B]at k;subst k;obtain⟨v,hv,V⟩:=H.get (cT B);refine⟨v,V,λw p=>?_⟩;have:=p _ _ _ (I 0 v hv);simp only[loadVar,bL,U.jA,b6,Y];grind[run_load]
      .cases B:nt i.size (cs.map A.c)with
       |none=>grind
       |some r0 =>
        simp[B]at k;subst k;obtain⟨q1,q2⟩:=l6 B;have J:=H.take i.size;rw[<-q1]at J;have hl:(y.take i.size).length=i.size:=by grind
        refine⟨.agg (y.take i.size).toArray,⟨y.take i.size,rfl,J⟩,λw p=>?_⟩
        have K:=run_loadCells_list (P:=P) w ⟨b,off,af⟩ (y.take i.size) (λj v m=>by grind[dh])
        rw[hl]at K;simp only[loadVar,bL,U.jA,b6,Y];simp[U.run_sizeOf,K]
     obtain⟨v,Q,TJ⟩:=F;refine⟨v::vs,⟨Q,W⟩,λw p=>?_⟩;obtain⟨k1,k2⟩:=Z w p;have G:(fz a (.cell ad t))=loadVar t ⟨b,off,af⟩:=by simp[fz,S,asAddr]
     refine⟨by grind[Go.Sem.run_bind,Go.Sem.run_pure,Go.Result.andThen_ok],λes e l=>?_⟩;rw[mI,G]at l;simp only[aJ,TJ w p,aO,k1,Sem.events_pure]at l;rcases k2 _ e l with l|l
     .rcases BJ l with l|l
      .grind
      .obtain⟨j,m,rfl⟩:=iD (O t i hi) (w:=w) (n:=cs.length) (λj m=>⟨g j,p _ _ _ (R j cs[j] (bd m))⟩) (by have:=nV k;grind) e l;exact .inr ⟨b,off+j,g j,rfl,R j cs[j] (bd m)⟩
     grind
theorem zV.TK(j:c6 P T){fn:Func}{ds:List D}{d:D}(h:yp T φ fn.results.toList=aa ds)(hj:qC ds=aa d):zV P fn φ d:=by
 intro N σ s a f;obtain⟨vs,h1,h2⟩:=yq j f h;refine⟨_,zU hj h1,λw k=>?_⟩;obtain⟨k1,i⟩:=h2 w k;have e1:(fn.results.mapM (fz a)).run P w=Result.ok vs.toArray w:=by grind[Array.mapM_eq_mapM_toList,Sem.run_map,Go.Result.andThen_ok]
 have e2:∀es,∀e∈(fn.results.mapM (fz a)).events P w es,e∈es∨∃b o u,e=⟨.cell ⟨b,o,af⟩,ae,ae⟩/\s.M b o=aa u:=by rw[pC];intro es e c;exact i es e (by simpa using c)
 constructor
 .unfold results;rw[bL];refine(dm (λr=>Result.andThen r _) (Eq.trans ?_ e1)).trans ?_
  .congr 2
  .simp
 .intro e c;have g:e∈(fn.results.mapM (fz a)).events P w #[]:=by unfold results at c;rw[aJ]at c;change e∈((fn.results.mapM (fz a)).run P w).evThen ((fn.results.mapM (fz a)).events P w #[]) _ at c;rw[e1]at c;simpa using c
  grind
section
variable {X:Cx P}
def KP(T:List (Nat×TI))(rs:List ResultVar)(ks:List Nat)(φ:Fr)(res:D):Option (List Prop) :=
 match yp T φ rs with
 |some ds=>match qC ds with
  |some d=>match uh ks.length res with
   |true=>BC d (ij ks res)
   |false=>af
  |none=>af
 |none=>af
def AK.BU(e:c6 P T){fn:Func}{a:Nat}{res:D}(ks:List Nat)(h:KP T fn.results.toList ks φ res=aa ps)(g:au ps)(d:jB ks σ=aa σ')(b:kh σ'=ab)(c:dF ks=ab)(f:∀j,j<a->ks[j]?=aa j):
  AK X N (zW P fn a res σ') (.code .ret::K) .normal φ σ:=by refine AK.ret ⟨.inl rfl,ks,?_⟩;unfold KP at h;grind[zV.TK]
def Ev.nW{f:aP}{fn:Func}{args:List D}{res:D}(d:P.funcs[f]?=aa fn)(a:(fn.name== "runtime.NumGoroutine")=ae)(hb:fn.body=aa c)(b:bn args.length fn.ntmps=ab)(h:Fits args σ->AK X fn.ntmps (zW P fn σ.length res σ') [.code c] .normal (iL 0 args) σ):Ev X f args σ res σ':=by refine⟨⟨fn,d,a,by grind⟩,λs vs hr hh=>?_⟩;have:=dK.GR (X:=X) (ι:=Unit) (σ':=λ_=>σ') (res:=λ_=>res) d a hb (dy b) (AW.mono (AK.of_code (h ⟨s,vs,hr,hh⟩)) λ_ _ _ q=>⟨(),q⟩);exact this.EO.2 s vs hr hh
def b7.mk{fn:Func}{a:Nat}{res:D}(ks:List Nat)(h:yr fn.results.toList ks φ res=aa ps)(f:au ps)(d:jB ks σ=aa σ')(b:kh σ'=ab)(c:dF ks=ab)(e:∀j,j<a->ks[j]?=aa j):b7 fn a res σ' .ret φ σ:=by refine⟨.inl rfl,ks,?_⟩;unfold yr at h;grind
end
def D3{α:Type}{l:Nat}{x:α}:∀{ks:List Nat}{a r:List α},jB ks a=aa r->l∉ks->jB ks (a.set l x)=aa r
 |[],a,r,h,_=>h
 |k::ks,a,r,h,b=>by
  simp only[dD,not_or]at b;simp only[jB,eJ]at h⊢;rw[j5 b.1];cases d:a[k]? with
  |none=>simp[d]at h
  |some y =>
   simp only[d]at h⊢;cases c:jB ks a with
   |none=>simp[c]at h
   |some q=>rw[D3 c b.2];simp only[c]at h;exact h
def Ar{l:List Nat}(h:gK k l=ae):k∉l:=λa=>by rw[tF a]at h;cases h
def oR:Option (Tmp×E1)->List ResultVar
 |none=>[]
 |some q=>[.tmp q.1]
def oD(cs:List A):Option (Tmp×E1)->D
 |none=>.e (.agg cs)
 |some q=>.fe [.agg cs,q.2]
def HT(T:List (Nat×TI))(fn:Func)(a:Nat)(res:D)(σ':List ba):Post:=λe φ σ1 =>
 (e=.ret∨e=.normal)/\∃ks l E cs t ty it ps,∃o:Option (Tmp×E1),(∀q,o=aa q->look φ q.1=.e q.2)/\fn.results.toList=.cell t ty::oR o/\bz T ty=aa it/\it.agg=ab/\cs.length=it.size/\look φ t=.e (.one (.ptr l 0))/\σ1[l]?=aa (.cells E cs)/\l∉ks /\
  BC (oD cs o) (ij ks res)=aa ps/\au ps/\uh ks.length res=ab/\jB ks σ1=aa σ'/\kh σ'=ab/\dF ks=ab/\(∀j,j<a->ks[j]?=aa j)
def dK.OZ{X:Cx P}(hT:c6 P T){f:aP}{fn:Func}{args:List D}{σ':ι->List ba}(hf:P.funcs[f]?=aa fn)(Hy:(fn.name== "runtime.NumGoroutine")=ae)(hb:fn.body=aa c)(hlen:args.length<=fn.ntmps)(h:∀s a,cf fn.ntmps σ s (iL 0 args) a->aD σ s->∀(b:Frame) (k:List Item) (cs:List Frame) (S:ak->St->Prop),b.kind≠.early->b.roundOf=af ->
  (∀e φ' σ1 s' a',(∃j,HT T fn σ.length (res j) (σ' j) e φ' σ1)->cf fn.ntmps σ1 s' φ' a'->aD σ1 s'->cJ σ s σ1 s'->ends X S b k cs e a' s')->e9 X S (G (b.aT a (.code c::k)) cs) s):dK X f args σ res σ':=by
 refine⟨⟨fn,hf,Hy,by rw[hb];rfl⟩,λs vs hr hh S cs hS=>?_⟩;obtain⟨hl,hg⟩:=cd.get hr;let b:Frame:={fn:=f,tmps:=#[],todo:=[],defers:=[],mode:=.run,kind:=.normal,roundOf:=af}
 have F:Frame.enter P f vs.toArray .normal=b.aT {tmps:=vs.toArray++Array.replicate (fn.ntmps-vs.toArray.size) ah,defers:=[]} [.code c]:=by simp[Frame.enter,Frame.aT,hf,hb,b]
 rw[F];refine h s {tmps:=vs.toArray++Array.replicate (fn.ntmps-vs.toArray.size) ah,defers:=[]} ⟨by simp;omega,⟨[],ar⟩,λt=>?_⟩ hh b [] cs S (by simp[b]) rfl ?_
 .rw[mO];simp only[jJ,bZ,kt];have:=hg t;rcases cv t vs.length with uc|QL
  .have e:(vs.toArray++Array.replicate (fn.ntmps-vs.toArray.size) ah).getD t ah=(vs[t]?).getD ah:=by simp only[dx];grind
   rw[e];exact this
  .rw[qg (by omega)];trivial
 .rintro e φ' σ0 s0 a1 ⟨jj,he,ks,l,E,W5,t,ty,it,ps,o,q0,q1,q2,q3,q4,q5,q6,q7,h3,h4,h5,ZO,ZP,h8,h9⟩ f0 h0 U2;obtain⟨h7,ZQ⟩:=w7 ZP;have A:=f0.slot t;rw[q5]at A;obtain⟨_,L,bb,p,T3,Vu⟩:=A;obtain⟨b2,d,Rj,Q,U,hM⟩:=h0.box l _ L q6 p;subst Rj;cases T3;let M':Mem:=λm o=>if m=bb then d[o]? else s0.M m o;have W6:∀o v,d[o]?=aa v->s0.w.cell? ⟨bb,o,af⟩=aa v:=λo v ho=>by simpa[aU,Q]using ho
  have Q0:∀m o v,s0.M m o=aa v->M' m o=aa v:=λm o v hv=>by grind
  have W7:∀m o v,M' m o=aa v->s0.w.cell? ⟨m,o,af⟩=aa v:=λm o v hv=>by
   by_cases e:m=bb
   .grind
   .simp only[M',e,bJ]at hv;exact h0.mem m o v hv
  obtain⟨h',H⟩:=h0.gV (M':=M') (w':=s0.w) (B':=.dead) (L':=⟨.pointer (aa ⟨bb,0,af⟩),[]⟩) q6 p rfl (aZ _) (λ_ _ _=>rfl) (λm _ N o=>by grind) Q0 W7 (by simp) rfl rfl rfl ar
  have TZ:ey s0 ⟨s0.β.set l ⟨.pointer (aa ⟨bb,0,af⟩),[]⟩,M',s0.w,s0.own⟩:=⟨rfl,Q0,λm N o=>by
   have:m≠bb:=by rintro rfl;exact N _ (bD p) (by simp)
   simp only[M',this,bJ],W7,λm N=>by grind⟩
  have f':cf fn.ntmps (σ0.set l .dead) ⟨s0.β.set l ⟨.pointer (aa ⟨bb,0,af⟩),[]⟩,M',s0.w,s0.own⟩ φ' a1:=⟨f0.size,f0.defers.imp λ_ h1=>h1.mono H.ext,λu=>(f0.slot u).mono H.ext h0.len⟩
  have h6:=D3 (x:=ba.dead) ZO q7;have Vv:dH (σ0.set l .dead) ⟨s0.β.set l ⟨.pointer (aa ⟨bb,0,af⟩),[]⟩,M',s0.w,s0.own⟩ d W5:=U.mono H.ext h0.len;have st:=U2.trans (H.nT h0);let V:aj:=match o with|none=>.agg d.toArray|some q=>.tuple #[.agg d.toArray,a1.tmps.getD q.1 ah]
  have J:∀w,(∀b o u,M' b o=aa u->w.cell? ⟨b,o,af⟩=aa u)->(results fn a1.tmps).run P w=.ok V w/\∀e∈(results fn a1.tmps).events P w #[],∃b o u,e=⟨.cell ⟨b,o,af⟩,ae,ae⟩/\M' b o=aa u:=by
   intro w hw;have R:=hT ty it q2;have W8:d.length=it.size:=by rw[U.length,q4]
   have QF:∀j v,d[j]?=aa v->w.cell? ⟨bb,0+j,af⟩=aa v:=λj v hj=>hw _ _ _ (by grind);have Z:=run_loadCells_list (P:=P) w ⟨bb,0,af⟩ d (λj v hj=>by rw[dh];exact QF j v hj);rw[W8]at Z;have EJ:(loadVar ty ⟨bb,0,af⟩).run P w=.ok (.agg d.toArray) w:=by simp only[loadVar,bL,R.jA,b6,q3];simp[R.run_sizeOf,Z]
   have W9:fn.results=(ResultVar.cell t ty::oR o).toArray:=by apply Array.ext';simpa using q1
   have K:asAddr (a1.tmps[t]?.getD ah)=(pure ⟨bb,0,af⟩:Sem Addr):=by rw[<-dx,Vu];rfl
   refine⟨by cases o<;>simp[results,W9,K,EJ,V,oR],λe he=>?_⟩;have Rl:e∈(loadVar ty ⟨bb,0,af⟩).events P w #[]:=by cases o<;>simpa[results,W9,K,EJ,oR]using he
   obtain⟨j,hj,rfl⟩:=iD R (w:=w) (n:=d.length) (λj hj=>⟨_,QF j d[j] (bd hj)⟩) (by rw[q3,W8];simp) e Rl;exact⟨bb,0+j,d[j],rfl,by grind⟩
  have fin:∀(fr:Frame) s2,b5 (⟨s0.β.set l ⟨.pointer (aa ⟨bb,0,af⟩),[]⟩,M',s0.w,s0.own⟩:St) s2->fr.fn=f->fr.tmps=a1.tmps->fr.defers=a1.defers->fr.mode=.returning->fr.kind=.normal->e9 X S (G fr cs) s2:=by
   intro fr s2 rm e1 e2 e3 e4 e5;have f2:=f'.rely rm h';have z:=h'.rely rm;have g:=st.trans rm.stepW;have r2:dc (σ0.set l .dead) s2 V (oD W5 o):=by
    have Xa:=Vv.mono rm.stepW.ext h'.len;cases o with
    |none=>exact⟨d,rfl,Xa⟩
    |some q =>
     have hx:=f2.slot q.1;rw[q0 q rfl]at hx;exact⟨[.agg d.toArray,a1.tmps.getD q.1 ah],rfl,⟨d,rfl,Xa⟩,hx,ar⟩
   obtain⟨i,I⟩:=yj (l':=s2.β) h6 z.len;have r4:=(pO h3 h4 r2).sub h6 I h5;obtain⟨c1,c2⟩:=hU h6;obtain⟨d1,d2⟩:=hU I;have O:∀L∈i,L∈s2.β:=yn I;have Y:aD (σ' jj) {s2 with β:=i}:=by obtain⟨g1,_⟩:=z.sub h6 I h7 h8;refine⟨g1.mem,g1.len,λj B L hB p=>?_,g1.eH,g1.lt,λb hb=>⟨(z.own b hb).1,λL p=>(z.own b hb).2 L (O L p)⟩⟩;exact eG.plain (σ:=σ' jj) (s:={s2 with β:=i,own:=ym s2 i}) (s':={s2 with β:=i}) rfl rfl (jS h7 B (bD hB)) (g1.box j B L hB p)
   have R4:cJ σ s (σ' jj) {s2 with β:=i}:=by refine⟨g.size,g.keep,g.mem,g.iq,λL p b hb=>g.tB _ (O L p) b hb,λl B L hB p=>?_,g.os,g.tape,g.output,g.own⟩;have hl:l<σ.length:=(b8.1 hB).1;obtain⟨B',L',p1,p2,p3⟩:=g.box l B L hB p;grind
   obtain⟨ls,OM⟩:=f2.defers;refine pU ls fr s2 _ z.kz (by grind) e4 (by rw[e3];exact OM.taken z) λW r=>?_;have C:b5 {s2 with β:=i} {W with β:=i}:=by
    refine⟨rfl,r.M,r.own,r.size,λb hb=>r.keep b (hb.imp id ?_),r.mem,r.os,r.tape,r.output⟩;rintro⟨L,p,hb⟩;obtain⟨j,hj,rfl⟩:=dz p;have Xb:j<ks.length:=by rw[<-d1];exact hj
    obtain⟨y,y1,y2⟩:=d2 j _ (bd Xb);obtain⟨x,x1,x2⟩:=c2 j _ (bd Xb);rw[bd hj]at y1;cases y1;refine⟨_,_,y2,λhc=>?_,hb⟩;rw[OM.Ak _ hc]at x2;cases x2;exact l8 ZQ _ (bD x1) rfl
   have hG:ey W {W with β:=i}:=⟨rfl,λ_ _ _ h=>h,λ_ _ _=>rfl,λb o v hv=>r.mem b o v (by rw[<-r.M];exact hv),λb hb=>hb.imp id λ⟨L,p,hb⟩=>⟨L,by rw[r.β];exact O L p,hb⟩⟩
   have Vw:s2.M=M':=rm.M;refine .ghost hG (hS jj _ V _ ⟨e1,e4,rfl,e5,fn,by grind,λw hw=>?_⟩ (r4.mono C.stepW.ext Y.len) (Y.rely C) (R4.trans C.stepW));show(results fn fr.tmps).run P w=_/\∀e∈(results fn fr.tmps).events P w #[],_;rw[e2];have Xc:∀b o u,M' b o=aa u->w.cell? ⟨b,o,af⟩=aa u:=λb o u h=>hw b o u (by show W.M b o=aa u;rw[r.M,Vw];exact h);refine⟨(J w Xc).1,λe he=>?_⟩;obtain⟨b,o,u,q1,q2⟩:=(J w Xc).2 e he;exact⟨b,o,u,q1,by show W.M b o=aa u;rw[r.M,Vw];exact q2⟩
  rcases he with rfl|rfl
  .intro pre;exact .ghost TZ (.ctl h' rfl (λ_=>BL rfl) λs2 rm=>fin _ s2 rm rfl rfl (j7 _) rfl rfl)
  .exact .ghost TZ (.ctl h' rfl (λ_=>BM rfl) λs2 rm=>fin _ s2 rm rfl rfl (j7 _) rfl rfl)
def dK.nW{X:Cx P}(m:c6 P T){f:aP}{fn:Func}{args:List D}{σ':ι->List ba}(i:P.funcs[f]?=aa fn)(d:(fn.name== "runtime.NumGoroutine")=ae)(hb:fn.body=aa c)(g:bn args.length fn.ntmps=ab)(h:Fits args σ->AK X fn.ntmps (λe φ σ1=>∃j,HT T fn σ.length (res j) (σ' j) e φ σ1) [.code c] .normal (iL 0 args) σ):dK X f args σ res σ':=by refine⟨⟨fn,i,d,by rw[hb];rfl⟩,λs0 vs hr Kn=>?_⟩;have:=dK.OZ (X:=X) (σ':=σ') (res:=res) m i d hb (dy g) λs a f hh b k cs S n _ l=>(show AW X fn.ntmps c _ (iL 0 args) σ from AK.of_code (h ⟨s0,vs,hr,Kn⟩)) s a f hh b k cs S n l;exact this.2 s0 vs hr Kn
def dH.set{σ:List ba}{s:St}{a:A}{v:aj}:∀{vs:List aj}{cs:List A}{j:Nat},dH σ s vs cs->vs[j]?=aa v->fU σ s v a->dH σ s vs (cs.set j a)
 |[],[],_,_,h,_=>by grind
 |[],_::_,_,h,_,_=>h.elim
 |_::_,[],_,h,_,_=>h.elim
 |u::vs,c::cs,0,h,b,d=>by simp at b;subst b;exact⟨d,h.2⟩
 |u::vs,c::cs,j+1,h,b,d=>⟨h.1,dH.set h.2 (by grind) d⟩
section
variable {X:Cx P}
def AK.gx(l j:Nat)(E k:Nat)(es':Nat->List C){E0:ay}{cs:List A}{k':Nat}{r:Nat->List C}(hl:eh l σ=aa (.cells E0 cs))(hj:eh j cs=aa (.c (.sl ab k' 0 r)))(kk:AK X N Qf (.code c::K) .normal φ ((σ++[ba.vec E k 0 es']).set l (.cells E0 (cs.set j (.vec σ.length k 0 es'))))):AK X N Qf (.code c::K) .normal φ σ:=by
 refine AK.ghost (λs a D hh=>?_) kk;have H:=cT hl;have O:=cT hj;have G:l<σ.length:=(b8.1 H).1;have f:l<s.β.length:=by rw[hh.len];grind
 have q:=bd f;generalize s.β[l]=L at q;obtain⟨b,vs,y,d,o,S⟩:=hh.box l _ L H q;obtain⟨v,J,U⟩:=o.get O;have h1:Rd s.M v (.sl ab k 0 es'):=(Rd.tz (k:=k') (k':=k) (.inr rfl) U).BH λi hi=>by omega
 have t:eG (σ++[ba.vec E k 0 es']) {s with β:=s.β++[⟨v,[]⟩]} (.vec E k 0 es') ⟨v,[]⟩:=⟨h1.loose,.inl ⟨⟨rfl,rfl⟩,h1⟩⟩;obtain⟨F,I⟩:=hh.gC (.refl _ _) rfl hh t (by simp)
 have p:(σ++[ba.vec E k 0 es'])[l]?=aa (.cells E0 cs):=by grind
 have x:(s.β++[(⟨v,[]⟩:Loc)])[l]?=aa L:=by grind
 have n:(s.β++[(⟨v,[]⟩:Loc)]).set l L=s.β++[⟨v,[]⟩]:=by apply gR;grind
 have z:hX (.cells E0 cs) L (.cells E0 (cs.set j (.vec σ.length k 0 es'))) L:=rfl;have T:σ.length≠l:=by omega
 have g:eG ((σ++[ba.vec E k 0 es']).set l (.cells E0 (cs.set j (.vec σ.length k 0 es')))) ⟨(s.β++[(⟨v,[]⟩:Loc)]).set l L,s.M,s.w,s.own⟩ (.cells E0 (cs.set j (.vec σ.length k 0 es'))) L:=by
  rw[n];refine⟨b,vs,y,d,?_,S⟩;have ex:Ext (σ++[ba.vec E k 0 es']) {s with β:=s.β++[⟨v,[]⟩]} ((σ++[ba.vec E k 0 es']).set l (.cells E0 (cs.set j (.vec σ.length k 0 es')))) {s with β:=s.β++[⟨v,[]⟩]}:=by
   refine⟨λ_ _ _ h=>h,λi B L' lz fC=>?_⟩;by_cases e:l=i
   .grind
   .exact⟨B,L',by grind,fC,.refl _ _⟩
  have m:dH (σ++[ba.vec E k 0 es']) {s with β:=s.β++[⟨v,[]⟩]} vs cs:=o.mono I.ext hh.len;refine dH.set (m.mono ex F.len) J ?_;refine⟨h1.loose,by simp,λE2 k2 n2 yb h=>?_⟩;rw[j5 (by omega),fh (by omega),Nat.sub_self]at h;cases h;refine⟨aZ _,λ_=>⟨⟨v,[]⟩,?_,rfl⟩⟩;simp[<-hh.len]
 obtain⟨R,Q⟩:=F.gV (M':=s.M) (w':=s.w) (L':=L) p x z (aZ _) (λ_ _ _=>rfl) (λ_ _ _ _=>rfl) (λ_ _ _ h=>h) hh.mem (λb hb=>⟨.inl hb,hh.lt L (bD q) b hb⟩) rfl rfl rfl g;have st:=I.trans Q;exact⟨⟨(s.β++[(⟨v,[]⟩:Loc)]).set l L,s.M,s.w,s.own⟩,rfl,⟨D.size,D.defers.imp λ_ h1=>h1.mono st.ext,λu=>(D.slot u).mono st.ext hh.len⟩,R,st⟩
end
section
variable {X:Cx P}
def AK.R9(t:Nat)(E k:Nat)(es':Nat->List C){k':Nat}{d:Nat->List C}(h:look φ t=.e (.one (.c (.sl ab k' 0 d))))(kk:AK X N Qf (.code c::K) .normal ((t,.e (.one (.bp σ.length (.sl 0 k 0 0))))::φ) (σ++[.buf E k 0 es'])):AK X N Qf (.code c::K) .normal φ σ:=by
 refine AK.ghost (λs a b hh=>?_) kk;have g:=b.slot t;rw[h]at g;obtain⟨i,f⟩:=hh.gC (B:=.buf E k 0 es') (L:=⟨.slice af 0 0,[]⟩) (.refl _ _) rfl hh (.inl ⟨rfl,rfl⟩) (by simp);refine⟨{s with β:=s.β++[⟨.slice af 0 0,[]⟩]},rfl,⟨b.size,b.defers.imp λ_ h1=>h1.mono f.ext,λu=>?_⟩,i,f⟩;simp only[look];cases hb:av t u with
 |false=>exact(b.slot u).mono f.ext hh.len
 |true =>
  have e:=bT hb;subst e;exact tA (E:=E) (es:=es') (fp g) (by simp) (by simp[<-hh.len])
def AK.u7(l j:Nat)(E k:Nat)(es':Nat->List C){E0:ay}{cs:List A}{k':Nat}{x:Nat->List C}(hl:eh l σ=aa (.cells E0 cs))(hj:eh j cs=aa (.c (.sl ab k' 0 x)))(kk:AK X N Qf (.code c::K) .normal φ ((σ++[ba.buf E k 0 es']).set l (.cells E0 (cs.set j (.bp σ.length (.sl 0 k 0 0)))))):AK X N Qf (.code c::K) .normal φ σ:=by
 refine AK.ghost (λs a F hh=>?_) kk;have I:=cT hl;have Q:=cT hj;have H:l<σ.length:=(b8.1 I).1;have g:l<s.β.length:=by rw[hh.len];grind
 have t:=bd g;generalize s.β[l]=L at t;obtain⟨b,vs,z,f,p,U⟩:=hh.box l _ L I t;obtain⟨v,O,V⟩:=p.get Q;let d:Loc:=⟨.slice af 0 0,[]⟩
 obtain⟨G,J⟩:=hh.gC (B:=.buf E k 0 es') (L:=d) (.refl _ _) rfl hh (.inl ⟨rfl,rfl⟩) (by grind);have q:(σ++[ba.buf E k 0 es'])[l]?=aa (.cells E0 cs):=by grind
 have y:(s.β++[d])[l]?=aa L:=by grind
 have o:(s.β++[d]).set l L=s.β++[d]:=by apply gR;grind
 have D:hX (.cells E0 cs) L (.cells E0 (cs.set j (.bp σ.length (.sl 0 k 0 0)))) L:=rfl;have m:eG ((σ++[ba.buf E k 0 es']).set l (.cells E0 (cs.set j (.bp σ.length (.sl 0 k 0 0))))) ⟨(s.β++[d]).set l L,s.M,s.w,s.own⟩ (.cells E0 (cs.set j (.bp σ.length (.sl 0 k 0 0)))) L:=by
  rw[o];refine⟨b,vs,z,f,?_,U⟩;have ex:Ext (σ++[ba.buf E k 0 es']) {s with β:=s.β++[d]} ((σ++[ba.buf E k 0 es']).set l (.cells E0 (cs.set j (.bp σ.length (.sl 0 k 0 0))))) {s with β:=s.β++[d]}:=by
   refine⟨λ_ _ _ h=>h,λi B L S r=>?_⟩;by_cases e:l=i
   .grind
   .exact⟨B,L,by grind,r,.refl _ _⟩
  have n:dH (σ++[ba.buf E k 0 es']) {s with β:=s.β++[d]} vs cs:=p.mono J.ext hh.len;exact dH.set (n.mono ex G.len) O (tA (E:=E) (es:=es') V (by grind) (by simp[<-hh.len,d]))
 obtain⟨T,R⟩:=G.gV (M':=s.M) (w':=s.w) (L':=L) q y D (aZ _) (λ_ _ _=>rfl) (λ_ _ _ _=>rfl) (λ_ _ _ h=>h) hh.mem (λb hb=>⟨.inl hb,hh.lt L (bD t) b hb⟩) rfl rfl rfl m;have st:=J.trans R;exact⟨⟨(s.β++[d]).set l L,s.M,s.w,s.own⟩,rfl,⟨F.size,F.defers.imp λ_ h1=>h1.mono st.ext,λu=>(F.slot u).mono st.ext hh.len⟩,T,st⟩
end
def um:Nat->(Nat->List C)->Nat->List C
 |0,es=>es
 |o+1,es=>lV (o+1) es
def tH(o:Nat)(es:Nat->List C)(i:Nat):um o es i=es (o+i):=by cases o<;>simp[um,lV]
def yW(l k n:Nat)(es:Nat->List C)(a:A):Option (A×List Prop):=match EN l a with
 |true=>aa (a,[])
 |false=>match a with
  |.bp l' (.sl g k' o m)=>match av l' l,av k' k with
   |true,ab=>aa (.c (.sl ae k m (um o es)),[g=n,o+m<=n])
   |_,_=>af
  |_=>af
def yX(l k n:Nat)(es:Nat->List C):List A->Option (List A×List Prop)
 |[]=>aa ([],[])
 |a::r=>match yW l k n es a with
  |some (a',p)=>match yX l k n es r with
   |some (r',q)=>aa (a'::r',jC p q)
   |none=>af
  |none=>af
def u9(l k n:Nat)(es:Nat->List C):E1->Option (E1×List Prop)
 |.one a=>match yW l k n es a with|some (a,p)=>aa (.one a,p)|none=>af
 |.agg cs=>match yX l k n es cs with|some (cs,p)=>aa (.agg cs,p)|none=>af
def tO(l k n:Nat)(es:Nat->List C):List E1->Option (List E1×List Prop)
 |[]=>aa ([],[])
 |a::r=>match u9 l k n es a with
  |some (a',p)=>match tO l k n es r with
   |some (r',q)=>aa (a'::r',jC p q)
   |none=>af
  |none=>af
def va(l k n:Nat)(es:Nat->List C):D->Option (D×List Prop)
 |.e x=>match u9 l k n es x with|some (x,p)=>aa (.e x,p)|none=>af
 |.fe xs=>match tO l k n es xs with|some (xs,p)=>aa (.fe xs,p)|none=>af
 |.any=>aa (.any,[])
section
variable {σ1:List ba}{s2:St}{E:Nat}
structure ld(σ1:List ba)(E k n:Nat)(es:Nat->List C)(s s2:St):Prop where
 keep:∀v a,fU (σ1++[.buf E k n es]) s v a->EN σ1.length a=ab->fU σ1 s2 v a
 GV:∀v k' o m,fU (σ1++[.buf E k n es]) s v (.bp σ1.length (.sl n k' o m))->k'=k->o+m<=n->Rd s2.M v (.sl ae k m (um o es))
def ld.a(h:ld σ1 E k n es s s2){v:aj}{a a':A}{ps:List Prop}(b:yW σ1.length k n es a=aa (a',ps))(d:au ps)(r:fU (σ1++[.buf E k n es]) s v a):fU σ1 s2 v a':=by
 unfold yW at b;split at b
 .rename_i c;cases b;exact h.keep v a r c
 .split at b
  .rename_i l' g k' o m _;split at b
   .rename_i e1 e2;cases b;have e1:=bT e1;have e2:=bT e2;subst e1 e2;obtain⟨rfl,h2⟩:g=n/\o+m<=n:=d;exact h.GV v _ _ _ r rfl h2
   grind
  grind
def ld.cl(h:ld σ1 E k n es s s2):∀{vs:List aj}{cs lZ:List A}{ps:List Prop},yX σ1.length k n es cs=aa (lZ,ps)->au ps->dH (σ1++[.buf E k n es]) s vs cs->dH σ1 s2 vs lZ
 |[],[],_,_,b,_,_=>by cases b;trivial
 |[],_::_,_,_,_,_,r=>r.elim
 |_::_,[],_,_,_,_,r=>r.elim
 |v::vs,c::cs,lZ,ps,b,d,r=>by
  simp only[yX]at b;split at b
  .rename_i a' p h1;split at b
   .rename_i r' q h2;cases b;rw[au.cat]at d;exact⟨h.a h1 d.1 r.1,h.cl h2 d.2 r.2⟩
   grind
  grind
def ld.e(h:ld σ1 E k n es s s2){x c:E1}(b:u9 σ1.length k n es x=aa (c,ps))(d:au ps)(r:mE (σ1++[.buf E k n es]) s v x):mE σ1 s2 v c:=by
 cases x with
 |one a =>
  simp only[u9]at b;split at b
  .rename_i a' p h1;cases b;exact h.a h1 d r
  grind
 |agg cs =>
  simp only[u9]at b;split at b
  .rename_i a' p h1;cases b;obtain⟨vs,g,f⟩:=r;exact⟨vs,g,h.cl h1 d f⟩
  grind
def ld.es'(h:ld σ1 E k n es s s2):∀{vs:List aj}{cs lZ:List E1}{ps:List Prop},tO σ1.length k n es cs=aa (lZ,ps)->au ps->gn (σ1++[.buf E k n es]) s vs cs->gn σ1 s2 vs lZ
 |[],[],_,_,a,_,_=>by cases a;trivial
 |[],_::_,_,_,_,_,r=>r.elim
 |_::_,[],_,_,_,_,r=>r.elim
 |v::vs,c::cs,lZ,ps,a,b,r=>by
  simp only[tO]at a;split at a
  .rename_i a' p h1;split at a
   .rename_i r' q h2;cases a;rw[au.cat]at b;exact⟨h.e h1 b.1 r.1,h.es' h2 b.2 r.2⟩
   grind
  grind
def ld.d(h:ld σ1 E k n es s s2){x b:D}(a:va σ1.length k n es x=aa (b,ps))(c:au ps)(r:dc (σ1++[.buf E k n es]) s v x):dc σ1 s2 v b:=by
 cases x with
 |e x =>
  simp only[va]at a;split at a
  .rename_i a' p h1;cases a;exact h.e h1 c r
  grind
 |fe xs =>
  simp only[va]at a;split at a
  .rename_i a' p h1;cases a;obtain⟨vs,g,f⟩:=r;exact⟨vs,g,h.es' h1 c f⟩
  grind
 |any=>cases a;trivial
def aD.GV(hh:aD (σ1++[.buf E k n es]) s)(B:wC σ1.length σ1=ab):
  ∃s2:St,aD σ1 s2/\ey s s2/\ld σ1 E k n es s s2/\∀{σ0:List ba} {s0:St},cJ σ0 s0 (σ1++[.buf E k n es]) s->σ0.length<=σ1.length->cJ σ0 s0 σ1 s2:=by
 have D:(σ1++[ba.buf E k n es])[σ1.length]?=aa (.buf E k n es):=by simp
 have I:s.β.length=σ1.length+1:=by rw[hh.len];simp
 have t:s.β[σ1.length]?=aa s.β[σ1.length]:=bd (by omega);generalize s.β[σ1.length]=L at t;have x:=hh.box _ _ L D t;obtain⟨M',K,G,H,T⟩:∃M':Mem,(∀b o v,s.M b o=aa v->M' b o=aa v)/\(∀b,b∉L.bs->∀o,M' b o=s.M b o)/\(∀b o v,M' b o=aa v->s.w.cell? ⟨b,o,af⟩=aa v) /\
   (∀v k' o m,fU (σ1++[.buf E k n es]) s v (.bp σ1.length (.sl n k' o m))->k'=k->o+m<=n->Rd M' v (.sl ae k m (um o es))):=by
  rcases x with⟨rfl,rfl⟩|⟨b,Y,vs,zs,rfl,hw,Z,Uk,U,O,hM⟩
  .refine⟨s.M,λ_ _ _ h=>h,λ_ _ _=>rfl,hh.mem,λv k' o m r e l=>?_⟩;obtain⟨lv,⟨a,a0,cap,Y,g,h1,h2,V,z,S⟩,_,F⟩:=r;grind[Rd.iV]
  .let M':Mem:=λd o=>if d=b then vs[o]? else s.M d o;have N:∀d o v,s.M d o=aa v->M' d o=aa v:=λd o v g=>by grind
   refine⟨M',N,λd R o=>?_,λd o v g=>?_,λv k' o m r e l=>?_⟩
   .grind
   .by_cases e:d=b
    .subst e;simp only[M',bZ]at g;simp only[aU,hw];grind
    .simp only[M',e,bJ]at g;exact hh.mem d o v g
   .subst e;obtain⟨lv,⟨a,a0,cap,c1,g,h1,h2,V,z,S⟩,_,F⟩:=r;obtain⟨L',f,A⟩:=(F _ _ _ _ D).2 rfl;rw[t]at f;cases f;rw[z]at A;cases A;rw[g];have p:∀i,i<m->∀j c,(um o es i)[j]?=aa c->∃u,vs[(o+i)*k'+j]?=aa u/\Rd s.M u c:=λi hi j c hj=>by rw[tH]at hj;exact O.rd (o+i) (by omega) j c hj
    refine .sl b (o*k') (λi j=>(vs[(o+i)*k'+j]?).getD ah) h1 (by omega) (by simp) (λi hi=>by rw[tH];exact O.width _ (by omega)) (λhm=>?_) (λi hi j c hj=>?_) (λi hi j c hj=>?_)
    .grind
    .grind
    .obtain⟨u,Q,W⟩:=p i hi j c hj;rw[Q];exact W.mono N
 have y:(σ1++[ba.buf E k n es]).set σ1.length .dead=σ1++[.dead]:=by simp
 obtain⟨J,C⟩:=hh.gV (M':=M') (w':=s.w) (B':=.dead) (L':=⟨L.v,[]⟩) D t ar (aZ _) (λ_ _ _=>rfl) (λb _ hb o=>G b hb o) K H (by simp) rfl rfl rfl ar;rw[y]at J C;have q3:=J.drop (rest:=[.dead]) B;refine⟨_,q3,⟨rfl,K,λb hb o=>G b (hb L (bD t)) o,H,λb hb=>?_⟩,⟨λv a r q=>?_,λv k' o m r e l=>T v k' o m r e l⟩,λ{σ0 s0} st hle=>(st.trans (C.nT hh)).drop (rest:=[.dead]) hle⟩
 .rcases hb with hb|⟨L',f,hb⟩
  .exact .inl hb
  .have:=jr f;grind
 .exact(r.mono C.ext hh.len).drop (rest:=[.dead]) q
end
def dK.Ax{X:Cx P}{f:aP}{args:List D}{res':ι->D}{σ1:ι->List ba}{E:Nat}{n:ι->Nat}{es:ι->Nat->List C}(h:dK X f args σ res (λi=>σ1 i++[.buf E k (n i) (es i)])){ps:ι->List Prop}(c:∀i,va (σ1 i).length k (n i) (es i) (res i)=aa (res' i,ps i))(e:∀i,au (ps i))(b:∀i,wC (σ1 i).length (σ1 i)=ab)(a:∀i,σ.length<=(σ1 i).length):dK X f args σ res' σ1:=by refine⟨h.1,λs vs hr hh S cs hS=>h.2 s vs hr hh S cs λi fr v s' hl l5 iQ st=>?_⟩;obtain⟨s2,c1,c2,c3,c4⟩:=iQ.GV (b i);exact .ghost c2 (hS i fr v s2 (hl.mono c2.mem) (c3.d (c i) (e i) l5) c1 (c4 st (a i)))
def Ev.Ax{P:aK}{X:Cx P}{f:aP}{args:List D}{σ:List ba}{res res':D}{σ1:List ba}{E k n:Nat}{es:Nat->List C}(h:Ev X f args σ res (σ1++[.buf E k n es])){ps:List Prop}(c:va σ1.length k n es res=aa (res',ps))(d:au ps)(b:wC σ1.length σ1=ab)(a:σ.length<=σ1.length):Ev X f args σ res' σ1 :=
 (dK.Ax (ι:=Unit) h.KN (λ_=>c) (λ_=>d) (λ_=>b) (λ_=>a)).EO
section
def yt(h:o.op=.call {callee:=.builtin .clear,args:=#[x],argTypes:=#[t]})(a:aC->aj):
  aq a o=(do pure (.value (<-Builtin.clear_ #[t] o.type #[a x]))):=by simp[aq,h,resolve,invoke,builtin]
def GS{z:aj}{e:List C}{m:Nat}(l:z.cells.toList.map pP=e.map aa)(p:e.length=k):Flat M k m (λ_=>e) (Builtin.zeroCells z.cells m).toList:=by
 have b:z.cells.size=k:=by have:=dm List.length l;grind
 have f:dH [] ⟨[],M,default,λ_=>False⟩ z.cells.toList (e.map A.c):=jR l;refine⟨by simp[Builtin.zeroCells,b],λ_ _=>p,λi hi j c r=>?_⟩;have n:j<k:=by grind
 obtain⟨v,v1,q⟩:=f.get (j:=j) (a:=A.c c) (by grind);refine⟨v,?_,q⟩;have h:i*k+j<m*k:=by
  have:i*k+k<=m*k:=by rw[<-j8];exact dY k hi
  omega
 have d:(i*k+j) % k=j:=by grind[Nat.add_mul_mod_self_right,Nat.mod_eq_of_lt]
 have o:j<z.cells.size:=by omega
 have s:z.cells[j]=v:=by grind
 have g:z.cells[j]! = v:=by grind
 simp[Builtin.zeroCells,b,h,d,g]
def bx.GU(W:c6 P T)(h:o.op=.call {callee:=.builtin .clear,args:=#[x],argTypes:=#[t]}){i:TI}(hi:bz T t=aa i)(hd:i.desc=.slice E)(hE:bz T E=aa ie){q m:Nat}{G:ay}(hx:η x=.e (.one (.bp l (.sl n ie.size q m))))(hl:σ[l]?=aa (.buf G ie.size n es))(D:q+m<=n):
  bx P o η σ .any (σ.set l (.buf G ie.size n (pQ q (q+m) ie.zero es))):=by
 intro s ρ hh hr;have h1:=hr x;rw[hx]at h1;change fU σ s (ρ x) (.bp l _)at h1;obtain⟨lv,⟨a,a0,cap,c0,hv,TM,QD,Ud,S,H⟩,_,I⟩:=h1;obtain⟨L,O,r⟩:=(I _ _ _ _ hl).2 rfl;rw[S]at r;have c:=(W t i hi).QG;rw[hd]at c;rw[yt h,hv];by_cases hm:m=0
 .subst hm;have hz:pQ q (q+0) ie.zero es=es:=by funext j;simp only[pQ];grind
  have hs:σ.set l (.buf G ie.size n es)=σ:=by apply gR;grind
  rw[hz,hs];refine⟨.value (.tuple #[]),s,?_,ar,hh,.refl _ _,?_⟩
  .cases a<;>simp[Builtin.clear_,run_underlying c]
  .intro J g;cases a<;>simp[Builtin.clear_,run_underlying c,aJ]at g
 .obtain⟨b,rfl,rfl⟩:=H (by omega);rcases hh.box l _ L hl O with⟨_,rfl⟩|⟨b',c1,vs,C,rfl,d,R,Q,N,hF,Z⟩
  .cases r
  .cases r;obtain⟨inf,z,U,z2,z3,Y,z5,z6,z7⟩:=(W E ie hE).info;have k:=GS (M:=s.M) (m:=m) z5 z7;have X:(Builtin.zeroCells z.cells m).toList.length=m*ie.size:=k.len;have M3:=hF.len;have hb:q*ie.size+m*ie.size<=n*ie.size:=by rw[<-gU];exact dY _ D
   have V:=hF.QW k D;have he:(λi=>if q<=i/\i<q+m then(λ_=>ie.zero) (i-q)else es i)=pQ q (q+m) ie.zero es:=rfl;rw[he]at V;obtain⟨t1,t2⟩:=hh.dL hl O R Q N d V (by grind) Z;have f:∀v∈(Builtin.zeroCells z.cells m).toList,v.oneCell'=ab:=k.cell;have p:=run_storeCells_at P b (q*ie.size) G (Builtin.zeroCells z.cells m).toList 0 (vs++C).toArray s.w d (by grind) f;have B:((vs++C).toArray.toList.take (q*ie.size+0)++(Builtin.zeroCells z.cells m).toList++(vs++C).toArray.toList.drop (q*ie.size+0+(Builtin.zeroCells z.cells m).toList.length))=vs.take (q*ie.size)++(Builtin.zeroCells z.cells m).toList++vs.drop (q*ie.size+(Builtin.zeroCells z.cells m).toList.length)++C:=by grind
   rw[B]at p;have A:∀u,(zeroValue E).run P u=.ok z u:=λu=>by simp[zeroValue,typeInfo,U,Y]
   have K:∀u es,(zeroValue E).events P u es=es:=λu es=>by simp[zeroValue,typeInfo,U,Y,aJ]
   obtain⟨F,rfl⟩:∃F,m=F+1:=⟨m-1,by omega⟩
   refine⟨.value (.tuple #[]),_,?_,ar,t1,t2,?_⟩
   .simp[Builtin.clear_,run_underlying c,A,p]
   .intro J g;have y:J∈(storeCells ⟨b,q*ie.size,af⟩ (Builtin.zeroCells z.cells (F+1)).toList).events P s.w #[]:=by simp only[Builtin.clear_,aJ,gO,j4]at g;simpa[run_underlying c,A,K,p]using g
    rcases dW (Builtin.zeroCells z.cells (F+1)).toList 0 (vs++C).toArray s.w #[] d (by grind) f J y with Kn|⟨j,_,_,rfl⟩
    .grind
    .exact ky (bD O) (by simp) (Z _)
end
end Go.AM
