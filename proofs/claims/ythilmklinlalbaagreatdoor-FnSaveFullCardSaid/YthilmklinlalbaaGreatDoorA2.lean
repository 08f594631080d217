/- Part 2. No condition. -/
import Derived.Test.YthilmklinlalbaaGreatDoorA1
import Derived.MapKept
import Derived.Maps.RangeRun
import Derived.Laws.MakeOwn
import Derived.Lib.SliceRun
import Derived.Test.YthilmklinlalbaaGreatDoorProg
set_option linter.all false
set_option maxHeartbeats 8000000
open Go renaming Value → ah
open Option renaming some → aa
open Go renaming Program → aq
open Go renaming TypeId → aj
open Bool renaming true → ab
open Option renaming none → af
open Go renaming Oper → ar
open Go renaming Operand → ak
open Bool renaming false → ae
open Go renaming undef → ai
open Go.World renaming cell? → aU
open List renaming getD_eq_getElem?_getD → an
open Go.Sem renaming events_bind → aK
open Go.Result renaming evThen_ok → aO
open Go renaming execOp → av
open Go renaming World → az
open Go renaming Goroutine → au
open Go renaming stepG → aG
open Go renaming Frame → aR
open List renaming range → bd
open Go.Region renaming wanted → bc
open Go renaming FuncId → aH
open Go.Instr renaming sureAddr → bn
open Nat renaming beq → aA
open Nat renaming ble → bw
open Go.Op renaming equalIn → aX
open Go.Op renaming bytesLess → bk
open Go.Proofs.Tryz renaming prog → ag
open Go.TypeDesc renaming struct → bq
namespace Go.AM
section force
variable {p:Type}
def wm:C->(C->Option p)->Option p
 |.int k n,q=>q (.int k n)
 |.bool b,q=>q (.bool b)
 |.str s,q=>q (.str s)
 |.sl ab k n es,q=>q (.sl ab k n es)
 |.sl ae k n es,q=>q (.sl ae k n es)
 |.rp cs,q=>dx cs λcs=>q (.rp cs)
 |.FN t cs,q=>dx cs λcs=>q (.FN t cs)
 |.fn f a b,q=>dx a λa=>dx b λb=>q (.fn f a b)
 |c,q=>q c
def Hh(c:C)(q:C->Option p):wm c q=q c:=by
 cases c with
 |sl t=>cases t<;>rfl
 |rp cs=>simp[wm,c8]
 |FN t cs=>simp[wm,c8]
 |fn f a b=>simp[wm,c8]
 |_=>rfl
def wo:A->(A->Option p)->Option p
 |.c x,q=>wm x λx=>q (.c x)
 |.ptr l o,q=>q (.ptr l o)
 |.vec l k n es,q=>q (.vec l k n es)
 |.ref l,q=>q (.ref l)
 |.bp l (.sl g k o n),q=>q (.bp l (.sl g k o n))
 |.bp l (.el g k i f),q=>q (.bp l (.el g k i f))
 |.any,q=>q .any
def yn(a:A)(q:A->Option p):wo a q=q a:=by
 cases a with
 |bp l w=>cases w<;>simp[wo]
 |_=>simp[wo,Hh]
def vj:List A->(List A->Option p)->Option p
 |[],q=>q []
 |a::r,q=>wo a λa=>vj r λr=>q (a::r)
def DQ(l:List A)(q:List A->Option p):vj l q=q l:=by
 induction l generalizing q with
 |nil=>rfl
 |cons a r b=>simp[vj,yn,b]
def zN:E1->(E1->Option p)->Option p
 |.one a,q=>wo a λa=>q (.one a)
 |.agg cs,q=>vj cs λcs=>q (.agg cs)
def yo(a:E1)(q:E1->Option p):zN a q=q a:=by cases a<;>simp[zN,yn,DQ]
def vk:List E1->(List E1->Option p)->Option p
 |[],q=>q []
 |a::r,q=>zN a λa=>vk r λr=>q (a::r)
def DR(l:List E1)(q:List E1->Option p):vk l q=q l:=by
 induction l generalizing q with
 |nil=>rfl
 |cons a r b=>simp[vk,yo,b]
def ox:D->(D->Option p)->Option p
 |.e x,q=>zN x λx=>q (.e x)
 |.fa xs,q=>vk xs λxs=>q (.fa xs)
 |.any,q=>q .any
theorem nt(a:D)(q:D->Option p):ox a q=q a:=by cases a<;>simp[ox,yo,DR]
end force
def x0:D->Option (Bool×Nat×Nat×(Nat->List C))
 |.e (.one (.c (.sl t k n es)))=>aa (t,k,n,es)
 |.e (.one (.vec _ k n es))=>aa (ae,k,n,es)
 |_=>af
theorem my{d:D}{t:Bool}{k n:Nat}{es:Nat->List C}(h:x0 d=aa (t,k,n,es))(σ:List aP)(s:St)(v:ah)(r:dn σ s v d):Rd s.M v (.sl t k n es):=by
 unfold x0 at h;split at h
 .cases h;exact r
 .cases h;exact r.1
 grind
def iS(l:List UInt8)(j:Int):UInt8:=l.getD j.toNat 0
def Ri(T:List (Nat×TI))(t:aj)(d:D):Option D :=
 match bD T t with
 |none=>af
 |some i=>match i.desc with
  |.slice _=>match x0 d with
   |some (_,_,n,_)=>aa (.e (.one (.c (.int .i64 n))))
   |none=>af
  |.string=>match d with
   |.e (.one (.c (.str s)))=>aa (.e (.one (.c (.int .i64 s.length))))
   |_=>af
  |_=>af
def Jt(T:List (Nat×TI))(a b:aj)(d:D):Option (D×List Prop) :=
 match bD T a with
 |none=>af
 |some i1=>match bD T b with
  |none=>af
  |some i2=>match i2.desc with
   |.int k'=>match d with
    |.e (.one (.c (.int _ j)))=>aa (.e (.one (.c (.int k' j))),[bA k' j])
    |_=>af
   |.string=>match d with
    |.e (.one (.c (.str s)))=>aa (.e (.one (.c (.str s))),[])
    |d=>match i1.desc with
     |.slice E=>match bD T E with
      |some ie=>match ie.desc with
       |.int .u8=>match x0 d with
        |some (_,k,n,es)=>match aA k 1 with
         |true=>match wq es 0 n with
          |some r=>aa (.e (.one (.c (.str r))),[])
          |none=>af
         |false=>af
        |none=>af
       |_=>af
      |none=>af
     |_=>af
   |_=>af
def DS(T:List (Nat×TI))(a:ak->D)(t:aj)(x:ak)(lo hi:Option ak):Option (D×List Prop) :=
 match bD T t with
 |none=>af
 |some i=>match rj a lo with
  |none=>af
  |some l=>match rj a hi with
   |none=>af
   |some u=>match i.desc with
    |.string=>match a x with
     |.e (.one (.c (.str s)))=>aa (.e (.one (.c (.str (r9 s l u)))),fR s.length l u)
     |_=>af
    |.slice E=>match bD T E with
     |none=>af
     |some ie=>match x0 (a x)with
      |some (tt,k,n,es)=>match aA k ie.size with
       |true=>aa (.e (.one (.c (.sl (Rj tt u) ie.size (cO n u-cO 0 l) (jJ (cO 0 l) es)))),fR n l u)
       |false=>af
      |none=>af
    |_=>af
def yp(op:BinOp)(k:IntKind)(a:Int)(k':IntKind)(b:Int):Option (D×List Prop) :=
 match Bj op k a k' b with
 |some (c,obs)=>aa (.e (.one (.c (.int k c))),obs)
 |none=>af
theorem sd{op:BinOp}{k k':IntKind}{a b:Int}{d:D}{obs:List Prop}(h:yp op k a k' b=aa (d,obs)):∃c,d=.e (.one (.c (.int k c)))/\Bj op k a k' b=aa (c,obs):=by unfold yp at h;grind
def PW(T:List (Nat×TI))(op:BinOp)(t:aj)(x y:D):Option (D×List Prop) :=
 match x,y with
 |.e (.one (.c (.bool a))),.e (.one (.c (.bool b)))=>match bD T t with
  |some i=>match i.desc with
   |.bool=>match ja op (a==b)with
    |some c=>aa (.e (.one (.c (.bool c))),[])
    |none=>af
   |_=>af
  |none=>af
 |.e (.one (.c a)),.e (.one (.c b))=>match op with
  |.xor=>match a,b with
   |.int .i64 a,.int .i64 b=>aa (.e (.one (.c (.int .i64 ((a.toNat ^^^ b.toNat:Nat):Int)))),[0<=a,0<=b])
   |.int .u64 a,.int k' b=>yp .xor .u64 a k' b
   |_,_=>af
  |.shl=>match a,b with
   |.int k a,.int k' b=>yp .shl k a k' b
   |_,_=>af
  |.shr=>match a,b with
   |.int k a,.int k' b=>yp .shr k a k' b
   |_,_=>af
  |.and=>match a,b with
   |.int k a,.int k' b=>yp .and k a k' b
   |_,_=>af
  |_=>match NB op a b with
   |some (c,obs)=>aa (.e (.one (.c c)),obs)
   |none=>af
 |.e (.agg cs),.e (.agg es)=>match bD T t with
  |some i=>match i.eq with
   |[]=>af
   |d::ds=>match PX (d::ds) cs es with
    |some b=>match ja op b with
     |some c=>aa (.e (.one (.c (.bool c))),[])
     |none=>af
    |none=>af
  |none=>af
 |_,_=>af
def W2(T:List (Nat×TI))(CT:List (Nat×dv))(φ:Fr)(o:ar):Option (D×List Prop) :=
 match o.op with
 |.move x|.assign x=>aa (bP φ x,[])
 |.index t x y=>match bD T t with
  |some i=>match i.desc with
   |.string=>match bP φ x,bP φ y with
    |.e (.one (.c (.str l))),.e (.one (.c (.int _ j)))=>aa (.e (.one (.c (.int .u8 (iS l j).toNat))),[0<=j,j<l.length])
    |_,_=>af
   |_=>af
  |none=>af
 |.indexAddr t x y=>match bD T t with
  |some i=>match i.desc with
   |.slice E=>match bD T E with
    |some ie=>match x0 (bP φ x),bP φ y with
     |some (_,k,n,es),.e (.one (.c (.int _ j)))=>match aA k ie.size with
      |true=>aa (.e (.one (.c (.rp (es j.toNat)))),[0<=j,j<n])
      |false=>af
     |_,_=>af
    |none=>af
   |_=>af
  |none=>af
 |.slice t x lo hi af=>DS T (bP φ) t x lo hi
 |.convert src dst x=>Jt T src dst (bP φ x)
 |.call c=>match c.callee with
  |.builtin .len=>match c.args.toList,c.argTypes[0]? with
   |[x],aa t=>match Ri T t (bP φ x)with
    |some d=>aa (d,[])
    |none=>af
   |_,_=>af
  |.value fo=>BA CT φ fo c.args.toList
  |_=>af
 |.pick c a b=>match bP φ c with
  |.e (.one (.c (.bool ab)))=>aa (bP φ a,[])
  |.e (.one (.c (.bool ae)))=>aa (bP φ b,[])
  |_=>af
 |.binOp op t x y _=>PW T op t (bP φ x) (bP φ y)
 |.unOp op _ x=>match bP φ x with
  |.e (.one (.c a))=>match W4 op a with
   |some c=>aa (.e (.one (.c c)),[])
   |none=>af
  |_=>af
 |.extract x j=>match bP φ x with
  |.fa xs=>match dw j xs with
   |some e=>aa (.e e,[])
   |none=>af
  |_=>af
 |.fieldAddr t x f=>match jK T t f with
  |some (k,_)=>match bP φ x with
   |.e (.one (.ptr l off))=>aa (.e (.one (.ptr l (off+k))),[])
   |.e (.one (.c (.rp cs)))=>aa (.e (.one (.c (.rp (fO k cs)))),[])
   |_=>af
  |none=>af
 |.field t x f=>match jK T t f with
  |some (k,j)=>match bP φ x with
   |.e (.agg cs)=>match kP j (fO k cs)with
    |some e=>aa (.e e,[])
    |none=>af
   |_=>af
  |none=>af
 |.nilCheck x=>match bP φ x with
  |.e (.one (.ptr l off))=>aa (.e (.one (.ptr l off)),[])
  |.e (.one (.c (.rp cs)))=>aa (.e (.one (.c (.rp cs))),[])
  |_=>af
 |.build t parts=>match zO T (bP φ) t parts.toList with
  |some cs=>aa (.e (.agg cs),[])
  |none=>af
 |.buildSlice t n parts=>match NC T (bP φ) t n parts.toList with
  |some (k,es)=>aa (.e (.one (.c (.sl ab k n λi=>es.getD i []))),[])
  |none=>af
 |.makeFunc fn a b=>match wu (bP φ) a.toList with
  |some ca=>match wu (bP φ) b.toList with
   |some cb=>aa (.e (.one (.c (.fn fn ca cb))),[])
   |none=>af
  |none=>af
 |.makeInterface t x=>match bD T t with
  |some i=>match pn i.desc with
   |false=>match vl t (bP φ x)with
    |some c=>aa (.e (.one (.c c)),[])
    |none=>af
   |true=>af
  |none=>af
 |.typeAssert x _ t ab=>match bD T t with
  |some i=>match pn i.desc with
   |false=>match bP φ x with
    |.e (.one (.c c))=>match qk t i c with
     |some (e,b)=>aa (.fa [e,.one (.c (.bool b))],[])
     |none=>af
    |_=>af
   |true=>af
  |none=>af
 |_=>af
def Jm(T:List (Nat×TI))(φ:Fr)(σ:List aP)(t:aj)(x:ak):Option D :=
 match bD T t with
 |some i=>match bP φ x with
  |.e (.one (.ptr l off))=>match dw l σ with
   |some (.cells _ cs)=>match kP i (fO off cs)with
    |some e=>aa (.e e)
    |none=>af
   |_=>af
  |.e (.one (.c (.rp cs)))=>match kP i (cs.map A.c)with
   |some e=>aa (.e e)
   |none=>af
  |_=>af
 |none=>af
def XT(T:List (Nat×TI))(φ:Fr)(o:ar):Option (D×List Prop) :=
 match o.op with
 |.indexAddr t x y=>match bD T t with
  |some i=>match i.desc with
   |.slice E=>match bD T E with
    |some ie=>match bP φ x,bP φ y with
     |.e (.one (.bp l (.sl g k q m))),.e (.one (.c (.int _ j)))=>match aA k ie.size with
      |true=>aa (.e (.one (.bp l (.el g ie.size (q+j.toNat) 0))),[0<=j,j<m])
      |false=>af
     |.e (.one (.c (.val (.slice (aa ⟨b,off,af⟩) n _)))),.e (.one (.c (.int _ j)))=>aa (.e (.one (.c (.val (.pointer (aa ⟨b,off+j.toNat*ie.size,af⟩))))),[0<=j,j<n])
     |_,_=>af
    |none=>af
   |_=>af
  |none=>af
 |.fieldAddr t x f=>match jK T t f with
  |some (k,_)=>match bP φ x with
   |.e (.one (.bp l (.el g a i q)))=>aa (.e (.one (.bp l (.el g a i (q+k)))),[])
   |.e (.one (.c (.val (.pointer (aa ⟨b,off,af⟩)))))=>aa (.e (.one (.c (.val (.pointer (aa ⟨b,off+k,af⟩))))),[])
   |_=>af
  |none=>af
 |.nilCheck x=>match bP φ x with
  |.e (.one (.bp l (.el g a i q)))=>aa (.e (.one (.bp l (.el g a i q))),[])
  |_=>af
 |.slice t x lo hi af=>match bD T t with
  |none=>af
  |some i=>match rj (bP φ) lo with
   |none=>af
   |some lw=>match rj (bP φ) hi with
    |none=>af
    |some u=>match i.desc with
     |.slice E=>match bD T E with
      |none=>af
      |some ie=>match bP φ x with
       |.e (.one (.bp l (.sl g k q m)))=>match aA k ie.size with
        |true=>aa (.e (.one (.bp l (.sl g ie.size (q+cO 0 lw) (cO m u-cO 0 lw)))),fR m lw u)
        |false=>af
       |_=>af
     |_=>af
 |.slice t x af (aa y) (aa z)=>match bD T t with
  |none=>af
  |some i=>match i.desc with
   |.slice E=>match bD T E with
    |none=>af
    |some _=>match x0 (bP φ x),bP φ y,bP φ z with
     |some (_,k,n,es),.e (.one (.c (.int _ j))),.e (.one (.c (.int _ m)))=>aa (.e (.one (.c (.sl ae k j.toNat es))),[0<=j,j<=m,m<=n])
     |_,_,_=>af
   |_=>af
 |.slice t x (aa w) (aa y) (aa z)=>match bD T t with
  |none=>af
  |some i=>match i.desc with
   |.slice E=>match bD T E with
    |none=>af
    |some _=>match bP φ x,bP φ w,bP φ y,bP φ z with
     |.e (.one (.bp _ (.sl _ _ _ n))),.e (.one (.c (.int _ i))),.e (.one (.c (.int _ j))),.e (.one (.c (.int _ m)))=>aa (.e (.one .any),[0<=i,i<=j,j<=m,m<=n])
     |_,_,_,_=>af
   |_=>af
 |.call c=>match c.callee with
  |.builtin .len=>match c.args.toList,c.argTypes[0]? with
   |[x],aa t=>match bD T t with
    |some i=>match i.desc with
     |.slice _=>match bP φ x with
      |.e (.one (.bp _ (.sl _ _ _ m)))=>aa (.e (.one (.c (.int .i64 m))),[])
      |.e (.one (.c (.val (.slice _ n _))))=>aa (.e (.one (.c (.int .i64 n))),[n<=9223372036854775807])
      |_=>af
     |_=>af
    |none=>af
   |_,_=>af
  |_=>af
 |_=>af
def zJ(T:List (Nat×TI))(φ:Fr)(σ:List aP)(t:aj)(x:ak):Option (D×List Prop) :=
 match bD T t with
 |some it=>match bP φ x with
  |.e (.one (.bp l (.el g k i f)))=>match dw l σ with
   |some (.buf _ k' n es)=>match aA k' k with
    |true=>match kP it ((fO f (es i)).map A.c)with
     |some e=>aa (.e e,[g=n,i<n])
     |none=>af
    |false=>af
   |_=>af
  |_=>af
 |none=>af
def Ju:Nat->List C->Nat->Bool
 |0,cc,k=>aA cc.length k
 |_+1,_,_=>ae
def zQ(T:List (Nat×TI))(φ:Fr)(σ:List aP)(t:aj)(x y:ak):Option (D×List aP×List Prop) :=
 match bD T t with
 |some it=>match bP φ x with
  |.e (.one (.bp l (.el g k i f)))=>match dw l σ with
   |some (.buf E k' n es)=>match aA k' k with
    |true=>match km (bP φ y)with
     |some new=>match aA new.length it.size with
      |true=>match gE new with
       |some cc=>match Ju f cc k with
        |true=>dx (dH.qD l (.buf E k' n (po i cc es)) σ) λσ'=>aa (.any,σ',[g=n,i<n])
        |false=>match fy f cc (es i)with
         |some ci=>dx (dH.qD l (.buf E k' n (po i ci es)) σ) λσ'=>aa (.any,σ',[g=n,i<n])
         |none=>af
       |none=>af
      |false=>af
     |none=>af
    |false=>af
   |_=>af
  |_=>af
 |none=>af
def Ny(T:List (Nat×TI))(CT:List (Nat×dv))(φ:Fr)(σ:List aP)(o:ar):Option (D×List Prop) :=
 match o.op with
 |.load t x=>match Jm T φ σ t x with
  |some d=>aa (d,[])
  |none=>zJ T φ σ t x
 |_=>match W2 T CT φ o with
  |some r=>aa r
  |none=>XT T φ o
def Rl(T:List (Nat×TI))(a:ak->D)(σ:List aP)(x y:ak)(t b:aj):Option (D×List aP×List Prop) :=
 match bD T t with
 |none=>af
 |some i=>match bD T b with
  |none=>af
  |some i2=>match i.desc with
   |.slice E=>match i2.desc with
    |.slice E2=>match aA E2 E with
     |false=>af
     |true=>match bD T E with
      |none=>af
      |some ie=>match bw 1 ie.bytes,bw 1 ie.size with
       |true,ab=>match x0 (a y)with
        |none=>af
        |some (_,k',m,es')=>match aA k' ie.size with
         |false=>af
         |true=>match a x with
          |.e (.one (.c (.sl ab k n es)))=>match aA k ie.size with
           |true=>dx (σ++[.vec E ie.size (n+m) (cE n es es')]) λσ'=>aa (.e (.one (.vec σ.length ie.size (n+m) (cE n es es'))),σ',[(n+m)*ie.bytes<=140737488355328,n=0∨0<m])
           |false=>match aA n 0 with
            |true=>dx (σ++[.vec E ie.size (n+m) (cE n es es')]) λσ'=>aa (.e (.one (.vec σ.length ie.size (n+m) (cE n es es'))),σ',[(n+m)*ie.bytes<=140737488355328,n=0∨0<m])
            |false=>af
          |.e (.one (.vec l k n es))=>match dw l σ with
           |some (.vec E' k2 n2 zq)=>match aA E' E,aA k ie.size,aA k2 ie.size with
            |true,ab,ab=>dx (dH.qD l (.vec E ie.size (n+m) (cE n es es')) σ) λσ'=>aa (.e (.one (.vec l ie.size (n+m) (cE n es es'))),σ',[n2=n,zq=es,(n+m)*ie.bytes<=140737488355328])
            |_,_,_=>af
           |_=>af
          |.e (.one (.bp l (.sl g k 0 n)))=>match dw l σ with
           |some (.buf E' k2 n2 zq)=>match aA E' E,aA k ie.size,aA k2 ie.size with
            |true,ab,ab=>dx (dH.qD l (.buf E ie.size (n2+m) (cE n2 zq es')) σ) λσ'=>aa (.e (.one (.bp l (.sl (n2+m) ie.size 0 (n2+m)))),σ',[g=n2,n=n2,(n2+m)*ie.bytes<=140737488355328])
            |_,_,_=>af
           |_=>af
          |_=>af
       |_,_=>af
    |_=>af
   |_=>af
def XU(T:List (Nat×TI))(CT:List (Nat×dv))(φ:Fr)(σ:List aP)(o:ar):Option (D×List aP×List Prop) :=
 match o.op with
 |.alloc _|.box _ _=>W5 T φ σ o
 |.store t x y=>match W5 T φ σ o with
  |some r=>aa r
  |none=>zQ T φ σ t x y
 |.call c=>match c.callee with
  |.builtin .append=>match c.args.toList,c.argTypes.toList with
   |[x,y],[t,a]=>Rl T (bP φ) σ x y t a
   |_,_=>af
  |.value fo=>Jv CT φ σ fo c.args.toList
  |_=>af
 |_=>af
def Rm(T:List (Nat×TI))(a:ak->D)(x y:ak)(t b:aj):Option (D×List Prop) :=
 match bD T t with
 |none=>af
 |some i=>match bD T b with
  |none=>af
  |some i2=>match i.desc with
   |.slice E=>match i2.desc with
    |.slice E2=>match aA E2 E with
     |false=>af
     |true=>match bD T E with
      |none=>af
      |some ie=>match bw 1 ie.bytes,bw 1 ie.size with
       |true,ab=>match x0 (a y)with
        |none=>af
        |some (_,k',m,es')=>match aA k' ie.size with
         |false=>af
         |true=>match a x with
          |.e (.one (.c (.sl ab k n es)))=>match aA n 0 with
           |true=>aa (.e (.one (.c (.sl ae ie.size (n+m) (cE n es es')))),[(n+m)*ie.bytes<=140737488355328,n=0∨0<m])
           |false=>af
          |_=>af
       |_,_=>af
    |_=>af
   |_=>af
def XV(T:List (Nat×TI))(φ:Fr)(o:ar):Option (D×List Prop) :=
 match o.op with
 |.call c=>match c.callee with
  |.builtin .append=>match c.args.toList,c.argTypes.toList with
   |[x,y],[t,a]=>Rm T (bP φ) x y t a
   |_,_=>af
  |_=>af
 |_=>af
def BC:List (Nat×Bool)->Nat->Option Bool
 |[],_=>af
 |(i,b)::r,t=>match aA i t with|true=>aa b|false=>BC r t
def XK(ds:List (Nat×Bool)):Option Nat->Bool
 |none=>ae
 |some t=>match BC ds (2000000+t)with
  |some ab=>ab
  |_=>ae
def isW(ds:List (Nat×Bool)):Option Nat->Bool
 |none=>ae
 |some t=>match BC ds (3000000+t)with
  |some ab=>ab
  |_=>ae
def appW(w:Bool)(T:List (Nat×TI))(a:ak->D)(σ:List aP)(x y:ak)(t b:aj):Option (D×List aP×List Prop) :=
 match bD T t with
 |none=>af
 |some i=>match bD T b with
  |none=>af
  |some i2=>match i.desc with
   |.slice E=>match i2.desc with
    |.slice E2=>match aA E2 E with
     |false=>af
     |true=>match bD T E with
      |none=>af
      |some ie=>match bw 1 ie.bytes,bw 1 ie.size with
       |true,ab=>match w with
        |true=>match x0 (a y)with
         |none=>af
         |some (_,k',m,es')=>match aA k' ie.size with
          |false=>af
          |true=>match a x with
           |.e (.one (.c (.sl ab k n es)))=>match aA n 0 with
            |true=>dx (σ++[.buf E ie.size (0+m) (cE 0 es es')]) λσ'=>aa (.e (.one (.bp σ.length (.sl (0+m) ie.size 0 (0+m)))),σ',[(0+m)*ie.bytes<=140737488355328])
            |false=>af
           |_=>af
        |false=>match a x,a y with
         |.e (.one (.bp l (.sl g k 0 i))),.e (.one (.bp l' (.sl g' k' j m)))=>match aA l' l with
          |false=>af
          |true=>match dw l σ with
           |some (.buf E' k2 n es)=>match aA E' E,aA k ie.size,aA k' ie.size,aA k2 ie.size with
            |true,ab,ab,ab=>dx (dH.qD l (.buf E ie.size n (G8 i j m es)) σ) λσ'=>aa (.e (.one (.bp l (.sl n ie.size 0 (i+m)))),σ',[g=n,g'=n,i+m<=n,j+m<=n])
            |_,_,_,_=>af
           |_=>af
         |_,_=>af
       |_,_=>af
    |_=>af
   |_=>af
def W6(w:Bool)(T:List (Nat×TI))(φ:Fr)(σ:List aP)(o:ar):Option (D×List aP×List Prop) :=
 match o.op with
 |.call c=>match c.callee with
  |.builtin .append=>match c.args.toList,c.argTypes.toList with
   |[x,y],[t,a]=>appW w T (bP φ) σ x y t a
   |_,_=>af
  |_=>af
 |_=>af
def Ut(ds:List (Nat×Bool))(T:List (Nat×TI))(CT:List (Nat×dv))(φ:Fr)(σ:List aP)(o:ar):Option (D×List aP×List Prop) :=
 match isW ds o.dst with
 |true=>W6 ab T φ σ o
 |false=>match XU T CT φ σ o with
  |some r=>aa r
  |none=>W6 ae T φ σ o
def Jr(ds:List (Nat×Bool))(d:Option Nat)(x:D)(obs:List Prop):Option (D×List Prop) :=
 match d with
 |none=>aa (x,obs)
 |some t=>match BC ds t with
  |none=>aa (x,obs)
  |some b=>match x with
   |.e (.one (.c (.bool e)))=>aa (.e (.one (.c (.bool b))),kO obs [e=b])
   |_=>af
def ND{ds:List (Nat×Bool)}{d:Option Nat}{x y:D}{obs DT:List Prop}(h:Jr ds d x obs=aa (y,DT))(a:ay DT):y=x/\ay obs:=by
 unfold Jr at h;split at h
 .grind
 .split at h
  .grind
  .split at h
   .cases h;rw[ay.cat]at a;have:_=_:=a.2;grind
   grind
def we(T:List (Nat×TI))(CT:List (Nat×dv))(ds:List (Nat×Bool))(all:List ar)(φ:Fr)(σ:List aP)(o:ar):Option (D×Option (List aP)×List Prop) :=
 let go:Option (D×Option (List aP)×List Prop):=match Ny T CT φ σ o with
  |some (x,obs)=>match Jr ds o.dst x obs with
   |some (y,a)=>ox y λy=>aa (y,af,a)
   |none=>af
  |none=>match XK ds o.dst with
   |true=>match XV T φ o with
    |some (x,obs)=>ox x λx=>aa (x,af,obs)
    |none=>af
   |false=>match Ut ds T CT φ σ o with
    |some (x,σ',obs)=>ox x λx=>aa (x,aa σ',obs)
    |none=>af
 match o.guard with
 |none=>go
 |some (j,b)=>match zR φ all j with
  |some (aa b')=>match b,b' with
   |true,ab=>go
   |false,ae=>go
   |_,_=>aa (.fa [],af,[])
  |some af=>aa (.fa [],af,[])
  |none=>af
section
variable {P:aq}{X:Cx P}{T:List (Nat×TI)}{CT:List (Nat×dv)}{N:Nat}{all:List ar}{φ:Fr}{σ:List aP}{o:ar}
theorem NF(hT:cT P T)(C:∀σ s a,cq N σ s φ a->bc o (yielded all.toArray a.tmps)=ab){x y:ak}{t e:aj}{d:D}{obs:List Prop}(A:o.op=.call {callee:=.builtin .append,args:=#[x,y],argTypes:=#[t,e]})(h:Rm T (bP φ) x y t e=aa (d,obs))(b:ay obs):OA X N all o φ σ d σ:=by
 unfold Rm at h;split at h
 .cases h
 rename_i i hi;split at h
 .cases h
 rename_i i2 M3;split at h
 case h_2=>cases h
 rename_i E w;split at h
 case h_2=>cases h
 rename_i E2 UA;split at h
 .cases h
 rename_i q;have u:=bR q;subst u;split at h
 .cases h
 rename_i F j;split at h
 case h_2=>cases h
 rename_i f g;have c:lA P o x y E2 F:=⟨⟨t,e,i,i2,A,hT t i hi,w,hT e i2 M3,UA⟩,hT _ _ j,by have:=cZ f;omega,by have:=cZ g;omega⟩
 split at h
 .cases h
 rename_i tx k' m es' hy;split at h
 .cases h
 rename_i l;have z:=bR l;subst z;have r:=λs v=>my hy σ s v;split at h
 .rename_i k n es hx;split at h
  .rename_i B;cases h;exact(OA.kS C (bG.o7 c hx (.inr (bR B)) r b.1 b.2)).By
  grind
 grind
theorem NG(hT:cT P T){K:ak->D}{x y:ak}{t f:aj}{d:D}{σ':List aP}{obs:List Prop}(L:o.op=.call {callee:=.builtin .append,args:=#[x,y],argTypes:=#[t,f]})(h:Rl T K σ x y t f=aa (d,σ',obs))(a:ay obs):bG P o K σ d σ':=by
 unfold Rl at h;split at h
 .cases h
 rename_i i hi;split at h
 .cases h
 rename_i i2 M3;split at h
 case h_2=>cases h
 rename_i E R;split at h
 case h_2=>cases h
 rename_i E2 UA;split at h
 .cases h
 rename_i A;have Q:=bR A;subst Q;split at h
 .cases h
 rename_i U B;split at h
 case h_2=>cases h
 rename_i w J;have b:lA P o x y E2 U:=⟨⟨t,f,i,i2,L,hT t i hi,R,hT f i2 M3,UA⟩,hT _ _ B,by have:=cZ w;omega,by have:=cZ J;omega⟩
 split at h
 .cases h
 rename_i tx k' m es' hy;split at h
 .cases h
 rename_i q;have S:=bR q;subst S;have c:=λs v=>my hy σ s v;split at h
 .rename_i k n es hx;split at h
  .rename_i hk;rw[c8]at h;cases h;exact bG.o7 b hx (.inl (bR hk)) c a.1 a.2
  .split at h
   .rename_i M;rw[c8]at h;cases h;exact bG.o7 b hx (.inr (bR M)) c a.1 a.2
   grind
 .rename_i l k n es hx;split at h
  .rename_i V O e zq hl;split at h
   .rename_i r F j;rw[c8,jc]at h;cases h;obtain⟨u,H,I⟩:e=n/\zq=es/\_:=a;subst u;subst H;have G:=bR r;subst G;have z:=bR F;have C:=bR j;subst C;subst z;exact bG.Hb b hx (b5 hl) c I
   grind
  grind
 .rename_i l g k n hx;split at h
  .rename_i V O e zq hl;split at h
   .rename_i r F j;rw[c8,jc]at h;cases h;obtain⟨u,H,I⟩:g=e/\n=e/\_:=a;subst u;subst H;have G:=bR r;subst G;have z:=bR F;have C:=bR j;subst C;subst z;exact bG.NH b hx (b5 hl) c I
   grind
  grind
 grind
theorem NI(hT:cT P T){b:ak->D}{x:ak}{a:Array aj}{t:aj}{d:D}(e:o.op=.call {callee:=.builtin .len,args:=#[x],argTypes:=a})(c:a[0]?=aa t)(h:Ri T t (b x)=aa d):bG P o b σ d σ:=by
 unfold Ri at h;split at h
 .cases h
 rename_i i hi;split at h
 .rename_i E f;split at h
  .rename_i tt k n es hs;cases h;exact bG.UB hT e c hi f (λs v=>my hs σ s v)
  grind
 .grind [bG.Rn]
 grind
theorem Jw(hT:cT P T){m:ak->D}{a b:aj}{x:ak}{d:D}{obs:List Prop}(l:o.op=.convert a b x)(h:Jt T a b (m x)=aa (d,obs))(c:ay obs):bG P o m σ d σ:=by
 unfold Jt at h;split at h
 .cases h
 rename_i i hi;split at h
 .cases h
 rename_i i2 M3;split at h
 .rename_i k' hd;split at h
  .rename_i k j u;cases h;exact bG.NJ hT l hi M3 hd u c
  grind
 .rename_i hd;split at h
  .grind [bG.NK]
  .split at h
   .rename_i E g;split at h
    .rename_i w q;split at h
     .rename_i f;split at h
      .rename_i tt k n es hs;split at h
       .rename_i hk;have e:=bR hk;subst e;split at h
        .rename_i r t;cases h;exact bG.Hi hT l hi M3 g hd q f (λs v=>my hs σ s v) t
        grind
       grind
      grind
     grind
    grind
   grind
 grind
theorem Hj(hT:cT P T){a:ak->D}{t:aj}{x:ak}{lo hi:Option ak}{d:D}{obs:List Prop}(e:o.op=.slice t x lo hi af)(h:DS T a t x lo hi=aa (d,obs))(b:ay obs):bG P o a σ d σ:=by
 unfold DS at h;split at h
 .cases h
 rename_i i c;split at h
 .cases h
 rename_i l f;split at h
 .cases h
 rename_i u g;split at h
 .grind [bG.Jx]
 .grind [Nat.eq_of_beq_eq_true,bG.NL,my]
 grind
theorem wv{α:Type}{xs:Array α}{x:α}(h:xs.toList=[x]):xs=#[x]:=Array.ext' h
theorem wx{α:Type}{xs:Array α}{x y:α}(h:xs.toList=[x,y]):xs=#[x,y]:=Array.ext' h
theorem Ro(hT:cT P T)(Q:bF X CT){d:D}{obs:List Prop}(h:W2 T CT φ o=aa (d,obs))(g:ay obs)(u:∀σ s a,cq N σ s φ a->bc o (yielded all.toArray a.tmps)=ab):OA X N all o φ σ d σ:=by
 unfold W2 at h;split at h
 .grind [OA.kS,bG.move]
 .grind [OA.kS,bG.assign]
 .rename_i t x y w;split at h
  .rename_i i hi;split at h
   .rename_i C;split at h
    .rename_i l k j r A;cases h;obtain⟨L,H⟩:0<=j/\j<(l.length:Int):=g;have:=bG.Jy (σ:=σ) (m:=j.toNat) hT w hi C r A (by omega) (by omega);have e:iS l j=l[j.toNat]'(by omega):=by simp[iS,an,br (by omega:j.toNat<l.length)]
     grind[OA.kS]
    grind
   grind
  grind
 .rename_i t x y w;split at h
  .rename_i i hi;split at h
   .rename_i E C;split at h
    .rename_i O J;split at h
     .rename_i tt k n es k2 j r A;split at h
      .rename_i hk;cases h;obtain⟨L,H⟩:0<=j/\j<(n:Int):=g;have e:=bR hk;subst e;exact OA.kS u (bG.indexAddr (m:=j.toNat) hT w hi C J (λs v=>my r σ s v) A (by omega) (by omega))
      grind
     grind
    grind
   grind
  grind
 .grind [OA.kS,Hj]
 .grind [OA.kS,Jw]
 .rename_i c w;obtain⟨M,args,K⟩:=c;grind[wv,OA.kS,NI,OA.BA]
 .rename_i c a b q;split at h
  .rename_i B;cases h;exact OA.kS u (bG.pick q B)
  .rename_i B;cases h;exact OA.kS u (bG.pick q B)
  grind
 .rename_i op t y z ty q;unfold PW at h;split at h
  .grind [OA.kS,bG.Rp]
  .rename_i a b _ F G;split at h
   .split at h
    .rename_i _ _ a' b' _ _;cases h;exact OA.kS u (bG.UC q F G g.1 g.2)
    .grind [sd,OA.kS,bG.bits]
    grind
   .grind [sd,OA.kS,bG.bits]
   .grind [sd,OA.kS,bG.bits]
   .grind [sd,OA.kS,bG.bits]
   grind[OA.kS,bG.binOp]
  .rename_i cs es F G;split at h
   .grind [OA.kS,bG.structEq]
   grind
  grind
 .grind [OA.kS,bG.unOp]
 .grind [OA.kS,bG.extract,b5]
 .rename_i t y f q;split at h
  .rename_i k j I;split at h
   .rename_i l off r;cases h;exact OA.kS u (bG.se hT q r I)
   .grind [OA.kS,bG.uj]
   grind
  grind
 .grind [OA.kS,bG.field]
 .grind [OA.kS,bG.uk,bG.wy]
 .grind [OA.kS,bG.build]
 .grind [OA.kS,bG.buildSlice]
 .grind [OA.kS,bG.makeFunc]
 .grind [OA.kS,bG.makeInterface]
 .grind [OA.kS,bG.typeAssert]
 grind
theorem Rq(hT:cT P T){d:D}{obs:List Prop}(h:XT T φ o=aa (d,obs))(e:ay obs):bG P o (bP φ) σ d σ:=by
 unfold XT at h;split at h
 .rename_i t x y u;split at h
  .rename_i i hi;split at h
   .rename_i E B;split at h
    .rename_i L H;split at h
     .rename_i l g k q m kk j r F;split at h
      .rename_i hk;cases h;obtain⟨C,G⟩:0<=j/\j<(m:Int):=e;grind[Nat.eq_of_beq_eq_true,bG.XW]
      grind
     .rename_i b off n cap kk j r F;cases h;obtain⟨C,G⟩:0<=j/\j<(n:Int):=e;grind[bG.BD]
     grind
    grind
   grind
  grind
 .rename_i t x f u;split at h
  .rename_i k j J;split at h
   .rename_i l g S i q r;cases h;exact bG.Rr hT u r J
   .rename_i b off r;cases h;exact bG.Rs hT u r J
   grind
  grind
 .grind [bG.XX]
 .rename_i t x lo hi u;split at h
  .cases h
  rename_i i A;split at h
  .cases h
  rename_i V Y;split at h
  .cases h
  grind[Nat.eq_of_beq_eq_true,bG.sliceB]
 .rename_i t x y z u;split at h
  .cases h
  rename_i i A;split at h
  .rename_i E B;split at h
   .cases h
   rename_i L H;split at h
   .rename_i tt k n es kj j Q m r F K;cases h;obtain⟨C,G,I⟩:0<=j/\j<=m/\m<=(n:Int):=e;exact bG.slice3 hT u A B H (λs v=>my r σ s v) F K C G I
   grind
  grind
 .rename_i t x w y z u;split at h
  .cases h
  rename_i i A;split at h
  .rename_i E B;split at h
   .cases h
   rename_i L H;split at h
   .rename_i l g k q n W i kj j Q m r U F K;cases h;obtain⟨C,G,I,Z⟩:0<=i/\i<=j/\j<=m/\m<=(n:Int):=e;grind[bG.slice3B]
   grind
  grind
 .rename_i c u;obtain⟨M,args,R⟩:=c;simp only at h;split at h
  .split at h
   .rename_i x t r O;split at h
    .rename_i i hi;split at h
     .rename_i E B;split at h
      .grind [wv,bG.XY]
      .rename_i a n cap hxx;cases h;have:=wv r;subst this;exact bG.XZ hT u O hi B hxx e
      grind
     grind
    grind
   grind
  grind
 grind
theorem Hk(hT:cT P T){t:aj}{x:ak}(c:o.op=.load t x){d:D}{obs:List Prop}(h:zJ T φ σ t x=aa (d,obs))(a:ay obs):bG P o (bP φ) σ d σ:=by
 unfold zJ at h;split at h
 .rename_i m hi;split at h
  .rename_i l g k i f j;split at h
   .rename_i E k' n es hB;split at h
    .rename_i hk;have e:=bR hk;subst e;split at h
     .rename_i e b;cases h;exact bG.UD hT c j a.1 (b5 hB) hi b a.2
     grind
    grind
   grind
  grind
 grind
theorem DU(hT:cT P T){t:aj}{x y:ak}(c:o.op=.store t x y){d:D}{σ':List aP}{obs:List Prop}(h:zQ T φ σ t x y=aa (d,σ',obs))(a:ay obs):bG P o (bP φ) σ d σ':=by
 unfold zQ at h;split at h
 .rename_i s hi;split at h
  .rename_i l g k i f q;split at h
   .rename_i E k' n es hB;split at h
    .rename_i hk;have e:=bR hk;subst e;split at h
     .rename_i new hy;split at h
      .rename_i j;split at h
       .rename_i cc PL;split at h
        .rename_i m;rw[c8,jc]at h;cases h;have b:f=0/\cc.length=k':=by
          cases f with
          |zero=>exact⟨rfl,bR m⟩
          |succ f=>simp[Ju]at m
         obtain⟨rfl,b⟩:=b;exact bG.Jz hT c q a.1 (b5 hB) hi hy (bR j) PL (λr=>sh (by grind)) a.2
        .split at h
         .rename_i ci X0;rw[c8,jc]at h;cases h;exact bG.Jz hT c q a.1 (b5 hB) hi hy (bR j) PL (λ_=>X0) a.2
         grind
       grind
      grind
     grind
    grind
   grind
  grind
 grind
theorem Rt(hT:cT P T)(i:bF X CT){d:D}{obs:List Prop}(h:Ny T CT φ σ o=aa (d,obs))(c:ay obs)(g:∀σ s a,cq N σ s φ a->bc o (yielded all.toArray a.tmps)=ab):OA X N all o φ σ d σ:=by
 unfold Ny at h;split at h
 .rename_i t y e;split at h
  .rename_i f b;cases h;unfold Jm at b;split at b
   .grind [OA.kS,bG.FU,b5,bG.JA]
   grind
  grind[OA.kS,Hk]
 grind[Ro,OA.kS,Rq]
theorem Ru(hT:cT P T)(j:bF X CT){d:D}{σ':List aP}{obs:List Prop}(h:XU T CT φ σ o=aa (d,σ',obs))(b:ay obs)(i:∀σ s a,cq N σ s φ a->bc o (yielded all.toArray a.tmps)=ab):OA X N all o φ σ d σ':=by
 unfold XU at h;split at h
 .grind [OA.kS,DV]
 .grind [OA.kS,DV]
 .grind [OA.kS,DV,DU]
 .rename_i c g;obtain⟨f,args,e⟩:=c;grind[wx,OA.kS,NG,OA.call]
 grind
theorem NM(hT:cT P T){w:Bool}{A:ak->D}{x y:ak}{t c:aj}{d:D}{σ':List aP}{obs:List Prop}(F:o.op=.call {callee:=.builtin .append,args:=#[x,y],argTypes:=#[t,c]})(h:appW w T A σ x y t c=aa (d,σ',obs))(a:ay obs):bG P o A σ d σ':=by
 unfold appW at h;split at h
 .cases h
 rename_i i hi;split at h
 .cases h
 rename_i i2 M3;split at h
 case h_2=>cases h
 rename_i E R;split at h
 case h_2=>cases h
 rename_i E2 UA;split at h
 .cases h
 rename_i r;have I:=bR r;subst I;split at h
 .cases h
 rename_i V u;split at h
 case h_2=>cases h
 rename_i q z;have b:lA P o x y E2 V:=⟨⟨t,c,i,i2,F,hT t i hi,R,hT c i2 M3,UA⟩,hT _ _ u,by have:=cZ q;omega,by have:=cZ z;omega⟩
 split at h
 .split at h
  .cases h
  rename_i tx k' m es' hy;split at h
  .cases h
  rename_i f;have S:=bR f;subst S;split at h
  .rename_i k n es hx;split at h
   .rename_i G;have M:=bR G;subst M;rw[c8]at h;cases h;exact bG.G7 b hx (λs v=>my hy _ s v) a
   grind
  grind
 .split at h
  .rename_i l g k i l' g' k' j m hx hy;split at h
   .cases h
   rename_i e;have el:=bR e;subst el;split at h
   .rename_i Y W n es hl;split at h
    .rename_i C q2 q3 q4;have H:=bR C;have Q:=bR q2;have O:=bR q3;have J:=bR q4;rw[c8]at h;cases h;obtain⟨U,K,L,B⟩:=a;subst U K H Q O J;have:=bG.I1 (σ:=σ) b hx hy (b5 hl) L B;grind[jc]
    grind
   grind
  grind
theorem Rv(hT:cT P T)(j:bF X CT){ds:List (Nat×Bool)}{d:D}{σ':List aP}{obs:List Prop}(h:Ut ds T CT φ σ o=aa (d,σ',obs))(b:ay obs)(i:∀σ s a,cq N σ s φ a->bc o (yielded all.toArray a.tmps)=ab):OA X N all o φ σ d σ':=by
 have key:∀w,W6 w T φ σ o=aa (d,σ',obs)->OA X N all o φ σ d σ':=by
  intro w h;unfold W6 at h;split at h
  .rename_i c g;obtain⟨f,args,e⟩:=c;grind[wx,OA.kS,NM]
  grind
 unfold Ut at h;grind[Ru]
def gD(hT:cT P T)(C:bF X CT){ds:List (Nat×Bool)}{d:D}{σ':Option (List aP)}{obs:List Prop}(h:we T CT ds all φ σ o=aa (d,σ',obs))(l:ay obs):OA X N all o φ σ d (σ'.getD σ):=by
 have go:(∀σ s a,cq N σ s φ a->bc o (yielded all.toArray a.tmps)=ab)->(match Ny T CT φ σ o with
  |some (x,obs)=>match Jr ds o.dst x obs with
   |some (y,g)=>ox y λy=>aa (y,af,g)
   |none=>af
  |none=>match XK ds o.dst with
   |true=>match XV T φ o with
    |some (x,obs)=>ox x λx=>aa (x,af,obs)
    |none=>af
   |false=>match Ut ds T CT φ σ o with
    |some (x,σ',obs)=>ox x λx=>aa (x,aa σ',obs)
    |none=>af)=aa (d,σ',obs)->OA X N all o φ σ d (σ'.getD σ):=by
  intro B h;split at h
  .rename_i x i z;split at h
   .rename_i y n u;rw[nt]at h;cases h;obtain⟨rfl,w⟩:=ND u l;grind[Rt]
   grind
  .split at h
   .split at h
    .rename_i x i m;rw[nt]at h;cases h;unfold XV at m;split at m
     .rename_i c A;obtain⟨v,args,t⟩:=c;grind[wx,NF]
     grind
    grind
   grind[nt,Rv]
 unfold we at h;simp only at h;split at h
 .grind [dC]
 .rename_i j b k;split at h
  .rename_i q e;have r:∀σ s a,cq N σ s φ a->bc o (yielded all.toArray a.tmps)=(aa q==aa b):=λσ s a f=>by simp only[bc,k,ql e f]
   split at h
   .grind
   .grind
   .cases h;refine OA.pass (λσ s a f=>(r σ s a f).trans ?_);cases b<;>cases q<;>simp_all
  .rename_i e;cases h;exact OA.pass (λσ s a f=>by simp only[bc,k,ql e f];rfl)
  grind
end
def IP(φ:Fr)(o:ar):Bool:=match o.op with
 |.load _ x=>match bP φ x with
  |.e (.one (.c (.rp _)))=>ae
  |_=>ab
 |_=>ae
def Jl{T:List (Nat×TI)}{CT:List (Nat×dv)}{φ:Fr}{σ σ2:List aP}{o:ar}(h:IP φ o=ae):Ny T CT φ σ o=Ny T CT φ σ2 o:=by
 unfold Ny;split
 .rename_i t x a;simp only[IP,a]at h;split at h
  .rename_i cs hx;simp only[Jm,zJ,hx]
  grind
 .rfl
def Jn{T:List (Nat×TI)}{CT:List (Nat×dv)}{ds:List (Nat×Bool)}{all:List ar}{φ:Fr}{σ:List aP}{o:ar}{d:D}{obs:List Prop}(h:IP φ o=ae)(a:we T CT ds all φ σ o=aa (d,af,obs))(σ2:List aP):
  we T CT ds all φ σ2 o=aa (d,af,obs):=by
 unfold we at a⊢;simp only at a⊢;rw[Jl (σ2:=σ) h];cases b:Ny T CT φ σ o with
 |some r=>grind
 |none =>
  simp only[b]at a⊢;cases c:XK ds o.dst with
  |true=>grind
  |false =>
   simp only[c]at a⊢;have key:∀{y:Option (D×Option (List aP)×List Prop)},(match Ut ds T CT φ σ o with|some (x,σ',obs)=>ox x λx=>aa (x,aa σ',obs)|none=>af)=y->y≠aa (d,af,obs):=by grind[nt]
   split at a
   .grind
   grind
def ph(t:Nat):List ar->Bool
 |[]=>ae
 |o::r=>match o.dst with
  |some d=>match aA d t with|true=>ab|false=>ph t r
  |none=>ph t r
theorem r5{t:Nat}:∀{l:List ar}{i:Nat}{o:ar},l[i]?=aa o->o.dst=aa t->ph t l=ab
 |[],_,_,h,_=>by grind
 |p::r,0,o,h,a=>by simp at h;subst h;simp[ph,a,iR]
 |p::r,i+1,o,h,a=>by have:=r5 (l:=r) (by simpa using h) a;simp only[ph];grind
theorem qi{t:Nat}:∀{l:List ar},ph t l=ab->∃(i:Nat)(o:ar),l[i]?=aa o/\o.dst=aa t
 |[],h=>by cases h
 |p::r,h=>by
  simp only[ph]at h;split at h
  .rename_i d c;split at h
   .rename_i e;exact⟨0,p,rfl,by grind[Nat.eq_of_beq_eq_true]⟩
   .obtain⟨i,o,b,a⟩:=qi h;exact⟨i+1,o,by grind,a⟩
  .obtain⟨i,o,b,a⟩:=qi h;exact⟨i+1,o,by grind,a⟩
def mv:List ar->Bool
 |[]=>ab
 |o::r=>match o.dst with
  |some d=>match ph d r with|true=>ae|false=>mv r
  |none=>mv r
theorem th{t:Nat}:∀{l:List ar}{i j:Nat}{o p:ar},mv l=ab->l[i]?=aa o->l[j]?=aa p->o.dst=aa t->p.dst=aa t->i=j
 |[],_,_,_,_,_,h,_,_,_=>by grind
 |q::r,0,0,_,_,_,_,_,_,_=>rfl
 |q::r,0,j+1,o,p,a,c,b,d1,d2=>by simp at c;subst c;simp only[mv,d1]at a;grind[r5]
 |q::r,i+1,0,o,p,a,c,b,d1,d2=>by simp at b;subst b;simp only[mv,d2]at a;grind[r5]
 |q::r,i+1,j+1,o,p,a,c,b,d1,d2=>by
  have:mv r=ab:=by simp only[mv]at a;grind
  have f:r[i]?=aa o:=by grind
  have d:r[j]?=aa p:=by grind
  have e:=th this f d d1 d2;omega
def uO(all:List ar):Fr->Fr
 |[]=>[]
 |(t,d)::r=>match ph t all with|true=>uO all r|false=>(t,d)::uO all r
def lO{all:List ar}{t:Nat}:∀{φ:Fr},look (uO all φ) t=if ph t all=ab then .any else look φ t
 |[]=>by simp[uO,look]
 |(u,d)::r=>by
  simp only[uO];by_cases c:aA u t=ab
  .have e:=bR c;subst e;cases b:ph u all with
   |true=>simp only;rw[lO];grind
   |false=>simp[look]
  .have a:aA u t=ae:=by grind
   cases b:ph u all with
   |true=>simp only;rw[lO];simp[look,a]
   |false=>simp only[look,a,cond];rw[lO]
def bU:List Edge->List Nat
 |[]=>[]
 |e::r=>match e.ground with
  |.textOnly _=>bU r
  |.gcOnly _=>bU r
  |_=>e.on::bU r
theorem eP{j:Nat}:∀{l:List Edge},j∈bU l↔∃e∈l,dm e=ab/\e.on=j
 |[]=>by simp[bU]
 |e::r=>by
  have c:=eP (j:=j) (l:=r);have yes:bU (e::r)=e.on::bU r->dm e=ab->(j∈bU (e::r)↔∃a∈e::r,dm a=ab/\a.on=j):=by grind
  have no:bU (e::r)=bU r->dm e=ae->(j∈bU (e::r)↔∃a∈e::r,dm a=ab/\a.on=j):=by grind
  cases b:e.ground with
  |textOnly w=>exact no (by simp only[bU,b]) (by unfold dm Region.binds;grind)
  |gcOnly w=>exact no (by simp only[bU,b]) (by unfold dm Region.binds;grind)
  |_=>exact yes (by simp only[bU,b]) (by unfold dm Region.binds;rw[b])
def wh(i t:Nat):List ar->Bool
 |[]=>ae
 |o::r=>match o.dst with
  |some d=>match aA d t with
   |true=>match hZ i (bU o.after.toList)with
    |true=>wh i t r
    |false=>ab
   |false=>wh i t r
  |none=>wh i t r
def wi{i t:Nat}:∀{l:List ar},wh i t l=ae->∀(j:Nat)(o:ar),l[j]?=aa o->o.dst=aa t->hZ i (bU o.after.toList)=ab
 |[],_,j,o,h,_=>by grind
 |p::r,h,0,o,b,a=>by simp at b;subst b;simp only[wh,a,iR]at h;grind
 |p::r,h,j+1,o,b,a=>by
  have:wh i t r=ae:=by simp only[wh]at h;grind
  exact wi this j o (by grind) a
def pj(all:List ar):Fr->List (Nat×D×Bool)
 |[]=>[]
 |(t,d)::r=>match ph t all with
  |true=>(t,d,ab)::pj all r
  |false=>(t,d,ae)::pj all r
def kR(i:Nat)(all:List ar):List (Nat×D×Bool)->Fr
 |[]=>[]
 |(t,d,b)::r=>match b with
  |false=>(t,d)::kR i all r
  |true=>match wh i t all with
   |true=>kR i all r
   |false=>(t,d)::kR i all r
def ym{i:Nat}{all:List ar}{t:Nat}:∀{φ:Fr},look (kR i all (pj all φ)) t=if ph t all=ab/\wh i t all=ab then .any else look φ t
 |[]=>by simp[pj,kR,look]
 |(u,d)::r=>by
  have f:=ym (i:=i) (all:=all) (t:=t) (φ:=r);have e:look ((u,d)::kR i all (pj all r)) t=if aA u t=ab then d else look (kR i all (pj all r)) t:=by simp only[look];cases aA u t<;>rfl
  have b:look ((u,d)::r) t=if aA u t=ab then d else look r t:=by simp only[look];cases aA u t<;>rfl
  cases a:ph u all with
  |false =>
   simp only[pj,a,kR];grind[Nat.eq_of_beq_eq_true]
  |true =>
   cases c:wh i u all with
   |true =>
    simp only[pj,a,kR,c];grind[Nat.eq_of_beq_eq_true]
   |false =>
    simp only[pj,a,kR,c];grind[Nat.eq_of_beq_eq_true]
def jm(m:Nat->Bool):Nat->List (Option Nat×D)->Fr->Fr
 |_,[],φ=>φ
 |i,(d,x)::r,φ=>match m i with
  |true=>match d with
   |some t=>(t,x)::jm m (i+1) r φ
   |none=>jm m (i+1) r φ
  |false=>jm m (i+1) r φ
def nv{m:Nat->Bool}{φ:Fr}{t:Nat}:∀{l:List (Option Nat×D)}{i:Nat},(∃j x,l[j]?=aa (aa t,x)/\m (i+j)=ab/\look (jm m i l φ) t=x)∨look (jm m i l φ) t=look φ t
 |[],i=>.inr rfl
 |(d,x)::r,i=>by
  have g:=nv (m:=m) (φ:=φ) (t:=t) (l:=r) (i:=i+1);have step:look (jm m i ((d,x)::r) φ) t=look (jm m (i+1) r φ) t->((∃j a,((d,x)::r)[j]?=aa (aa t,a)/\m (i+j)=ab/\look (jm m i ((d,x)::r) φ) t=a)∨look (jm m i ((d,x)::r) φ) t=look φ t):=by
   intro e;rw[e];rcases g with⟨j,a,o,n,f⟩|h
   .exact .inl ⟨j+1,a,by grind,by grind,f⟩
   grind
  cases b:m i with
  |false=>exact step (by simp[jm,b])
  |true =>
   cases d with
   |none=>exact step (by simp[jm,b])
   |some u =>
    by_cases k:aA u t=ab
    .have e:=bR k;subst e;exact .inl ⟨0,x,rfl,by grind,by simp[jm,b,look]⟩
    .have c:aA u t=ae:=by grind
     exact step (by simp[jm,b,look,c])
structure Dt where
 i:Nat
 pre:List (Option Nat×D)
 σ:List aP
 cls:List (List Bool)
 zL:List Bool
 Nz:List Bool
 obs:List Prop
def TP(i:Nat):List Nat->Bool
 |[]=>ab
 |k::r=>match Nat.blt k i with|true=>TP i r|false=>ae
def DN{i:Nat}:∀{l:List Nat},TP i l=ab->∀k∈l,k<i
 |[],_,k,h=>by grind
 |x::r,h,k,hk=>by
  simp only[TP]at h;cases a:Nat.blt x i with
  |false=>grind
  |true =>
   simp only[a]at h;rcases eE.1 hk with rfl|hk
   .exact cZ a
   .exact DN h k hk
def bit:List Bool->Nat->Bool
 |[],_=>ae
 |b::_,0=>b
 |_::r,n+1=>bit r n
def xY:List Bool->List Bool->List Bool
 |[],b=>b
 |true::a,[]=>ab::a
 |false::a,[]=>ae::a
 |true::a,_::b=>ab::xY a b
 |false::a,ab::b=>ab::xY a b
 |false::a,ae::b=>ae::xY a b
def mx:∀{a b:List Bool}{j:Nat},bit (xY a b) j=(bit a j||bit b j)
 |[],b,j=>by simp[xY,bit]
 |true::a,[],j=>by simp[xY,bit]
 |false::a,[],j=>by simp[xY,bit]
 |true::a,c::b,0=>by simp[xY,bit]
 |true::a,c::b,j+1=>by simp only[xY,bit];exact mx
 |false::a,ab::b,0=>by simp[xY,bit]
 |false::a,ab::b,j+1=>by simp only[xY,bit];exact mx
 |false::a,ae::b,0=>by simp[xY,bit]
 |false::a,ae::b,j+1=>by simp only[xY,bit];exact mx
def tj:Nat->List Bool
 |0=>[ab]
 |n+1=>ae::tj n
theorem r6:∀{n j:Nat},bit (tj n) j=decide (n=j)
 |0,0=>rfl
 |0,j+1=>by simp[tj,bit]
 |n+1,0=>by simp[tj,bit]
 |n+1,j+1=>by simp only[tj,bit,r6];simp
def FO(a:List (List Bool)):List Nat->List Bool
 |[]=>[]
 |e::r=>match dw e a with
  |some c=>xY (xY c (tj e)) (FO a r)
  |none=>xY (tj e) (FO a r)
theorem zM{b:List (List Bool)}{j:Nat}:∀{l:List Nat},bit (FO b l) j=ab->∃e∈l,e=j∨∃c,b[e]?=aa c/\bit c j=ab
 |[],h=>by simp[FO,bit]at h
 |e::r,h=>by
  simp only[FO,fp]at h;have two:∀{a:Nat},bit (tj e) a=ab->e=a:=by grind[r6]
  have rest:bit (FO b r) j=ab->∃d∈e::r,d=j∨∃c,b[d]?=aa c/\bit c j=ab:=by intro h;obtain⟨d,i,f⟩:=zM h;grind
  split at h
  .rename_i c g;rw[mx,mx,jA,jA]at h;grind
  .rw[mx,jA]at h;grind
def tk:List Bool->List Bool->Bool
 |[],_=>ab
 |true::a,ab::b=>tk a b
 |true::_,_=>ae
 |false::a,_::b=>tk a b
 |false::a,[]=>tk a []
theorem qj:∀{a b:List Bool}{j:Nat},tk a b=ab->bit a j=ab->bit b j=ab
 |[],b,j,_,d=>by simp[bit]at d
 |true::a,ab::b,0,_,_=>rfl
 |true::a,ab::b,j+1,h,d=>by simp only[bit]at d⊢;exact qj (by simpa[tk]using h) d
 |true::a,ae::b,j,h,_=>by simp[tk]at h
 |true::a,[],j,h,_=>by simp[tk]at h
 |false::a,c::b,0,_,d=>by simp[bit]at d
 |false::a,c::b,j+1,h,d=>by simp only[bit]at d⊢;exact qj (by simpa[tk]using h) d
 |false::a,[],0,_,d=>by simp[bit]at d
 |false::a,[],j+1,h,d=>by simp only[bit]at d;have:=qj (j:=j) (by simpa[tk]using h) d;simp[bit]at this
def r7(T:List (Nat×TI))(CT:List (Nat×dv))(N:Nat)(ds:List (Nat×Bool))(all:List ar)(φm:List (Nat×D×Bool))(st:Dt)(o:ar):Option Dt :=
 match fW N o.dst with
 |false=>af
 |true =>
  dx (bU o.after.toList) λes =>
  match TP st.i es with
  |false=>af
  |true=>match we T CT ds all (jm (λj=>hZ j es) 0 st.pre (kR st.i all φm)) st.σ o with
   |none=>af
   |some (x,σ',obs) =>
    dx (FO st.cls es) λcl =>
    match σ',IP (jm (λj=>hZ j es) 0 st.pre (kR st.i all φm)) o with
    |none,ae=>dx (st.pre++[(o.dst,x)]) λpre=>dx (st.cls++[cl]) λcls=>dx (kO obs st.obs) λobs=>aa ⟨st.i+1,pre,st.σ,cls,st.zL,st.Nz,obs⟩
    |none,ab=>match tk st.zL cl with
     |true=>dx (st.pre++[(o.dst,x)]) λpre=>dx (st.cls++[cl]) λcls=>dx (kO obs st.obs) λobs=>dx (xY st.Nz (tj st.i)) λa=>aa ⟨st.i+1,pre,st.σ,cls,st.zL,a,obs⟩
     |false=>af
    |some σ',_=>match tk st.Nz cl with
     |true=>dx (st.pre++[(o.dst,x)]) λpre=>dx (st.cls++[cl]) λcls=>dx (kO obs st.obs) λobs=>dx (xY st.Nz (tj st.i)) λa=>dx (xY st.zL (tj st.i)) λb=>aa ⟨st.i+1,pre,σ',cls,b,a,obs⟩
     |false=>af
def NA(T:List (Nat×TI))(CT:List (Nat×dv))(N:Nat)(ds:List (Nat×Bool))(all:List ar)(φm:List (Nat×D×Bool)):List ar->Dt->Option Dt
 |[],st=>aa st
 |o::r,st=>match r7 T CT N ds all φm st o with
  |some qE=>NA T CT N ds all φm r qE
  |none=>af
def FP(T:List (Nat×TI))(CT:List (Nat×dv))(N:Nat)(ds:List (Nat×Bool))(all:List ar)(φ:Fr)(σ:List aP):Option (Fr×List aP×List Prop) :=
 match mv all with
 |false=>af
 |true=>dx (pj all φ) λφm=>match NA T CT N ds all φm all ⟨0,[],σ,[],[],[],[]⟩with
  |some st=>dx (jm (λ_=>ab) 0 st.pre (uO all φ)) λφ'=>aa (φ',st.σ,st.obs)
  |none=>af
section
open Go.Conc (G)
def jv:ar:=⟨af,.move (.tmp 0),0,"",#[],af⟩
section
variable (T:List (Nat×TI))(CT:List (Nat×dv))(N:Nat)(ds:List (Nat×Bool))(all:List ar)(φm:List (Nat×D×Bool))
def xZ(st:Dt):Nat->Dt
 |0=>st
 |i+1=>(r7 T CT N ds all φm (xZ st i) (all.getD i jv)).getD (xZ st i)
def PS(st:Dt)(i:Nat):Fr:=jm (λj=>hZ j (bU (all.getD i jv).after.toList)) 0 (xZ T CT N ds all φm st i).pre (kR (xZ T CT N ds all φm st i).i all φm)
def FQ(st:Dt)(i:Nat):Option (D×Option (List aP)×List Prop):=we T CT ds all (PS T CT N ds all φm st i) (xZ T CT N ds all φm st i).σ (all.getD i jv)
def xD(st:Dt)(i:Nat):D:=match FQ T CT N ds all φm st i with|some (x,_,_)=>x|none=>.any
def oT(st:Dt)(i:Nat):Bool:=match FQ T CT N ds all φm st i with|some (_,aa _,_)=>ab|_=>ae
def ui(st:Dt)(i:Nat):Bool:=!IP (PS T CT N ds all φm st i) (all.getD i jv)&&!oT T CT N ds all φm st i
def PT(st:Dt)(i:Nat):List Bool:=FO (xZ T CT N ds all φm st i).cls (bU (all.getD i jv).after.toList)
end
section
variable {T:List (Nat×TI)}{CT:List (Nat×dv)}{N:Nat}{ds:List (Nat×Bool)}{all:List ar}{φm:List (Nat×D×Bool)}
structure Jo(T:List (Nat×TI))(CT:List (Nat×dv))(N:Nat)(ds:List (Nat×Bool))(all:List ar)(φm:List (Nat×D×Bool))(st qE:Dt)(o:ar)(x:D)(σ':Option (List aP))(obs:List Prop):Prop where
 dst:fW N o.dst=ab
 lt:TP st.i (bU o.after.toList)=ab
 op:we T CT ds all (jm (λj=>hZ j (bU o.after.toList)) 0 st.pre (kR st.i all φm)) st.σ o=aa (x,σ',obs)
 i:qE.i=st.i+1
 pre:qE.pre=st.pre++[(o.dst,x)]
 cls:qE.cls=st.cls++[FO st.cls (bU o.after.toList)]
 σ:qE.σ=σ'.getD st.σ
 obs:qE.obs=kO obs st.obs
 eff:qE.zL=if σ'.isSome=ab then xY st.zL (tj st.i)else st.zL
 nf:qE.Nz=if(IP (jm (λj=>hZ j (bU o.after.toList)) 0 st.pre (kR st.i all φm)) o||σ'.isSome)=ab then xY st.Nz (tj st.i)else st.Nz
 load:IP (jm (λj=>hZ j (bU o.after.toList)) 0 st.pre (kR st.i all φm)) o=ab->σ'.isSome=ae->tk st.zL (FO st.cls (bU o.after.toList))=ab
 ju:σ'.isSome=ab->tk st.Nz (FO st.cls (bU o.after.toList))=ab
def Bz{st qE:Dt}{o:ar}(h:r7 T CT N ds all φm st o=aa qE):∃x σ' obs,Jo T CT N ds all φm st qE o x σ' obs:=by
 unfold r7 at h;split at h
 .cases h
 rename_i b;simp only[c8]at h;split at h
 .cases h
 rename_i a;split at h
 .cases h
 rename_i x σ' obs mo;refine⟨x,σ',obs,?_⟩;cases σ' with
 |none =>
  cases d:IP (jm (λj=>hZ j (bU o.after.toList)) 0 st.pre (kR st.i all φm)) o with
  |false =>
   simp only[d,c8]at h;cases h;exact⟨b,a,mo,rfl,rfl,rfl,rfl,rfl,by simp,by grind,by grind,by simp⟩
  |true =>
   simp only[d,c8]at h;split at h
   .rename_i c;cases h;exact⟨b,a,mo,rfl,rfl,rfl,rfl,rfl,by simp,by grind,λ_ _=>c,by simp⟩
   grind
 |some σ' =>
  simp only[c8]at h;split at h
  .rename_i c;cases h;exact⟨b,a,mo,rfl,rfl,rfl,rfl,rfl,by simp,by simp,by simp,λ_=>c⟩
  grind
def FR{st sf:Dt}:∀{rest:List ar}{k:Nat},(∀i,rest[i]?=all[k+i]?)->NA T CT N ds all φm rest (xZ T CT N ds all φm st k)=aa sf ->
  (∀i o,rest[i]?=aa o->r7 T CT N ds all φm (xZ T CT N ds all φm st (k+i)) o=aa (xZ T CT N ds all φm st (k+i+1)))/\xZ T CT N ds all φm st (k+rest.length)=sf
 |[],k,_,h=>by cases h;grind
 |p::r,k,c,h=>by
  simp only[NA]at h;have d:all[k]?=aa p:=by have:=c 0;grind
  split at h
  .rename_i a b;have e:xZ T CT N ds all φm st (k+1)=a:=by simp only[xZ,an,d,ik,b]
   rw[<-e]at h;obtain⟨g,f⟩:=FR (rest:=r) (k:=k+1) (λi=>by have:=c (i+1);grind) h;grind
  grind
theorem Jp{j:Nat}:∀{l:List Nat},hZ j l=ab->j∈l:=by
 intro l;induction l with
 |nil=>intro h;cases h
 |cons a r b =>
  intro h;simp only[hZ]at h;grind[Nat.eq_of_beq_eq_true]
def Jq{P:aq}{X:Cx P}(hf:P.follows Departure.mixedOrders=ab)(hT:cT P T)(hC:bF X CT){ops:Array ar}{φ φ':Fr}{σ σ':List aP}{obs:List Prop}(h:FP T CT N ds ops.toList φ σ=aa (φ',σ',obs))(ab4:ay obs){Q:Post}(hQ:Q .normal φ' σ')(id:Nat):
  AW X N (.region id ops ab) Q φ σ:=by
 unfold FP at h;split at h
 .cases h
 rename_i Uu;rw[c8]at h;split at h
 case h_2=>cases h
 rename_i sf wj;rw[c8]at h;cases h;generalize Rg:ops.toList=all at *;generalize XL:pj all φ=φm at *;have I:∀i:Nat,ops[i]?=all[i]?:=λi=>by grind
 have DG:ops.size=all.length:=by grind
 let g:Dt:=⟨0,[],σ,[],[],[],[]⟩
 obtain⟨J,E⟩:=FR (T:=T) (CT:=CT) (N:=N) (ds:=ds) (φm:=φm) (st:=g) (rest:=all) (k:=0) (λi=>by simp) wj;simp only[bC]at J E;let F:=xZ T CT N ds all φm g;have r:∀i o,all[i]?=aa o->all.getD i jv=o:=λi o h=>by grind
 have ZV:∀i o,all[i]?=aa o->PS T CT N ds all φm g i=(jm (λj=>hZ j (bU (o).after.toList)) 0 (F i).pre (kR (F i).i all φm)):=λi o h=>by unfold PS;grind
 have facts:∀i o,all[i]?=aa o->∃G,Jo T CT N ds all φm (F i) (F (i+1)) o (xD T CT N ds all φm g i) (if oT T CT N ds all φm g i=ab then aa (F (i+1)).σ else af) G:=by
  intro i o q;obtain⟨x,σ1,G,n⟩:=Bz (J i o q);have y:=n.op;have hR:FQ T CT N ds all φm g i=aa (x,σ1,G):=by unfold FQ PS;grind
  have hx:xD T CT N ds all φm g i=x:=by unfold xD;rw[hR]
  cases σ1 with
  |none =>
   have A:oT T CT N ds all φm g i=ae:=by unfold oT;rw[hR]
   grind
  |some σ2 =>
   have A:oT T CT N ds all φm g i=ab:=by unfold oT;rw[hR]
   have hσ2:(F (i+1)).σ=σ2:=n.σ;grind
 have R:∀i,i<=all.length->(F i).i=i:=by
  intro i;induction i with
  |zero=>intro _;rfl
  |succ i C =>
   intro hi;obtain⟨_,n⟩:=facts i _ (br (by omega));rw[n.i,C (by omega)]
 have Uv:∀i,i<=all.length->∀j,(F i).pre[j]?=if j<i then(all[j]?).map (λo=>(o.dst,xD T CT N ds all φm g j))else af:=by
  intro i;induction i with
  |zero=>intro _ j;simp[F,xZ,g]
  |succ i C =>
   intro hi j;obtain⟨_,n⟩:=facts i _ (br (by omega));have hlen:(F i).pre.length=i:=by
    apply Nat.le_antisymm
    .grind
    grind
   rw[n.pre];grind
 have XM:∀i,i<=all.length->∀j,(F i).cls[j]?=if j<i then aa (PT T CT N ds all φm g j)else af:=by
  intro i;induction i with
  |zero=>intro _ j;simp[F,xZ,g]
  |succ i C =>
   intro hi j;obtain⟨_,n⟩:=facts i _ (br (by omega));have hlen:(F i).cls.length=i:=by
    apply Nat.le_antisymm
    .apply Nat.le_of_not_lt;intro u;have:=C (by omega) i;grind
    grind
   rw[n.cls];by_cases XN:j<i
   .grind
   .rw[gz (by omega)];by_cases e:j=i
    .subst e;rw[bl (by omega),hlen,Nat.sub_self];simp only[lb,PT,r j _ (br (by omega:j<all.length))];rfl
    grind
 have ab6:∀i,i<=all.length->∀j,bit (F i).zL j=(decide (j<i)&&oT T CT N ds all φm g j):=by
  intro i;induction i with
  |zero=>intro _ j;simp[F,xZ,g,bit]
  |succ i C =>
   intro hi j;obtain⟨_,n⟩:=facts i _ (br (by omega));rw[n.eff];cases A:oT T CT N ds all φm g i with
   |false =>
    grind
   |true =>
    simp only[cn,Option.isSome_some];rw[mx,C (by omega) j,r6,R i (by omega)];by_cases e:j=i
    .grind
    grind
 have nfI:∀i,i<=all.length->∀j,bit (F i).Nz j=(decide (j<i)&&!ui T CT N ds all φm g j):=by
  intro i;induction i with
  |zero=>intro _ j;simp[F,xZ,g,bit]
  |succ i C =>
   intro hi j;obtain⟨_,n⟩:=facts i _ (br (by omega));have Uw:(if oT T CT N ds all φm g i=ab then aa (F (i+1)).σ else af).isSome=oT T CT N ds all φm g i:=by cases oT T CT N ds all φm g i<;>rfl
   have Ds:ui T CT N ds all φm g i=!(IP (jm (λj=>hZ j (bU (all[i]'(by omega)).after.toList)) 0 (F i).pre (kR (F i).i all φm)) (all[i]'(by omega))||oT T CT N ds all φm g i):=by unfold ui;rw[ZV i _ (br (by omega)),r i _ (br (by omega))];simp
   rw[n.nf,Uw];cases A:(IP (jm (λj=>hZ j (bU (all[i]'(by omega)).after.toList)) 0 (F i).pre (kR (F i).i all φm)) (all[i]'(by omega))||oT T CT N ds all φm g i)with
   |false =>
    grind
   |true =>
    simp only[cn];rw[mx,C (by omega) j,r6,R i (by omega)];by_cases e:j=i
    .grind
    grind
 have Z:∀i,i<=all.length->ay (F i).obs:=by
  have back:∀k i,i+k=all.length->ay (F i).obs:=by
   intro k;induction k with
   |zero =>
    grind
   |succ k C =>
    intro i hi;obtain⟨_,n⟩:=facts i _ (br (by omega));have:=C (i+1) (by omega);rw[n.obs,ay.cat]at this;exact this.2
  intro i hi;exact back (all.length-i) i (by omega)
 have oaI:∀i o,all[i]?=aa o->OA X N all o (PS T CT N ds all φm g i) (F i).σ (xD T CT N ds all φm g i) (F (i+1)).σ:=by intro i o q;have hi:i<all.length:=(bZ.1 q).1;obtain⟨_,n⟩:=facts i o q;have MZ:=Z (i+1) (by omega);rw[n.obs,ay.cat]at MZ;have:=gD (P:=P) (N:=N) hT hC n.op MZ.1;rw[n.σ];grind
 let idx:Nat->Option Nat:=λt=>(bd all.length).find? (λi=>decide ((all.getD i jv).dst=aa t));have M:∀t j,idx t=aa j->∃o,all[j]?=aa o/\o.dst=aa t:=by grind
 have O:∀i o d,all[i]?=aa o->o.dst=aa d->idx d=aa i:=by
  intro i o d q hd;have hi:i<all.length:=(bZ.1 q).1;cases hx:idx d with
  |none =>
   grind
  |some j =>
   grind[th]
 have W:∀t,ph t all=ab↔∃j,idx t=aa j:=by grind[qi,r5]
 have Y:∀i o,all[i]?=aa o->∀e∈o.after,dm e=ab->e.on<i:=by intro i o q e A S;have hi:i<all.length:=(bZ.1 q).1;obtain⟨_,n⟩:=facts i o q;have:=DN n.lt e.on (eP.2 ⟨e,by grind,S,rfl⟩);grind
 have ZW:=Y;have hd:wa X N ops φ (λi=>(F i).σ) (xD T CT N ds all φm g) (PS T CT N ds all φm g) (ui T CT N ds all φm g) (λi=>decide (i<all.length)&&oT T CT N ds all φm g i) (λi j=>i<all.length/\bit (PT T CT N ds all φm g i) j=ab) idx (jm (λ_=>ab) 0 sf.pre (uO all φ)):=by
  refine⟨hf,?_,?_,?_,?_,?_,?_,?_,?_,?_,?_⟩
  .grind
  .intro i o d q hd;rw[I]at q;obtain⟨_,n⟩:=facts i o q;exact⟨O i o d q hd,gC n.dst d hd⟩
  .grind
  .intro i A;rcases cG i all.length with hi|hi
   .obtain⟨_,n⟩:=facts i _ (br hi);have:oT T CT N ds all φm g i=ae:=by grind
    have hσ:=n.σ;grind
   .have h0:all.getD i jv=jv:=by grind
    show(F (i+1)).σ=(F i).σ;have:r7 T CT N ds all φm (F i) jv=af∨∃s',r7 T CT N ds all φm (F i) jv=aa s':=by
     cases r7 T CT N ds all φm (F i) jv with
     |none=>grind
     |some s'=>grind
    show((r7 T CT N ds all φm (F i) (all.getD i jv)).getD (F i)).σ=(F i).σ;rw[h0];rcases this with h|⟨s',h⟩
    .grind
    .rw[h];obtain⟨x,σ1,ob,n⟩:=Bz h;have y:=n.op;have:σ1=af:=by unfold we at y;simp only[jv,Ny,W2,Jr,nt]at y;grind
     rw[ik,n.σ,this];rfl
  .grind
  .intro i o q FT;rw[I]at q;have hi:i<all.length:=(bZ.1 q).1;have p:IP (jm (λj=>hZ j (bU (o).after.toList)) 0 (F i).pre (kR (F i).i all φm)) o=ae/\oT T CT N ds all φm g i=ae:=by unfold ui at FT;grind
   refine⟨by grind,λk=>?_⟩;obtain⟨ob,n⟩:=facts i o q;have y:=n.op;rw[p.2]at y;have XO:=Jn p.1 (by simpa using y) (F k).σ;have MZ:=Z (i+1) (by omega);rw[n.obs,ay.cat]at MZ;have:=gD (P:=P) (N:=N) hT hC XO MZ.1;grind
  .intro L hL i j ⟨hi,S⟩;have fj:∀i,i<all.length->L i->∀e,e∈bU (all.getD i jv).after.toList->L e:=by intro i hi ZX e A;rw[r i _ (br hi)]at A;obtain⟨e',U,h2,rfl⟩:=eP.1 A;grind
   have key:∀i,i<all.length->∀j,bit (PT T CT N ds all φm g i) j=ab->(∀e∈bU (all.getD i jv).after.toList,L e)->L j:=by
    intro i;induction i using Nat.strongRecOn with
    |_ i C =>
     intro hi j S Ux;obtain⟨e,A,h⟩:=zM S;have u:e<i:=by have Q4:=A;rw[r i _ (br hi)]at Q4;obtain⟨e',U,h2,rfl⟩:=eP.1 Q4;grind
     rcases h with rfl|⟨c,hc,Ng⟩
     .grind
     .have:=XM i (by omega) e;rw[bl u]at this;have Xv:(F i).cls[e]?=aa c:=hc;rw[Xv]at this;cases this;exact C e u (by omega) j Ng (fj e (by omega) (Ux e A))
   refine⟨λZX=>key i hi j S (fj i hi ZX),all[i],by grind,λRe=>key i hi j S ?_⟩;grind[List.getElem?_eq_getElem,eP]
  .intro i f hi TO A Bi ZY;rw[DG]at hi TO;have Q4:oT T CT N ds all φm g f=ab:=by grind
   rcases cG f i with u|QY
   .refine .inl ⟨u,hi,?_⟩;obtain⟨_,n⟩:=facts i _ (br hi);have Dz:PT T CT N ds all φm g i=FO (F i).cls (bU (all[i]).after.toList):=by unfold PT;grind
    rw[Dz];cases hei:oT T CT N ds all φm g i with
    |true =>
     have U:=n.ju (by grind);refine qj U ?_;rw[nfI i (by omega) f];have:ui T CT N ds all φm g f=ae:=by unfold ui;grind
     grind
    |false =>
     have W3:IP (jm (λj=>hZ j (bU (all[i]).after.toList)) 0 (F i).pre (kR (F i).i all φm)) all[i]=ab:=by unfold ui at ZY;rw[ZV i _ (br hi),r i _ (br hi),hei]at ZY;grind
     have U:=n.load W3 (by grind);grind[qj]
   .have u:i<f:=by omega
    refine .inr ⟨u,TO,?_⟩;obtain⟨_,n⟩:=facts f _ (br TO);have Dz:PT T CT N ds all φm g f=FO (F f).cls (bU (all[f]).after.toList):=by unfold PT;grind
    rw[Dz];have U:=n.ju (by grind);grind[qj]
  .intro i o q t σ s v V;rw[I]at q;have hi:i<all.length:=(bZ.1 q).1;unfold PS;rw[r i o q];rcases nv (m:=λj=>hZ j (bU o.after.toList)) (φ:=kR (F i).i all φm) (t:=t) (l:=(F i).pre) (i:=0)with⟨j,x,U,h2,h3⟩|h3
   .have XP:look (jm (λj=>hZ j (bU o.after.toList)) 0 (xZ T CT N ds all φm g i).pre (kR (xZ T CT N ds all φm g i).i all φm)) t=x:=h3;rw[XP];have hp:=Uv i (by omega) j;rw[U]at hp;have XN:j<i:=by grind
    rw[bl XN,br (by omega:j<all.length)]at hp;simp only[n8,dr,lS]at hp;obtain⟨hp1,hp2⟩:=hp;have z:=O j _ t (br (by omega:j<all.length)) hp1.symm;rw[z]at V;simp only at V;rw[bl]at V
    .grind
    .have XQ:j∈bU o.after.toList:=by simp only[bC]at h2;exact Jp h2
     obtain⟨e,a,b,c⟩:=eP.1 XQ;grind
   .have XP:look (jm (λj=>hZ j (bU o.after.toList)) 0 (xZ T CT N ds all φm g i).pre (kR (xZ T CT N ds all φm g i).i all φm)) t=look (kR (F i).i all φm) t:=h3;rw[XP,R i (by omega),<-XL,ym];split
    .trivial
    .rename_i ZZ;cases z:idx t with
     |some j =>
      have hD:=(W t).2 ⟨j,z⟩;have hN:wh i t all=ae:=by grind
      obtain⟨oj,XH,XI⟩:=M t j z;have hm:=Jp (wi hN j oj XH XI);obtain⟨e,A,S,heq⟩:=eP.1 hm;rw[z]at V;simp only at V;split at V
      ·
       rename_i hex;obtain⟨e2,WR,Z0,acb⟩:=hex;grind
      .rw[bl ⟨oj,by grind,e,by grind,S,heq⟩]at V;exact V
     |none=>grind
  .intro t σ s v V;have hF:F all.length=sf:=E;rcases nv (m:=λ_=>ab) (φ:=uO all φ) (t:=t) (l:=sf.pre) (i:=0)with⟨j,x,U,_,h3⟩|h3
   .rw[h3];have hp:=Uv all.length (bg _) j;rw[hF,U]at hp;have XN:j<all.length:=by grind
    grind
   .rw[h3,lO];split
    .trivial
    grind
 intro s a Ds hh b kk cs SS S XR;have MV:F ops.size=sf:=by grind
 refine .next rfl λB K=>?_;have K:=X.iv K;have H:=hh.rely K;have XS:=Ds.rely K hh;have Rh:Step σ B σ {B with w:={B.w with drawn:=B.w.drawn+1}}:=Step.same rfl rfl rfl rfl;have MW:aE σ {B with w:={B.w with drawn:=B.w.drawn+1}}:=H.same rfl;have Z1:=K.stepW.trans (Rh.na H);refine⟨_,{B with w:={B.w with drawn:=B.w.drawn+1}},#[],lU,⟨⟨σ,σ,H,MW,Rh⟩,.nil⟩,?_⟩;simp only[Region.schedule,hf,Bool.true_or,cn];refine hd.arr S (s0:={B with w:={B.w with drawn:=B.w.drawn+1}}) (λs2 a2 f2 h2 nV=>?_) ops.size _ (by simp) ?_ ?_ 0 _ a (by omega) ?_ ?_ MW (.refl _ _) _
 .simp only[MV]at f2 h2 nV;exact XR .normal _ _ s2 a2 hQ f2 h2 (Z1.trans nV)
 .simp
 .intro i o q hi;simp[dN,mS]at hi;split at hi<;>simp at hi
 .intro f TO W1;simp[dN,mS];split<;>simp
 .have p:=XS.mono (Rh.na H) H.len;refine⟨p.size,p.defers,λt=>?_⟩;unfold gp;cases z:idx t with
  |none=>exact p.slot t
  |some j =>
   simp only;rw[aY]
   .exact p.slot t
   .simp[dN,mS];split<;>simp
end
end
section
variable {P:aq}{X:Cx P}{N:Nat}{Qf:Post}{K:List It}{φ:Fr}{σ:List aP}
theorem AK.draw{T:List (Nat×TI)}{CT:List (Nat×dv)}(b:P.follows Departure.mixedOrders=ab)(hT:cT P T)(hC:bF X CT){ds:List (Nat×Bool)}{ops:Array ar}{φ':Fr}{σ':List aP}{obs:List Prop}{id:Nat}(h:FP T CT N ds ops.toList φ σ=aa (φ',σ',obs))(a:ay obs)(k:AK X N Qf K .normal φ' σ'):AK X N Qf (.code (.region id ops ab)::K) .normal φ σ :=
 Jq b hT hC h a k id
end
def vY(T:List (Nat×TI))(CT:List (Nat×dv))(ds:List (Nat×Bool))(N:Nat)(K:List It)(φ:Fr)(σ:List aP):Option (List It×Fr×List aP×List Prop) :=
 match K with
 |[]=>af
 |.blk _::K=>aa (K,φ,σ,[])
 |.ops _ []::K=>aa (K,φ,σ,[])
 |.ops all (o::rest)::K=>match fW N o.dst with
  |true=>match we T CT ds all φ σ o with
   |some (x,af,obs)=>dx (kl o.dst x φ) λφ=>aa (.ops all rest::K,φ,σ,obs)
   |some (x,aa σ',obs)=>dx (kl o.dst x φ) λφ=>aa (.ops all rest::K,φ,σ',obs)
   |none=>af
  |false=>af
 |.code c::K=>match c with
  |.skip=>aa (K,φ,σ,[])
  |.seq x y=>aa (.code x::.code y::K,φ,σ,[])
  |.block id c=>aa (.code c::.blk id::K,φ,σ,[])
  |.region id ops d=>match BC ds (id+1000000)with
   |some _=>af
   |none=>match d with
    |false=>aa (.ops ops.toList ops.toList::K,φ,σ,[])
    |true=>match FP T CT N ds ops.toList φ σ with
     |some (φ',σ',obs)=>aa (K,φ',σ',obs)
     |none=>af
  |.exit id=>match jO id K with
   |some K'=>aa (K',φ,σ,[])
   |none=>af
  |.cond (.tmp t) x y=>match look φ t with
   |.e (.one (.c (.bool ab)))=>aa (.code x::K,φ,σ,[])
   |.e (.one (.c (.bool ae)))=>aa (.code y::K,φ,σ,[])
   |_=>af
  |_=>af
theorem Kj{P:aq}{X:Cx P}(j:P.follows Departure.mixedOrders=ab){T:List (Nat×TI)}(hT:cT P T){CT:List (Nat×dv)}(i:bF X CT){ds:List (Nat×Bool)}{N:Nat}{Qf:Post}{K d:List It}{φ φ':Fr}{σ σ':List aP}{obs:List Prop}(h:vY T CT ds N K φ σ=aa (d,φ',σ',obs))(e:ay obs)(k:AK X N Qf d .normal φ' σ'):AK X N Qf K .normal φ σ:=by
 unfold vY at h;split at h
 .cases h
 .grind [AK.RY]
 .grind [AK.Ki]
 .rename_i all o rest K0;cases g:fW N o.dst with
  |false=>grind
  |true =>
   simp only[g]at h;have f:=gC g;split at h
   .rename_i x a b;rw[c8]at h;cases h;exact ia.zZ (gD hT i b e) f k
   .rename_i x σ1 a b;rw[c8]at h;cases h;exact ia.zZ (gD hT i b e) f k
   grind
 .rename_i c K0;split at h
  .grind [AK.skip]
  .grind [AK.seq]
  .grind [AK.block]
  .grind [AK.region,AK.draw]
  .grind [AK.exit]
  .grind [AK.cond]
  grind
def kX(T:List (Nat×TI))(CT:List (Nat×dv))(ds:List (Nat×Bool))(N:Nat):Nat->List It->Fr->List aP->List Prop->Option (List It×Fr×List aP×List Prop)
 |0,K,φ,σ,obs=>dx obs λobs=>aa (K,φ,σ,obs)
 |n+1,K,φ,σ,obs=>match vY T CT ds N K φ σ with
  |some (a,φ',σ',o)=>kX T CT ds N n a φ' σ' (kO o obs)
  |none=>dx obs λobs=>aa (K,φ,σ,obs)
def Gh{P:aq}{X:Cx P}(e:P.follows Departure.mixedOrders=ab){T:List (Nat×TI)}(hT:cT P T){CT:List (Nat×dv)}(f:bF X CT){ds:List (Nat×Bool)}{N:Nat}{Qf:Post}:∀{n:Nat}{K a:List It}{φ φ':Fr}{σ σ':List aP}{obs DT:List Prop},
  kX T CT ds N n K φ σ obs=aa (a,φ',σ',DT)->ay DT->AK X N Qf a .normal φ' σ'->AK X N Qf K .normal φ σ/\ay obs
 |0,K,a,φ,φ',σ,σ',obs,DT,h,b,k=>by simp only[kX,c8]at h;grind
 |n+1,K,a,φ,φ',σ,σ',obs,DT,h,b,k=>by
  simp only[kX]at h;cases d:vY T CT ds N K φ σ with
  |none =>
   grind[c8]
  |some r =>
   obtain⟨j,c,σ1,i⟩:=r;simp only[d]at h;obtain⟨l,g⟩:=Gh e hT f h b k;grind[ay.cat,Kj]
def AK.kX{P:aq}{X:Cx P}(d:P.follows Departure.mixedOrders=ab){T:List (Nat×TI)}(hT:cT P T){CT:List (Nat×dv)}(hC:bF X CT)(ds:List (Nat×Bool)){N:Nat}{Qf:Post}(n:Nat){K b:List It}{φ φ':Fr}{σ σ':List aP}{a:List Prop}(h:AM.kX T CT ds N n K φ σ []=aa (b,φ',σ',a))(c:ay a)(k:AK X N Qf b .normal φ' σ'):AK X N Qf K .normal φ σ:=(Gh d hT hC h c k).1
section
variable {P:aq}{X:Cx P}{N:Nat}{Qf:Post}{K:List It}{φ:Fr}{σ:List aP}
def zH(rs:List ResultVar)(ks:List Nat)(φ:Fr)(res:D):Option (List Prop) :=
 match xV φ rs with
 |some ds=>match rW ds with
  |some d=>match vP ks.length res with
   |true=>Dr d (hY ks res)
   |false=>af
  |none=>af
 |none=>af
def AK.cY{fn:Func}{a:Nat}{res:D}{σ':List aP}(ks:List Nat){ps:List Prop}(h:zH fn.results.toList ks φ res=aa ps)(d:ay ps)(c:jH ks σ=aa σ')(b:kn σ'=ab)(e:dy ks=ab)(hk:∀j,j<a->ks[j]?=aa j):
  AK X N (cw fn a res σ') (.code .ret::K) .normal φ σ:=by refine AK.ret ⟨.inl rfl,ks,?_⟩;unfold zH at h;grind
def AK.bx{fn:Func}{res:D}{ps:List Prop}(h:zH fn.results.toList [] φ res=aa ps)(a:ay ps:=by simp):AK X N (cw fn 0 res []) (.code .ret::K) .normal φ σ :=
 AK.cY [] h a rfl rfl rfl (λj h=>by omega)
def cw.zero{fn:Func}{res:D}{ps:List Prop}(h:zH fn.results.toList [] φ res=aa ps)(c:ay ps:=by simp):cw fn 0 res [] .ret φ σ:=by
 refine⟨.inl rfl,[],?_⟩;unfold zH at h;split at h
 .rename_i ds Yo;split at h
  .rename_i d b;split at h
   .rename_i a;exact⟨ds,d,ps,Yo,b,h,c,a,rfl,rfl,rfl,λj h=>by omega⟩
   grind
  grind
 grind
def AK.leave{id:Nat}{φ:Fr}{σ:List aP}{A:Fr->List aP->Prop}{Qr:Post}{K g l:List It}(h1:jO id K=af)(h2:jO id g=aa l)(k:AK X N Qr l .normal φ σ):
  AK X N (λe φ' σ'=>match e with
   |.normal=>A φ' σ'
   |e=>AK X N Qr g e φ' σ') (.code (.exit id)::K) .normal φ σ:=by
 have key:∀{K:List It},jO id K=af->∀{Q:Post},Q (.exit id) φ σ->AK X N Q K (.exit id) φ σ:=by
  intro K;induction K with
  |nil=>intro _ Q h;exact h
  |cons i r f =>
   intro hk Q h;cases i with
   |code c=>exact f (by simpa[jO]using hk) h
   |ops a b=>exact f (by simpa[jO]using hk) h
   |blk j =>
    simp only[jO]at hk;cases m:aA id j with
    |true=>grind
    |false =>
     simp[m]at hk;have d:id≠j:=λe=>by grind[Nat.beq_refl]
     simp only[AK,d,b9];grind
 exact AW.exit (key h1 (AK.wH h2 k))
def AK.iC{φ:Fr}{σ:List aP}{A:Fr->List aP->Prop}{Qr:Post}{K a:List It}(k:Qr .ret φ σ):
  AK X N (λe φ' σ'=>match e with
   |.normal=>A φ' σ'
   |e=>AK X N Qr a e φ' σ') (.code .ret::K) .normal φ σ:=AK.ret (AK.sq (Qf:=Qr) k)
def AK.again{S:Type}{I:S->Prop}{fr:S->Fr}{st:S->List aP}{a:S->Nat}{x:S}{Qr:Post}(y:S){ps:List Prop}(b:nA φ (fr y)=aa ps)(g:ay ps)(f:I y)(d:a y<a x)(c:σ=st y):
  AK X N (λe φ' σ'=>match e with
   |.normal=>∃y,I y/\a y<a x/\oq φ' (fr y)/\σ'=st y
   |e=>Qr e φ' σ') [] .normal φ σ:=⟨y,f,d,cX b g,c⟩
def AK.wI{S:Type}{c:Code}(I:S->Prop)(fr:S->Fr)(st:S->List aP)(b:S->Nat)(x:S){ps:List Prop}(a:nA φ (fr x)=aa ps)(g:ay ps)(f:I x)(d:st x=σ)(round:∀x,I x->AK X N (λe φ' σ'=>match e with
   |.normal=>∃y,I y/\b y<b x/\oq φ' (fr y)/\σ'=st y
   |e=>AK X N Qf K e φ' σ') [.code c] .normal (fr x) (st x)):AK X N Qf (.code (.loop c)::K) .normal φ σ :=
 AK.loop I fr st b x f (cX a g) d round
def Fits(args:List D)(σ:List aP):Prop:=∃s vs,ck σ s vs args/\aE σ s
def Fits.at{args:List D}{σ:List aP}(h:Fits args σ){j:Nat}{d:D}(hj:args[j]?=aa d):∃s v,dn σ s v d:=by obtain⟨s,vs,a,_⟩:=h;obtain⟨_,b⟩:=ck.get a;grind
def Fits.str{args:List D}{σ:List aP}(h:Fits args σ)(j:Nat){l:List UInt8}(hj:args[j]?=aa (.e (.one (.c (.str l))))):l.length<=9223372036854775807:=by
 obtain⟨s,v,a⟩:=h.at hj;cases eY a with
 |str h hl=>exact hl
def Fits.sl{args:List D}{σ:List aP}(h:Fits args σ)(j:Nat){t:Bool}{k n:Nat}{es:Nat->List C}(hj:args[j]?=aa (.e (.one (.c (.sl t k n es))))):n<=9223372036854775807:=by
 obtain⟨s,v,d⟩:=h.at hj;cases eY d with
 |sl b off f a g=>omega
def Ev.body{f:aH}{fn:Func}{c:Code}{args:List D}{σ σ':List aP}{res:D}(d:P.funcs[f]?=aa fn)(a:(fn.name== "runtime.NumGoroutine")=ae)(e:fn.body=aa c)(b:bw args.length fn.ntmps=ab)(h:Fits args σ->AK X fn.ntmps (cw fn σ.length res σ') [.code c] .normal (iY 0 args) σ):Ev X f args σ res σ':=by refine⟨⟨fn,d,a,by grind⟩,λs vs hr hh=>?_⟩;exact(Ev.intro d a e (cZ b) (AK.of_code (h ⟨s,vs,hr,hh⟩))).2 s vs hr hh
def Ev.bQ{f:aH}{fn:Func}{c:Code}{args:List D}{σ σ':List aP}{res:D}(b:P.funcs[f]?=aa fn)(a:(fn.name== "runtime.NumGoroutine",fn.body,bw args.length fn.ntmps)=(ae,aa c,ab))(h:Fits args σ->AK X fn.ntmps (cw fn σ.length res σ') [.code c] .normal (iY 0 args) σ):Ev X f args σ res σ':=by simp only[lS]at a;exact Ev.body b a.1 a.2.1 a.2.2 h
def AK.join{c:Code}{b:List It}(φ':Fr)(σ':List aP)(h:(∀(a:Fr)(ps:List Prop),nA a φ'=aa ps->ay ps->AK X N Qf (.code c::b) .normal a σ')->AK X N Qf K .normal φ σ)(k:AK X N Qf (.code c::b) .normal φ' σ'):AK X N Qf K .normal φ σ :=
 h λ_ _ h1 h2=>AW.le k (cX h1 h2)
end
section
open Go.Conc (G)
def D4(σ σ':List aP):Prop:=∀(s:St),aE σ s->aE σ' s/\Step σ s σ' s/\∀(v:ah)(d:D),dn σ s v d->dn σ' s v d
def Yp:aP->aP->Option (List Prop)
 |.vec E k n es,.vec E' k' n' es'=>match aA E E',aA k k' with
  |true,ab=>aa [n=n',cy n es es']
  |_,_=>af
 |.cells E cs,.cells E' nb=>match aA E E' with
  |true=>Qb cs nb
  |false=>af
 |.dead,.dead=>aa []
 |.cf H,.cf H'=>aa [H=H']
 |.loop N φ r,.loop N' φ' r'=>aa [aP.loop N φ r=aP.loop N' φ' r']
 |.qX,.qX=>aa []
 |.buf E k n es,.buf E' k' n' es'=>match aA E E',aA k k' with
  |true,ab=>aa [n=n',cy n es es']
  |_,_=>af
 |_,_=>af
def oV:List aP->List aP->Option (List Prop)
 |[],[]=>aa []
 |a::r,b::q=>match Yp a b with
  |some p=>match oV r q with
   |some ps=>aa (kO p ps)
   |none=>af
  |none=>af
 |_,_=>af
def N2(B B':aP):Prop :=
 (∀E k n es,B=.vec E k n es->∃es',B'=.vec E k n es'/\cy n es es')/\((∀E k n es,B≠.vec E k n es)->(∀E k n es,B'≠.vec E k n es)/\(B=B'∨(∃E cs nb,B=.cells E cs/\B'=.cells E nb/\∀σ s vs,dW σ s vs cs->dW σ s vs nb)∨∃E k n es es',B=.buf E k n es/\B'=.buf E k n es'/\cy n es es'))
theorem RJ{B B':aP}{ps:List Prop}(h:Yp B B'=aa ps)(d:ay ps):N2 B B':=by
 unfold Yp at h;split at h
 .rename_i E k n es E' k' n' es';split at h
  .rename_i a f;cases h;have b:=bR a;have i:=bR f;obtain⟨g,j⟩:n=n'/\cy n es es':=d;subst b i g;refine⟨λE0 k0 n0 WM he=>?_,λl=>absurd rfl (l _ _ _ _)⟩;grind
  grind
 .rename_i E cs E' nb;split at h
  .rename_i a;have b:=bR a;subst b;exact⟨λ_ _ _ _ he=>(by cases he),λ_=>⟨λ_ _ _ _ he=>(by cases he),.inr (.inl ⟨E,cs,nb,rfl,rfl,λσ s vs r=>D6 h d r⟩)⟩⟩
  grind
 .exact⟨λ_ _ _ _ he=>(by cases he),λ_=>⟨λ_ _ _ _ he=>(by cases he),.inl rfl⟩⟩
 .cases h;rename_i H H';have e:H=H':=d;subst e;exact⟨λ_ _ _ _ he=>(by cases he),λ_=>⟨λ_ _ _ _ he=>(by cases he),.inl rfl⟩⟩
 .cases h;rename_i N φ r m φ' r';have e:aP.loop N φ r=aP.loop m φ' r':=d;exact⟨λ_ _ _ _ he=>(by cases he),λ_=>⟨λ_ _ _ _ he=>(by cases he),.inl e⟩⟩
 .exact⟨λ_ _ _ _ he=>(by cases he),λ_=>⟨λ_ _ _ _ he=>(by cases he),.inl rfl⟩⟩
 .rename_i E k n es E' k' n' es';split at h
  .rename_i a f;cases h;have b:=bR a;have i:=bR f;obtain⟨g,j⟩:n=n'/\cy n es es':=d;subst b i g;exact⟨λ_ _ _ _ he=>(by cases he),λ_=>⟨λ_ _ _ _ he=>(by cases he),.inr (.inr ⟨E,k,n,es,es',rfl,rfl,j⟩)⟩⟩
  grind
 grind
def BQ:∀{σ σ':List aP}{ps:List Prop},oV σ σ'=aa ps->ay ps->σ'.length=σ.length/\∀(l:Nat)(B B':aP),σ[l]?=aa B->σ'[l]?=aa B'->N2 B B'
 |[],[],_,_,_=>⟨rfl,λl B B' h=>by grind⟩
 |[],_::_,_,h,_=>by cases h
 |_::_,[],_,h,_=>by cases h
 |a::r,b::q,ps,h,d=>by
  simp only[oV]at h;split at h
  .rename_i p f;split at h
   .rename_i p2 h2;cases h;rw[ay.cat]at d;obtain⟨g,e⟩:=BQ h2 d.2;grind[RJ]
   grind
  grind
def gU{σ σ':List aP}{ps:List Prop}(h:oV σ σ'=aa ps)(hp:ay ps):D4 σ σ':=by
 obtain⟨W,hg⟩:=BQ h hp;intro s I;have M:∀(l:Nat) (B:aP),σ[l]?=aa B->∃B',σ'[l]?=aa B'/\N2 B B':=by grind
 have get:∀(l:Nat) (B':aP),σ'[l]?=aa B'->∃B,σ[l]?=aa B/\N2 B B':=by grind
 have i:∀(l:Nat),(∀B,σ[l]?=aa B->B.gr=ae)->∀B,σ'[l]?=aa B->B.gr=ae:=by
  intro l Z B' he;obtain⟨B,hB,m⟩:=get l _ he;have q:=Z B hB;rcases(m.2 (λE k n es e=>by rw[e]at q;cases q)).2 with rfl|⟨E,cs,y,rfl,rfl,_⟩|⟨E,k,n,es,es',rfl,rfl,_⟩
  .exact q
  .rfl
  .cases q
 have T:∀(l:Nat) E k n es,σ'[l]?=aa (aP.buf E k n es)->∃es',σ[l]?=aa (aP.buf E k n es'):=by
  intro l E k n es he;obtain⟨B,hB,m⟩:=get l _ he;by_cases p:∃E k n es,B=aP.vec E k n es
  .obtain⟨E1,k1,Y,D8,rfl⟩:=p;obtain⟨es',f,_⟩:=m.1 _ _ _ _ rfl;cases f
  .rcases(m.2 (λE k n es e=>p ⟨E,k,n,es,e⟩)).2 with rfl|⟨E,cs,y,rfl,h,_⟩|⟨E,k,n,es,es',rfl,h,_⟩
   .grind
   .cases h
   grind
 have C:∀(l:Nat) E k n es,σ'[l]?=aa (aP.vec E k n es)->∃es',σ[l]?=aa (aP.vec E k n es'):=by
  intro l E k n es he;obtain⟨B,hB,m⟩:=get l _ he;by_cases p:∃E k n es,B=aP.vec E k n es
  .obtain⟨E1,k1,Y,D8,rfl⟩:=p;obtain⟨es',f,_⟩:=m.1 _ _ _ _ rfl;grind
  .exact absurd rfl ((m.2 (λE k n es e=>p ⟨E,k,n,es,e⟩)).1 E k n es)
 have Q:∀(v:ah) (a:A),gu σ s v a->gu σ' s v a:=by
  intro v a r;cases a with
  |c x=>exact r
  |ptr l o=>exact⟨i l r.1,r.2⟩
  |vec l k n es =>
   refine⟨r.1,by rw[W];exact r.2.1,λE k' n' es' he=>?_⟩;obtain⟨zq,g⟩:=C l E k' n' es' he;exact r.2.2 E k' n' zq g
  |ref l=>exact⟨i l r.1,r.2⟩
  |bp l w =>
   obtain⟨lv,r1,r2,r3⟩:=r;refine⟨lv,r1,by grind,λE k' n' es' he=>?_⟩;grind
  |any=>exact r
 have F:∀(vs:List ah) (cs:List A),dW σ s vs cs->dW σ' s vs cs:=by
  intro vs;induction vs with
  |nil=>intro cs r;cases cs with|nil=>trivial|cons _ _=>exact r.elim
  |cons v vs ih=>intro cs r;cases cs with|nil=>exact r.elim|cons c cs=>exact⟨Q _ _ r.1,ih _ r.2⟩
 have J:∀(v:ah) (e:E1),m8 σ s v e->m8 σ' s v e:=by
  intro v e r;cases e with
  |one a=>exact Q _ _ r
  |agg cs=>obtain⟨vs,f,g⟩:=r;exact⟨vs,f,F _ _ g⟩
 have O:∀(vs:List ah) (cs:List E1),g6 σ s vs cs->g6 σ' s vs cs:=by
  intro vs;induction vs with
  |nil=>intro cs r;cases cs with|nil=>trivial|cons _ _=>exact r.elim
  |cons v vs ih=>intro cs r;cases cs with|nil=>exact r.elim|cons c cs=>exact⟨J _ _ r.1,ih _ r.2⟩
 have R:∀(v:ah) (d:D),dn σ s v d->dn σ' s v d:=by
  intro v d r;cases d with
  |e x=>exact J _ _ r
  |fa xs=>obtain⟨vs,f,g⟩:=r;exact⟨vs,f,O _ _ g⟩
  |any=>trivial
 refine⟨⟨I.mem,by rw[I.len,W],?_,I.eB,I.lt,I.own⟩,⟨bg _,λ_ _ _=>rfl,λ_ _ _ h=>h,λ_ _ _ _=>rfl,λL h b j=>.inr ⟨L,h,j⟩,?_,rfl,rfl,rfl,rfl⟩,R⟩
 .intro l B' L z U;obtain⟨B,hB,m⟩:=get l B' z;have j:=I.box l B L hB U;by_cases p:∃E k n es,B=aP.vec E k n es
  .obtain⟨E,k,n,es,rfl⟩:=p;obtain⟨es',rfl,he⟩:=m.1 _ _ _ _ rfl;refine⟨j.1.Dw he,?_⟩;rcases j.2 with⟨f,g⟩|f
   .exact .inl ⟨f,g.Dw he⟩
   grind
  .rcases(m.2 (λE k n es e=>p ⟨E,k,n,es,e⟩)).2 with rfl|⟨E,cs,y,rfl,rfl,S⟩|⟨E,k,n,es,es',rfl,rfl,S⟩
   .cases B with
    |cells E cs=>obtain⟨b,vs,f,g,u,G⟩:=j;exact⟨b,vs,f,g,F _ _ u,G⟩
    |vec E k n es=>grind
    |cf H=>exact j
    |dead=>trivial
    |loop N φ r=>obtain⟨l,tmps,fn,df,f,g,u,G,V⟩:=j;exact⟨l,tmps,fn,df,f,g,u,λt=>R _ _ (G t),V⟩
    |qX=>exact j
    |buf E k n es=>exact j
   .obtain⟨b,vs,f,g,u,G⟩:=j;exact⟨b,vs,f,g,F _ _ (S _ _ _ u),G⟩
   .rcases j with j|⟨b,c0,vs,zs,f,g,u,G,V,h6,h7⟩
    .exact .inl j
    .exact .inr ⟨b,c0,vs,zs,f,g,u,G,V,h6.Dw S,h7⟩
 .intro l B L hB U;obtain⟨B',z,m⟩:=M l B hB;refine⟨B',L,z,U,?_⟩;by_cases p:∃E k n es,B=aP.vec E k n es
  .obtain⟨E,k,n,es,rfl⟩:=p;obtain⟨es',rfl,he⟩:=m.1 _ _ _ _ rfl;exact⟨λ_=>rfl,bg _⟩
  .rcases(m.2 (λE k n es e=>p ⟨E,k,n,es,e⟩)).2 with rfl|⟨E,cs,y,rfl,rfl,S⟩|⟨E,k,n,es,es',rfl,rfl,_⟩
   .exact gA.refl _ _
   .exact rfl
   .exact⟨λ_=>rfl,bg _⟩
section
variable {P:aq}{X:Cx P}{N:Nat}{Qf:Post}{K:List It}{φ:Fr}{σ:List aP}{c:Code}
theorem AW.ghost{Q:Post}{φ':Fr}{σ':List aP}(h:∀s a,cq N σ s φ a->aE σ s->∃s':St,s'.w=s.w/\cq N σ' s' φ' a/\aE σ' s'/\Step σ s σ' s')(k:AW X N c Q φ' σ'):AW X N c Q φ σ:=by intro s a j hh b kk cs S m l;obtain⟨s',o,i,d,st⟩:=h s a j hh;have f:=st.na hh;refine .ghost (.of hh d o f) ?_;exact k s' a i d b kk cs S m λe g σ2 s2 a2 q n h2 nV=>l e g σ2 s2 a2 q n h2 (f.trans nV)
theorem AK.ghost{φ':Fr}{σ':List aP}(h:∀s a,cq N σ s φ a->aE σ s->∃s':St,s'.w=s.w/\cq N σ' s' φ' a/\aE σ' s'/\Step σ s σ' s')(k:AK X N Qf (.code c::K) .normal φ' σ'):AK X N Qf (.code c::K) .normal φ σ :=
 AW.ghost h k
def cq.bs{σ':List aP}{s:St}{a:Act}(b:D4 σ σ')(f:cq N σ s φ a)(hh:aE σ s):cq N σ' s φ a:=⟨f.size,f.defers.imp λ_ h1=>h1.mono (b s hh).2.1.ext,λt=>(b s hh).2.2 _ _ (f.slot t)⟩
def AK.norm(σ':List aP){ps:List Prop}(h:oV σ σ'=aa ps)(b:ay ps)(k:AK X N Qf (.code c::K) .normal φ σ'):AK X N Qf (.code c::K) .normal φ σ :=
 AK.ghost (λs a d hh=>⟨s,rfl,d.bs (gU h b) hh,(gU h b s hh).1,(gU h b s hh).2.1⟩) k
def AK.iB(t:Nat)(E:aj)(k:Nat){k' n:Nat}{es:Nat->List C}(h:look φ t=.e (.one (.c (.sl ab k' n es))))(g:n=0)(kk:AK X N Qf (.code c::K) .normal ((t,.e (.one (.vec σ.length k n es)))::φ) (σ++[.vec E k n es])):AK X N Qf (.code c::K) .normal φ σ:=by
 refine AK.ghost (λs a b hh=>?_) kk;have f:=b.slot t;rw[h]at f;have h1:=Rd.u9 (k:=k') (k':=k) (.inr g) (eY f);have hB:et (σ++[.vec E k n es]) {s with β:=s.β++[⟨a.tmps.getD t ai,[]⟩]} (.vec E k n es) ⟨a.tmps.getD t ai,[]⟩:=⟨h1.loose,.inl ⟨⟨rfl,g⟩,h1⟩⟩;obtain⟨j,d⟩:=hh.hO (.refl _ _) rfl hh hB (by simp)
 refine⟨{s with β:=s.β++[⟨a.tmps.getD t ai,[]⟩]},rfl,⟨b.size,b.defers.imp λ_ h1=>h1.mono d.ext,λu=>?_⟩,j,d⟩;simp only[look];cases i:aA t u with
 |false=>exact(b.slot u).mono d.ext hh.len
 |true =>
  have e:=bR i;subst e;exact qb (L:=⟨a.tmps.getD t ai,[]⟩) (by simp) (by simp[<-hh.len]) hB
def AK.j0{S:Type}(I:S->Prop)(fr:S->Fr)(st:S->List aP)(j:S->Nat)(x:S){ps qs:List Prop}(r:nA φ (fr x)=aa ps)(C:ay ps)(k:oV σ (st x)=aa qs)(E:ay qs)(B:I x)(round:∀x,I x->AK X N (λe φ' σ'=>match e with
   |.normal=>∃y,I y/\j y<j x/\oq φ' (fr y)/\D4 σ' (st y)
   |e=>AK X N Qf K e φ' σ') [.code c] .normal (fr x) (st x)):AK X N Qf (.code (.loop c)::K) .normal φ σ:=by
 intro s a F hh b kk cs SS hb hQ;have h:=gU k E;obtain⟨u,m,_⟩:=h s hh;refine sr (λn a' s'=>∃y,I y/\cq N (st y) s' (fr y) a'/\aE (st y) s'/\cU σ s (st y) s'/\j y=n) ?_ ?_ ⟨x,B,(F.le (cX r C)).bs h hh,u,m.na hh,rfl⟩
 .rintro n a' s' ⟨y,o,v,f,d,e⟩;exact⟨st y,f,λH h1=>⟨y,o,v.rely h1 f,f.rely h1,d.trans h1.stepW,e⟩⟩
 rintro n a' s' ⟨y,o,v,f,d,rfl⟩ D;refine round y o s' a' v f b (.inLoop c::kk) cs SS hb ?_;intro e A σ2 s2 a2 q w h2 nV;cases e with
 |normal =>
  obtain⟨z,G,l,i,g⟩:=q;obtain⟨t,p,_⟩:=g s2 h2;exact D a2 s2 (j z) l ⟨z,G,(w.le i).bs g h2,t,d.trans (nV.trans (p.na h2)),rfl⟩
 |_=>exact ends.cons (λ_ _=>rfl) (by simp) (hQ _ _ _ _ _ q w h2 (d.trans nV))
def AK.gj{S:Type}{I:S->Prop}{fr:S->Fr}{st:S->List aP}{a:S->Nat}{x:S}{Qr:Post}(y:S){ps qs:List Prop}(b:nA φ (fr y)=aa ps)(i:ay ps)(d:oV σ (st y)=aa qs)(g:ay qs)(h:I y)(f:a y<a x):
  AK X N (λe φ' σ'=>match e with
   |.normal=>∃y,I y/\a y<a x/\oq φ' (fr y)/\D4 σ' (st y)
   |e=>Qr e φ' σ') [] .normal φ σ:=⟨y,h,f,cX b i,gU d g⟩
end
def Ev.forget{P:aq}{X:Cx P}{f:aH}{args:List D}{res tu:D}{σ':List aP}(h:Ev X f args [] res σ'){ps:List Prop}(g:Dr res tu=aa ps)(j:ay ps)(a:vP 0 tu=ab):Ev X f args [] tu []:=by
 refine⟨h.1,λs vs hr hh S cs hS=>h.2 s vs hr hh S cs λfr v e hl hv h1 st=>?_⟩
 have m:s.β=[]:=jf hh.len;have k:eu e {e with β:=[]}:=⟨rfl,λ_ _ _ h=>h,λ_ _ _=>rfl,h1.mem,λb i=>.inl (by grind)⟩
 refine .ghost k (hS fr v {e with β:=[]} (hl.mono λ_ _ _ h=>h) ?_ ⟨h1.mem,rfl,by simp,by simp,by simp,λb i=>⟨(h1.own b i).1,by simp⟩⟩ ⟨st.size,st.fi,st.mem,st.iU,by simp,λl B L hB=>by grind,st.os,st.tape,st.output,st.own⟩)
 .have h2:=ou g j hv;have:=dn.sub (ks:=[]) (σ:=σ') (σ':=[]) (s:=e) (β':=[]) (d:=tu) rfl rfl (by rw[BR a];exact h2) a;exact this
section drop
variable {σ1 rest:List aP}{s:St}
def UW(n:Nat):aP->Bool
 |.cells _ cs=>FJ n cs
 |.loop ..=>ae
 |_=>ab
def rZ(n:Nat):List aP->Bool
 |[]=>ab
 |a::r=>match UW n a with|true=>rZ n r|false=>ae
def BS{n:Nat}:∀{l:List aP},rZ n l=ab->∀B∈l,UW n B=ab
 |[],_,B,hB=>by grind
 |b::r,h,B,hB=>by
  simp only[rZ]at h;cases a:UW n b with
  |false=>grind
  |true =>
   simp only[a]at h;rcases eE.1 hB with rfl|hB
   .exact a
   .exact BS h B hB
def et.uo{B:aP}{L:Loc}(a:UW σ1.length B=ab)(h:et (σ1++rest) s B L):et σ1 (s.cut σ1.length) B L:=by
 cases B with
 |cells E cs =>
  obtain⟨b,vs,h1,h2,e,d⟩:=h;exact⟨b,vs,h1,h2,dW.tm e a,d⟩
 |vec E k n es=>exact h
 |cf H=>exact h
 |dead=>trivial
 |loop N φ r=>simp[UW]at a
 |qX=>exact h
 |buf E k n es=>exact h
def aE.drop(h:aE (σ1++rest) s)(i:rZ σ1.length σ1=ab):aE σ1 (s.cut σ1.length):=by
 have hl:σ1.length<=s.β.length:=by rw[h.len];simp
 refine⟨h.mem,by simp[St.cut,hl],?_,?_,?_,λb e=>⟨(h.own b e).1,λL a=>(h.own b e).2 L (fP a)⟩⟩
 .intro l B L hB a;have g:l<σ1.length:=(bZ.1 hB).1;simp only[St.cut,iN,g,cn]at a;exact et.uo (rest:=rest) (BS i B (bJ hB)) (h.box l B L (by grind) a)
 .intro l l' L L' a d b e f;simp only[St.cut,iN]at a d;split at a<;>split at d<;>first|exact h.eB l l' L L' a d b e f|grind|grind
 .intro L a b e;exact h.lt L (fP a) b e
def oS.drop(a:lB rest=ab):∀{ds:List Deferred}{ls:List Nat},oS (σ1++rest) s ds ls->oS σ1 (s.cut σ1.length) ds ls
 |[],[],_=>trivial
 |[],_::_,r=>r.elim
 |_::_,[],r=>r.elim
 |d::ds,l::ls,⟨⟨h1,L,r,h2,e⟩,f,b⟩=>by
  have hl:l<σ1.length:=by
   rcases cG l σ1.length with h|h
   .exact h
   .rw[gz h]at h1;exact absurd rfl (nq a _ (bJ h1))
  rw[jw hl]at h1;exact⟨⟨h1,L,r,by simp only[St.cut,iN,hl,cn];exact h2,e⟩,f,oS.drop a b⟩
def wJ(n:Nat)(σ:List aP):Bool:=match bw n σ.length with|true=>lB (σ.drop n)|false=>ae
theorem qn{n:Nat}{σ:List aP}(h:wJ n σ=ab):bw n σ.length=ab/\lB (σ.drop n)=ab:=by unfold wJ at h;grind
end drop
def BT(n:Nat):Fr->Bool
 |[]=>ab
 |(_,d)::r=>match vP n d with|true=>BT n r|false=>ae
def nB{n:Nat}:∀{φ:Fr}{t:Nat},BT n φ=ab->vP n (look φ t)=ab
 |[],t,_=>rfl
 |(u,d)::r,t,h=>by
  simp only[BT]at h;cases a:vP n d with
  |false=>grind
  |true =>
   simp only[a]at h;simp only[look];cases aA u t with
   |true=>exact a
   |false=>exact nB h
section
variable {P:aq}{X:Cx P}{N:Nat}{Qf:Post}{K:List It}{φ:Fr}{σ:List aP}{c:Code}
def lp{S:Type}{P:aq}(X:Cx P)(N:Nat)(Qf:Post)(K:List It)(I:S->Prop)(b:S->Fr)(st:S->List aP)(a:S->Nat)(n:Nat)(x:S):Post:=λe φ' σ'=>match e with
 |.normal=>∃y,I y/\a y<a x/\oq φ' (b y)/\BT n (b y)=ab/\∃σ1 rest,σ'=σ1++rest/\σ1.length=n/\(rZ n σ1=ab/\lB rest=ab)/\D4 σ1 (st y)
 |e=>AK X N Qf K e φ' σ'
def AK.cC{S:Type}(n:Nat)(I:S->Prop)(fr:S->Fr)(st:S->List aP)(A:S->Nat)(x:S){ps qs:List Prop}(w:nA φ (fr x)=aa ps)(M:ay ps)(l:oV σ (st x)=aa qs)(T:ay qs)(hn:σ.length=n)(J:I x)(round:∀x,I x->AK X N (lp X N Qf K I fr st A n x) [.code c] .normal (fr x) (st x)):AK X N Qf (.code (.loop c)::K) .normal φ σ:=by
 intro s a V hh b kk cs SS hb hQ;have i:=gU l T;obtain⟨C,p,_⟩:=i s hh;refine sr (λm a' s'=>∃y,I y/\cq N (st y) s' (fr y) a'/\aE (st y) s'/\cU σ s (st y) s'/\A y=m) ?_ ?_ ⟨x,J,(V.le (cX w M)).bs i hh,C,p.na hh,rfl⟩
 .rintro n a' s' ⟨y,u,D,g,d,e⟩;exact⟨st y,g,λs1 h1=>⟨y,u,D.rely h1 g,g.rely h1,d.trans h1.stepW,e⟩⟩
 rintro m a' s' ⟨y,u,D,g,d,rfl⟩ O;refine round y u s' a' D g b (.inLoop c::kk) cs SS hb ?_;intro e H σ2 s2 a2 q G h2 nV;cases e with
 |normal =>
  obtain⟨z,Y,o,j,U,σ1,rest,rfl,Q,⟨Z,k⟩,v⟩:=q;have F:=h2.drop (by grind);obtain⟨E,f,B⟩:=v _ F;have r:=G.le j;have W:eu s2 (s2.cut σ1.length):=⟨rfl,λ_ _ _ h=>h,λ_ _ _=>rfl,h2.mem,λb hb=>hb.imp id λ⟨L,R,hb⟩=>⟨L,fP R,hb⟩⟩
  refine .ghost W (O a2 (s2.cut σ1.length) (A z) o ⟨z,Y,⟨r.size,r.defers.imp λ_ h1=>(h1.drop k).mono f.ext,λt=>B _ _ ((r.slot t).drop (nB (by grind)))⟩,E,?_,rfl⟩);exact((d.trans nV).drop (by omega)).trans (f.na F)
 |_=>exact ends.cons (λ_ _=>rfl) (by simp) (hQ _ _ _ _ _ q G h2 (d.trans nV))
def AK.RK{S:Type}{n:Nat}{I:S->Prop}{fr:S->Fr}{st:S->List aP}{b:S->Nat}{x:S}{j:List It}(y:S){ps qs:List Prop}(a:nA φ (fr y)=aa ps)(l:ay ps)(f:BT n (fr y)=ab)(h:wJ n σ=ab)(d:oV (σ.take n) (st y)=aa qs)(i:ay qs)(e:rZ n (σ.take n)=ab)(k:I y)(g:b y<b x):
  AK X N (lp X N Qf j I fr st b n x) [] .normal φ σ :=
 ⟨y,k,g,cX a l,f,σ.take n,σ.drop n,(ld n σ).symm,by grind[Nat.le_of_ble_eq_true,qn],⟨e,(qn h).2⟩,gU d i⟩
def AK.aQ{S:Type}{n:Nat}{I:S->Prop}{fr:S->Fr}{st:S->List aP}{a:S->Nat}{x:S}{e:List It}(y:S){ps qs:List Prop}(h:(nA φ (fr y),BT n (fr y),wJ n σ,oV (σ.take n) (st y),rZ n (σ.take n))=(aa ps,ab,ab,aa qs,ab))(g:ay ps)(d:ay qs)(f:I y)(b:a y<a x):
  AK X N (lp X N Qf e I fr st a n x) [] .normal φ σ:=by simp only[lS]at h;exact AK.RK y h.1 g h.2.1 h.2.2.1 h.2.2.2.1 d h.2.2.2.2 f b
def AK.leaveD{S:Type}{n:Nat}{I:S->Prop}{fr:S->Fr}{st:S->List aP}{b:S->Nat}{x:S}{id:Nat}{d a f:List It}(h1:jO id d=af)(h2:jO id a=aa f)(k:AK X N Qf f .normal φ σ):
  AK X N (lp X N Qf a I fr st b n x) (.code (.exit id)::d) .normal φ σ :=
 AW.mono (AK.leave (A:=λφ' σ'=>lp X N Qf a I fr st b n x .normal φ' σ') h1 h2 k) λe φ' σ' q=>by
  have key:∀(K:List It) e,AK X N (λe φ' σ'=>match e with
    |.normal=>lp X N Qf a I fr st b n x .normal φ' σ'
    |e=>AK X N Qf a e φ' σ') K e φ' σ'->AK X N (lp X N Qf a I fr st b n x) K e φ' σ':=by
   have e:(λe φ' σ'=>match e with
    |.normal=>lp X N Qf a I fr st b n x .normal φ' σ'
    |e=>AK X N Qf a e φ' σ')=lp X N Qf a I fr st b n x:=by funext e φ' σ';cases e<;>rfl
   grind
  exact key _ _ q
def AK.fJ{S:Type}{n:Nat}{I:S->Prop}{fr:S->Fr}{st:S->List aP}{b:S->Nat}{x:S}{a d:List It}(k:Qf .ret φ σ):AK X N (lp X N Qf d I fr st b n x) (.code .ret::a) .normal φ σ :=
 AK.ret (AK.sq (Qf:=Qf) k)
theorem cq.freeze(t l:Nat){E:aj}{cs:List A}{cc:List C}(G:look φ t=.e (.one (.ptr l 0)))(hl:dw l σ=aa (.cells E cs))(D:gE cs=aa cc){s:St}{a:Act}(i:cq N σ s φ a)(hh:aE σ s):∃s':St,s'.w=s.w/\cq N (σ.set l .dead) s' ((t,.e (.one (.c (.rp cc))))::φ) a/\aE (σ.set l .dead) s'/\Step σ s (σ.set l .dead) s':=by
 have hB:=b5 hl;have k:l<σ.length:=(bZ.1 hB).1;have q:=i.slot t;rw[G]at q;obtain⟨_,L,b,n,f,H⟩:=q;obtain⟨g,vs,h1,h2,y,J⟩:=hh.box l _ L hB n;subst h1;simp at f;subst f;let s':St:={s with M:=λx o=>if x=g then vs[o]? else s.M x o}
 have st:Step σ s (σ.set l .dead) s':=by
  refine⟨bg _,λ_ _ _=>rfl,?_,?_,λL h b d=>.inr ⟨L,h,d⟩,?_,rfl,rfl,rfl,rfl⟩
  .grind
  .intro b d z o;have m:b≠g:=λe=>z _ (bJ n) (by simp[e]);grind
  .intro l' B L' jZ fj;by_cases e:l=l'
   .subst e;rw[hB]at jZ;cases jZ;exact⟨.dead,L',by grind,fj,rfl⟩
   .exact⟨B,L',by grind,fj,.refl _ _⟩
 refine⟨s',rfl,⟨i.size,i.defers.imp λ_ h1=>h1.mono st.ext,λu=>?_⟩,⟨?_,by simp[hh.len,s'],?_,hh.eB,hh.lt,hh.own⟩,st⟩
 .simp only[look];cases d:aA t u with
  |false=>exact(i.slot u).mono st.ext hh.len
  |true =>
   have e:=bR d;subst e;rw[H];have r:=lP D y;refine Rd.rp g 0 (λj=>(vs[j]?).getD ai) ?_ ?_
   .intro j c hj;obtain⟨v,p,_⟩:=r.get (j:=j) (a:=.c c) (by grind);grind
   .intro j c hj;obtain⟨v,p,p2⟩:=r.get (j:=j) (a:=.c c) (by grind);simp only[p,ik];exact Rd.mono st.mem p2
 .intro b o v I;by_cases e:b=g
  .subst e;have hm':vs[o]?=aa v:=by grind
   show s.w.cell? _=_;simp[aU,h2,hm']
  .exact hh.mem b o v (by grind)
 .intro l' B L' jZ fj;by_cases e:l=l'
  .subst e;rw[fZ k]at jZ;cases jZ;trivial
  .rw[j6 e]at jZ;refine(hh.box l' B L' jZ fj).carry st.ext hh.len λb d=>⟨rfl,λo=>?_⟩
   have m:b≠g:=λF=>e (hh.eB l l' _ L' n fj b (by grind) d);grind
theorem AK.freeze(t l:Nat){E:aj}{cs:List A}{cc:List C}(b:look φ t=.e (.one (.ptr l 0)))(hl:dw l σ=aa (.cells E cs))(a:gE cs=aa cc)(kk:AK X N Qf (.code c::K) .normal ((t,.e (.one (.c (.rp cc))))::φ) (dH.qD l .dead σ)):AK X N Qf (.code c::K) .normal φ σ:=by grind[jc,AK.ghost,cq.freeze]
def AK.one{all rest:List ar}{o:ar}{x:D}{σ':List aP}(h:OA X N all o φ σ x σ')(a:fW N o.dst=ab)(k:AK X N Qf (.ops all rest::K) .normal (kl o.dst x φ) σ'):AK X N Qf (.ops all (o::rest)::K) .normal φ σ :=
 ia.zZ h (gC a) k
end
end
def aE.ju{σ:List aP}{s:St}(h:aE σ s){l:Nat}{H H':ah->(Nat->Option Obj)->Prop}{L L':Loc}(hB:σ[l]?=aa (.cf H))(t:s.β[l]?=aa L){w':az}(O:L'.v=L.v)(r:s.w.heap.size<=w'.heap.size)(hk:∀b,b<s.w.heap.size->b∉L.bs->w'.heap[b]?=s.w.heap[b]?)(i:∀b∈L'.bs,b∈L.bs∨(s.w.heap.size<=b/\b<w'.heap.size))(z:∃ch,H' L'.v ch/\(∀(b:Nat) (o:Obj),ch b=aa o->w'.heap[b]?=aa o)/\(∀b,b∈L'.bs↔(ch b).isSome=ab))(C:w'.os=s.w.os)(N:w'.tape=s.w.tape)(E:w'.output=s.w.output):
  aE (σ.set l (.cf H')) ⟨s.β.set l L',s.M,w',s.own⟩/\Step σ s (σ.set l (.cf H')) ⟨s.β.set l L',s.M,w',s.own⟩:=by
 have x:l<σ.length:=(bZ.1 hB).1;have y:l<s.β.length:=by grind
 obtain⟨K,_,_,_,J⟩:=h.box l _ L hB t;have q:∀b∈L'.bs,∀o,s.M b o=af:=by
  intro b k o;rcases i b k with h1|⟨h1,_⟩
  .grind
  .cases u:s.M b o with
   |none=>rfl
   |some v=>have:=h.block u;omega
 have st:Step σ s (σ.set l (.cf H')) ⟨s.β.set l L',s.M,w',s.own⟩:=by
  refine⟨r,?_,λ_ _ _ h=>h,λ_ _ _ _=>rfl,?_,?_,C,N,E,rfl⟩
  .grind
  .grind
  .intro l' B a c f;by_cases e:l=l'
   .subst e;rw[hB]at c;cases c;rw[t]at f;cases f;exact⟨.cf H',L',by grind,by grind,O⟩
   .exact⟨B,a,by grind,by grind,.refl _ _⟩
 have g:∀(l':Nat) (a:Loc),(s.β.set l L')[l']?=aa a->(l'=l/\a=L')∨(l≠l'/\s.β[l']?=aa a):=by grind
 refine⟨⟨?_,by simp[h.len],?_,?_,?_,?_⟩,st⟩
 .intro b o v u;have G:=h.block u;have A:b∉L.bs:=λm=>by grind
  rw[<-h.mem b o v u];simp only[aU];grind
 .intro l' B a c f;rcases g l' a f with⟨rfl,rfl⟩|⟨e,h2⟩
  .rw[fZ x]at c;cases c;obtain⟨ch,k1,D,F⟩:=z;exact⟨ch,k1,D,F,q⟩
  .rw[j6 e]at c;refine(h.box l' B a c h2).carry st.ext h.len λb k=>⟨hk b (h.lt a (bJ h2) b k) λm=>e (h.eB l l' L a t h2 b m k),λ_=>rfl⟩
 .intro P I L1 a h1 h2 b j d;rcases g P L1 h1 with⟨rfl,rfl⟩|⟨e1,n⟩<;>rcases g I a h2 with⟨rfl,rfl⟩|⟨e2,p⟩
  .rfl
  .rcases i b j with m|m
   .exact h.eB _ _ L a t p b m d
   .have:=h.lt a (bJ p) b d;omega
  .rcases i b d with m|m
   .exact h.eB _ _ L1 L n t b j m
   .have:=h.lt L1 (bJ n) b j;omega
  .exact h.eB _ _ L1 a n p b j d
 .intro a f b d;rcases List.mem_or_eq_of_mem_set f with h1|h1
  .exact cW (h.lt a h1 b d) r
  .subst h1;rcases i b d with h2|h2
   .exact cW (h.lt L (bJ t) b h2) r
   grind
 .intro b z;obtain⟨R,Q⟩:=h.own b z;grind
section
variable {H H':ah->(Nat->Option Obj)->Prop}{s:St}
end
def cw.px{fn:Func}{a:Nat}{res:D}{σ':List aP}{φ:Fr}{σ:List aP}(ks:List Nat){ps:List Prop}(h:zH fn.results.toList ks φ res=aa ps)(d:ay ps)(c:jH ks σ=aa σ')(b:kn σ'=ab)(e:dy ks=ab)(hk:∀j,j<a->ks[j]?=aa j):
  cw fn a res σ' .normal φ σ:=by refine⟨.inr rfl,ks,?_⟩;unfold zH at h;grind
def AK.Rb{P:aq}{X:Cx P}{N:Nat}{Qf:Post}{K:List It}{φ:Fr}{σ:List aP}{all rest:List ar}{o:ar}{m:ak}{xs:Array ak}{e:Array aj}{f:aH}{cap:List C}{a:List D}{b σ1:List aP}{res:D}(h:Ev X f a b res σ1)(ks:List Nat)(j:o.guard=af)(p:o.op=.call {callee:=.value m,args:=xs,argTypes:=e})(s:eG (bP φ m)=aa (f,cap))(c:mr (xs.toList.map (bP φ)++fN cap)=fM ks a)(l:ln ks.length a=ab)(g:jH ks σ=aa b)(n:cx b=ab)(d:cx σ1=ab)(q:dy ks=ab)(i:bw ks.length σ1.length=ab)(r:fW N o.dst=ab)(k:AK X N Qf (.ops all rest::K) .normal (kl o.dst (hY (ks++kN σ.length (σ1.length-ks.length)) res) φ) (dH ks σ1 σ)):AK X N Qf (.ops all (o::rest)::K) .normal φ σ :=
 ia.call (λ_ _ _ _=>dC j) p s ks h c l g n d q (cZ i) o.dst rfl (gC r) k
def AK.qg{P:aq}{ι:Type}{X:Cx P}{N:Nat}{Qf:Post}{K:List It}{φ:Fr}{σ:List aP}{all rest:List ar}{o:ar}{n:ak}{xs:Array ak}{e:Array aj}{f:aH}{cap:List C}{a:List D}{b:List aP}{σ1:ι->List aP}{res:ι->D}(h:dZ X f a b res σ1)(ks:List Nat)(l:o.guard=af)(q:o.op=.call {callee:=.value n,args:=xs,argTypes:=e})(t:eG (bP φ n)=aa (f,cap))(c:mr (xs.toList.map (bP φ)++fN cap)=fM ks a)(m:ln ks.length a=ab)(g:jH ks σ=aa b)(p:cx b=ab)(d:∀j,cx (σ1 j)=ab)(r:dy ks=ab)(i:∀j,bw ks.length (σ1 j).length=ab)(s:fW N o.dst=ab)(k:∀j,AK X N Qf (.ops all rest::K) .normal (kl o.dst (hY (ks++kN σ.length ((σ1 j).length-ks.length)) (res j)) φ) (dH ks (σ1 j) σ)):AK X N Qf (.ops all (o::rest)::K) .normal φ σ :=
 ia.PO (λ_ _ _ _=>dC l) q t ks h c m g p d r (λj=>cZ (i j)) o.dst rfl (gC s) k
def AK.cQ{P:aq}{X:Cx P}{N:Nat}{Qf:Post}{K:List It}{φ:Fr}{σ:List aP}{all rest:List ar}{o:ar}{s:ak}{xs:Array ak}{q:Array aj}{f:aH}{cap:List C}{n:List D}{p σ1:List aP}{res:D}(r:Ev X f n p res σ1)(ks:List Nat)(h:(o.guard,o.op,eG (bP φ s),mr (xs.toList.map (bP φ)++fN cap),ln ks.length n,jH ks σ,cx p,cx σ1,dy ks,bw ks.length σ1.length,fW N o.dst)=(af,.call {callee:=.value s,args:=xs,argTypes:=q},aa (f,cap),fM ks n,ab,aa p,ab,ab,ab,ab,ab))(k:AK X N Qf (.ops all rest::K) .normal (kl o.dst (hY (ks++kN σ.length (σ1.length-ks.length)) res) φ) (dH ks σ1 σ)):AK X N Qf (.ops all (o::rest)::K) .normal φ σ:=by simp only[lS]at h;obtain⟨a,b,c,d,e,f,g,i,j,l,m⟩:=h;exact AK.Rb r ks a b c d e f g i j l m k
def AK.cP{P:aq}{ι:Type}{X:Cx P}{N:Nat}{Qf:Post}{K:List It}{φ:Fr}{σ:List aP}{all rest:List ar}{o:ar}{r:ak}{xs:Array ak}{n:Array aj}{f:aH}{cap:List C}{i:List D}{l:List aP}{σ1:ι->List aP}{res:ι->D}(p:dZ X f i l res σ1)(ks:List Nat)(h:(o.guard,o.op,eG (bP φ r),mr (xs.toList.map (bP φ)++fN cap),ln ks.length i,jH ks σ,cx l,dy ks,fW N o.dst)=(af,.call {callee:=.value r,args:=xs,argTypes:=n},aa (f,cap),fM ks i,ab,aa l,ab,ab,ab))(q:∀j,(cx (σ1 j),bw ks.length (σ1 j).length)=(ab,ab))(k:∀j,AK X N Qf (.ops all rest::K) .normal (kl o.dst (hY (ks++kN σ.length ((σ1 j).length-ks.length)) (res j)) φ) (dH ks (σ1 j) σ)):AK X N Qf (.ops all (o::rest)::K) .normal φ σ:=by simp only[lS]at h q;obtain⟨a,b,c,d,e,f,g,j,m⟩:=h;exact AK.qg p ks a b c d e f g (λj=>(q j).1) j (λj=>(q j).2) m k
def vS:List D->List D->Option (List Prop)
 |[],[]=>aa []
 |a::al,b::bs=>match Dr a b with
  |some p=>match vS al bs with
   |some q=>aa (kO p q)
   |none=>af
  |none=>af
 |_,_=>af
def vg{σ:List aP}{s:St}:∀{vs:List ah}{xs ys:List D}{ps:List Prop},vS xs ys=aa ps->ay ps->ck σ s vs xs->ck σ s vs ys
 |[],[],[],_,_,_,_=>trivial
 |_::_,[],_,_,_,_,h=>h.elim
 |[],_::_,_,_,_,_,h=>h.elim
 |[],[],_::_,_,h,_,_=>by simp[vS]at h
 |_::_,_::_,[],_,h,_,_=>by simp[vS]at h
 |v::vs,a::al,b::bs,ps,h,c,e=>by
  simp only[vS]at h;cases f:Dr a b with
  |none=>grind
  |some p =>
   cases d:vS al bs with
   |none=>grind
   |some q =>
    simp[f,d]at h;subst h;rw[ay.cat]at c;exact⟨ou f c.1 e.1,vg d c.2 e.2⟩
def AK.jI{P:aq}{ι:Type}{X:Cx P}{N:Nat}{Qf:Post}{K:List It}{φ:Fr}{σ:List aP}{all rest:List ar}{o:ar}{q:ak}{xs:Array ak}{e:Array aj}{f:aH}{cap:List C}{a:List D}{b:List aP}{σ1:ι->List aP}{res:ι->D}(l:dZ X f a b res σ1)(ks:List Nat)(n:o.guard=af)(r:o.op=.call {callee:=.value q,args:=xs,argTypes:=e})(w:eG (bP φ q)=aa (f,cap)){ps:List Prop}(c:vS (xs.toList.map (bP φ)++fN cap) (fM ks a)=aa ps)(i:ay ps)(p:ln ks.length a=ab)(g:jH ks σ=aa b)(t:cx b=ab)(d:∀j,cx (σ1 j)=ab)(u:dy ks=ab)(m:∀j,bw ks.length (σ1 j).length=ab)(v:fW N o.dst=ab)(k:∀j,AK X N Qf (.ops all rest::K) .normal (kl o.dst (hY (ks++kN σ.length ((σ1 j).length-ks.length)) (res j)) φ) (dH ks (σ1 j) σ)):AK X N Qf (.ops all (o::rest)::K) .normal φ σ :=
 ia.Bu (λ_ _ _ _=>dC n) r w ks l (λs vs h=>vg c i h) p g t d u (λj=>cZ (m j)) o.dst rfl (gC v) k
section
open Go.Conc (G)
def JU{a:Act}{d:Nat}{v:ah}(h:d<a.tmps.size):(a.put (aa d) v).tmps.getD d ai=v:=by simp[Act.put,dN,vD h]
def lX{P:aq}{f:aH}{fn:Func}{e:Array ah->Sem ah}(j:P.funcs[f]?=aa fn)(a:(fn.name== "runtime.NumGoroutine")=ae)(g:fn.body.isNone=ab)(h:Extern.findNext fn=af)(c:Extern.find fn=aa e)(args:Array ah)(d:c9 P (e args))(w:az)(es:Array Event):
  (callFunc f args).events P w es=es.push ⟨.mark (.extern f),ae,ab⟩:=by
 have i:fn.name≠ "runtime.NumGoroutine":=by grind
 have b:fn.body=af:=by simpa using g
 simp[callFunc,j,i,b,h,c];rw[d w]
section
variable {P:aq}{X:Cx P}{N:Nat}{Qf:Post}{K:List It}{φ:Fr}{σ:List aP}{all rest:List ar}{o:ar}
def dO(P:aq)(N:Nat)(o:ar)(φ:Fr)(σ:List aP){ι:Type}(x:ι->D)(σ':ι->List aP):Prop :=
 ∀s a,cq N σ s φ a->aE σ s->∃i b s' v,(av a.eval o).run P s.w=.ok b s'.w/\(b=.value v∨(b=.skip/\v=ai))/\dn (σ' i) s' v (x i)/\aE (σ' i) s'/\Step σ s (σ' i) s'/\fb s ((av a.eval o).events P s.w #[])
def AK.hand{ι:Type}(x:ι->D)(σ':ι->List aP)(A:o.guard=af)(z:fW N o.dst=ab)(h:dO P N o φ σ x σ')(k:∀i,AK X N Qf (.ops all rest::K) .normal (kl o.dst (x i) φ) (σ' i)):AK X N Qf (.ops all (o::rest)::K) .normal φ σ:=by
 intro s a f hh b kk cs S idx hb jk hQ;cases idx with
 |nil=>exact jk.elim
 |cons j idx =>
 refine rl hb jk.1 (dC A) λu d=>?_;have c:=hh.rely d;have l:=f.rely d hh;obtain⟨i,r,s',v,h1,h2,p,m,n,w⟩:=h u a l c;have g:=n.na c;refine⟨r,s',v,h1,h2,⟨⟨σ,σ' i,c,m,n⟩,w⟩,?_⟩;refine k i s' _ ?_ m b kk cs S idx hb jk.2 λe σ2 s2 a2 q y h2 st=>hQ e σ2 s2 a2 q y h2 ((d.stepW.trans g).trans st);cases B:o.dst with
 |none=>exact l.mono g c.len
 |some t=>exact(l.mono g c.len).put (gC z t B) p
def AK.law{x:D}{σ':List aP}(h:bG P o (bP φ) σ x σ')(b:o.guard=af)(a:fW N o.dst=ab)(k:AK X N Qf (.ops all rest::K) .normal (kl o.dst x φ) σ'):AK X N Qf (.ops all (o::rest)::K) .normal φ σ :=
 AK.one (.kS (λ_ _ _ _=>dC b) h) a k
def qK(all:List ar)(φ:Fr)(o:ar):Bool:=match o.guard with
 |none=>ab
 |some (j,b)=>match zR φ all j with
  |some (aa ab)=>b
  |some (aa ae)=>!b
  |_=>ae
def fI{all:List ar}{o:ar}{φ:Fr}(h:qK all φ o=ab):∀σ s a,cq N σ s φ a->bc o (yielded all.toArray a.tmps)=ab:=by
 intro σ s a f;unfold qK at h;split at h
 .grind [dC]
 .rename_i j b d;split at h
  .rename_i c;simp only[bc,d,ql c f,h];rfl
  .rename_i c;simp only[bc,d,ql c f];grind
  grind
def AK.NZ{m:ak}{xs:Array ak}{e:Array aj}{f:aH}{cap:List C}{a:List D}{b σ1:List aP}{res:D}(h:Ev X f a b res σ1)(ks:List Nat)(j:qK all φ o=ab)(p:o.op=.call {callee:=.value m,args:=xs,argTypes:=e})(s:eG (bP φ m)=aa (f,cap))(c:mr (xs.toList.map (bP φ)++fN cap)=fM ks a)(l:ln ks.length a=ab)(g:jH ks σ=aa b)(n:cx b=ab)(d:cx σ1=ab)(q:dy ks=ab)(i:bw ks.length σ1.length=ab)(r:fW N o.dst=ab)(k:AK X N Qf (.ops all rest::K) .normal (kl o.dst (hY (ks++kN σ.length (σ1.length-ks.length)) res) φ) (dH ks σ1 σ)):AK X N Qf (.ops all (o::rest)::K) .normal φ σ :=
 ia.call (fI j) p s ks h c l g n d q (cZ i) o.dst rfl (gC r) k
end
end
inductive m9 where
 |nil (a:Option Addr)
 |row (b cap:Nat)
def la(bf:m9)(n:Nat):ah:=match bf with
 |.nil a=>.slice a 0 0
 |.row b cap=>.slice (aa ⟨b,0,af⟩) n cap
def ni(bf:m9)(n:Nat):cJ (la bf n)=ab:=by cases bf<;>rfl
def Ns(xs:List ah):Nat->List C:=λi=>[.val (xs.getD i ai)]
section
variable {P:aq}{X:Cx P}{N:Nat}{Qf:Post}{K:List It}{φ:Fr}{σ:List aP}{all rest:List ar}{o:ar}
def AW.ta{ι:Type}{c:Code}{Q:Post}{φ':ι->Fr}{σ':ι->List aP}(h:∀s a,cq N σ s φ a->aE σ s->∃(i:ι)(s':St),s'.w=s.w/\cq N (σ' i) s' (φ' i) a/\aE (σ' i) s'/\Step σ s (σ' i) s')(k:∀i,AW X N c Q (φ' i) (σ' i)):AW X N c Q φ σ:=by intro s a l hh b kk cs S n m;obtain⟨i,s',r,j,d,st⟩:=h s a l hh;have f:=st.na hh;refine .ghost (.of hh d r f) ?_;exact k i s' a j d b kk cs S n λe g σ2 s2 a2 q p h2 nV=>m e g σ2 s2 a2 q p h2 (f.trans nV)
def AK.Nt{ι:Type}(l:Nat){H:ah->(Nat->Option Obj)->Prop}(H':ι->ah->(Nat->Option Obj)->Prop){c:Code}(hl:σ[l]?=aa (.cf H))(h:∀v ch,H v ch->∃i,H' i v ch)(kk:∀i,AK X N Qf (.code c::K) .normal φ (σ.set l (.cf (H' i)))):AK X N Qf (.code c::K) .normal φ σ:=by
 refine AW.ta (φ':=λ_=>φ) (σ':=λi=>σ.set l (.cf (H' i))) (λs a n hh=>?_) kk;have g:l<σ.length:=(bZ.1 hl).1;have f:l<s.β.length:=by rw[hh.len];grind
 have m:=br f;generalize s.β[l]=L at m;obtain⟨ch,q,d,k,j⟩:=hh.box l _ L hl m;obtain⟨i,hi⟩:=h _ _ q;have ex:Ext σ s (σ.set l (.cf (H' i))) s:=by
  refine⟨λ_ _ _ h=>h,λl' B L' jZ fj=>?_⟩;by_cases e:l=l'
  .subst e;rw[hl]at jZ;cases jZ;exact⟨.cf (H' i),L',by grind,fj,rfl⟩
  .exact⟨B,L',by grind,fj,.refl _ _⟩
 have st:Step σ s (σ.set l (.cf (H' i))) s :=
  ⟨bg _,λ_ _ _=>rfl,λ_ _ _ h=>h,λ_ _ _ _=>rfl,λL h b p=>.inr ⟨L,h,p⟩,ex.box,rfl,rfl,rfl,rfl⟩
 refine⟨i,s,rfl,⟨n.size,n.defers.imp λ_ h1=>h1.mono st.ext,λu=>(n.slot u).mono st.ext hh.len⟩,⟨hh.mem,by simp[hh.len],?_,hh.eB,hh.lt,hh.own⟩,st⟩;intro l' B L' jZ fj;by_cases e:l=l'
 .subst e;rw[fZ g]at jZ;cases jZ;rw[m]at fj;cases fj;exact⟨ch,hi,d,k,j⟩
 .rw[j6 e]at jZ;exact(hh.box l' B L' jZ fj).carry ex hh.len λ_ _=>⟨rfl,λ_=>rfl⟩
end
section
open Go.Conc (G)
def uM:C->Bool
 |.int _ _|.bool _|.str _|.fx|.iw|.xT|.val _=>ab
 |_=>ae
def vK:A->Bool
 |.c x=>uM x
 |.any=>ab
 |_=>ae
def Np:List A->Bool
 |[]=>ab
 |a::r=>match vK a with|true=>Np r|false=>ae
def Ja:E1->Bool
 |.one a=>vK a
 |.agg cs=>Np cs
def FF:List E1->Bool
 |[]=>ab
 |a::r=>match Ja a with|true=>FF r|false=>ae
def Nq:D->Bool
 |.e x=>Ja x
 |.fa xs=>FF xs
 |.any=>ab
section
variable {σ σ':List aP}{s s':St}
theorem qd{M M':Mem}{v:ah}{c:C}(h:uM c=ab)(r:Rd M v c):Rd M' v c:=by
 cases r<;>first|(simp[uM]at h;done)|skip
 case int h1=>exact .int h1
 case bool=>exact .bool
 case str h1 h2=>exact .str h1 h2
 case fx=>exact .fx
 case iw=>exact .iw
 case xT=>exact .xT
 case val h1=>exact .val h1
def FG{v:ah}{a:A}(h:vK a=ab)(r:gu σ s v a):gu σ' s' v a:=by
 cases a with
 |c x=>exact qd h r
 |any=>exact r
 |_=>simp[vK]at h
def FH:∀{vs:List ah}{cs:List A},Np cs=ab->dW σ s vs cs->dW σ' s' vs cs
 |[],[],_,_=>trivial
 |[],_::_,_,r=>r.elim
 |_::_,[],_,r=>r.elim
 |v::vs,c::cs,h,r=>by
  simp only[Np]at h;cases a:vK c with
  |false=>grind
  |true=>simp only[a]at h;exact⟨FG a r.1,FH h r.2⟩
def zx{v:ah}{x:E1}(h:Ja x=ab)(r:m8 σ s v x):m8 σ' s' v x:=by
 cases x with
 |one a=>exact FG h r
 |agg cs=>obtain⟨vs,c,b⟩:=r;exact⟨vs,c,FH h b⟩
def Bl:∀{vs:List ah}{cs:List E1},FF cs=ab->g6 σ s vs cs->g6 σ' s' vs cs
 |[],[],_,_=>trivial
 |[],_::_,_,r=>r.elim
 |_::_,[],_,r=>r.elim
 |v::vs,c::cs,h,r=>by
  simp only[FF]at h;cases a:Ja c with
  |false=>grind
  |true=>simp only[a]at h;exact⟨zx a r.1,Bl h r.2⟩
def Nr{v:ah}{d:D}(h:Nq d=ab)(r:dn σ s v d):dn σ' s' v d:=by
 cases d with
 |e x=>exact zx h r
 |fa xs=>obtain⟨vs,b,a⟩:=r;exact⟨vs,b,Bl h a⟩
 |any=>trivial
end
def Bm:List aP->Bool
 |[]=>ab
 |.cf _::r=>Bm r
 |.dead::r=>Bm r
 |_=>ae
def Bn:∀{l:List aP},Bm l=ab->∀B∈l,(∃H,B=.cf H)∨B=.dead
 |[],_,B,hB=>by grind
 |b::r,h,B,hB=>by
  have a:((∃H,b=.cf H)∨b=.dead)/\Bm r=ab:=by cases b<;>simp_all[Bm]
  rcases eE.1 hB with rfl|hB
  .exact a.1
  .exact Bn a.2 B hB
def gZ(σ:List aP)(a:Nat)(u:ah)(k n:Nat)(es:Nat->List C):Prop :=
 ∀s,aE σ s->∃(L:Loc) (M':Mem),s.β[a]?=aa L/\(∀b o v,s.M b o=aa v->M' b o=aa v)/\(∀b,b∉L.bs->∀o,M' b o=s.M b o)/\(∀b o v,M' b o=aa v->s.w.cell? ⟨b,o,af⟩=aa v) /\
  (∀b∈L.bs,∀o,s.M b o=af)/\Rd M' u (.sl ae k n es)
section
variable {P:aq}{X:Cx P}{N:Nat}{Qf:Post}{K:List It}{φ:Fr}{σ:List aP}{all rest:List ar}{o:ar}
def ck.setAt{σ:List aP}{s:St}{d:D}:∀{vs:List ah}{ds:List D}{p:Nat}{v:ah},ck σ s vs ds->vs[p]?=aa v->dn σ s v d->ck σ s vs (ds.set p d)
 |[],[],_,_,_,h,_=>by grind
 |[],_::_,_,_,h,_,_=>h.elim
 |_::_,[],_,_,h,_,_=>h.elim
 |u::vs,e::ds,0,v,h,b,a=>by simp at b;subst b;exact⟨a,h.2⟩
 |u::vs,e::ds,p+1,v,h,b,a=>⟨h.1,ck.setAt (p:=p) h.2 (by grind) a⟩
def jG(σ:List aP)(ds FI:List D):Prop :=
 ∀s vs,aE σ s->ck σ s vs ds->∃(B:Nat->Prop) (M':Mem),(∀b,B b->∃L∈s.β,b∈L.bs)/\(∀b o v,s.M b o=aa v->M' b o=aa v)/\(∀b,¬B b->∀o,M' b o=s.M b o) /\
  (∀b o v,M' b o=aa v->s.w.cell? ⟨b,o,af⟩=aa v)/\(∀b,B b->∀o,s.M b o=af)/\ck σ {s with M:=M'} vs FI
def jG.refl(σ:List aP)(ds:List D):jG σ ds ds:=λs vs hh hr=>⟨λ_=>False,s.M,λ_ h=>h.elim,λ_ _ _ h=>h,λ_ _ _=>rfl,hh.mem,λ_ h=>h.elim,hr⟩
def jG.step{σ:List aP}{ds FI:List D}(h:jG σ ds FI)(p q:Nat){u:ah}{k n:Nat}{es:Nat->List C}(r:FI[p]?=aa (.e (.one (.v u))))(hl:gZ σ q u k n es):jG σ ds (FI.set p (.e (.one (.c (.sl ae k n es))))):=by
 classical
 intro s vs hh hr;obtain⟨B,M1,F,t,I,J,E,j⟩:=h s vs hh hr;obtain⟨L,a,m,A,z,G,H,x⟩:=hl s hh;have h1:∀b o v,M1 b o=aa v->(M1 b o).or (a b o)=aa v:=λb o v d=>by grind
 have h2:∀b o v,a b o=aa v->(M1 b o).or (a b o)=aa v:=λb o v d=>by
  cases e:M1 b o with
  |none=>grind
  |some v' =>
   grind
 refine⟨λb=>B b∨b∈L.bs,λb o=>(M1 b o).or (a b o),?_,λb o v d=>h1 b o v (t b o v d),?_,?_,?_,?_⟩
 .grind
 .grind
 .intro b o v d;cases e:M1 b o with
  |none=>grind
  |some v'=>grind
 .grind
 .have e1:Ext σ {s with M:=M1} σ {s with M:=λb o=>(M1 b o).or (a b o)}:=⟨h1,λl B L hB m=>⟨B,L,hB,m,.refl _ _⟩⟩
  have w:=j.mono e1 hh.len;obtain⟨y,i⟩:=ck.get j;have g:p<vs.length:=by grind
  have f:vs[p]?=aa u:=by have:=i p;rw[r,br g]at this;have:=Rd.dY (show Rd M1 vs[p] (.val u)from this);grind
  exact w.setAt f (show dn σ {s with M:=λb o=>(M1 b o).or (a b o)} u (.e (.one (.c (.sl ae k n es))))from Rd.mono h2 x)
end
end
def fV(E:aj)(k:Nat)(bf:m9)(n:Nat)(xs:List ah):ah->(Nat->Option Obj)->Prop:=λv a=>v=.nilFunc/\(∀x∈xs,cJ x=ab)/\xs.length=n*k/\match bf with
 |.nil _=>n=0/\a=λ_=>af
 |.row b cap=>n<=cap/\cap<=9223372036854775807/\∃c,(xs++c).length=cap*k/\a=λd=>if d=b then aa (.cells (xs++c).toArray E (0,0))else af
def tb(k:Nat)(xs:List ah):Nat->List C:=λi=>((xs.drop (i*k)).take k).map .val
def Bo{k n i:Nat}{xs:List ah}(a:xs.length=n*k)(hi:i<n):(tb k xs i).length=k:=by
 have:i*k+k<=n*k:=by rw[<-lk];exact eC _ hi
 simp[tb,a];omega
def Bp{k i j:Nat}{xs:List ah}{c:C}(h:(tb k xs i)[j]?=aa c):∃u,xs[i*k+j]?=aa u/\c=.val u:=by simp only[tb,mV,iN,n3]at h;grind
def fV.lookup{E:aj}{k b cap n:Nat}{xs:List ah}{v:ah}{ch:Nat->Option Obj}(h:fV E k (.row b cap) n xs v ch):∃a,(xs++a).length=cap*k/\ch b=aa (.cells (xs++a).toArray E (0,0))/\∀c,(ch c).isSome=ab↔c=b:=by obtain⟨_,_,_,_,_,a,h1,h2⟩:=h;grind
def Rd.Uo{M:Mem}{b cap k n:Nat}{xs:List ah}(f:∀x∈xs,cJ x=ab)(hl:xs.length=n*k)(d:n<=cap)(e:cap<=9223372036854775807)(g:∀o,M b o=xs[o]?):Rd M (.slice (aa ⟨b,0,af⟩) n cap) (.sl ae k n (tb k xs)):=by refine Rd.qV (M:=M) (k:=k) (n:=n) (es:=tb k xs) (vs:=xs) (a:=aa ⟨b,0,af⟩) (b:=b) (off:=0) (cap:=cap) (t:=ae) ⟨hl,λi hi=>Bo hl hi,λi hi j c hj=>?_⟩ (λ_=>rfl) d e (by simp) (λp u h=>by grind);obtain⟨u,h1,rfl⟩:=Bp hj;exact⟨u,h1,.val (f u (bJ h1))⟩
section
variable {P:aq}{X:Cx P}{N:Nat}{Qf:Post}{K:List It}{φ:Fr}{σ:List aP}{all rest:List ar}{o:ar}
def fV.Bq{E:aj}{k n f:Nat}{bf:m9}{xs:List ah}(hl:σ[f]?=aa (.cf (fV E k bf n xs)))(es:Nat->List C)(q:∀i,i<n->(es i).length=k/\∀M j c x,(es i)[j]?=aa c->xs[i*k+j]?=aa x->Rd M x c):gZ σ f (la bf n) k n es:=by
 intro s hh;have I:f<σ.length:=(bZ.1 hl).1;have g:f<s.β.length:=by rw[hh.len];grind
 have z:=br g;generalize s.β[f]=L at z;obtain⟨ch,D,e,A,d⟩:=hh.box f _ L hl z;cases bf with
 |nil a0 =>
  obtain⟨_,_,_,rfl,_⟩:=D;exact⟨L,s.M,z,λ_ _ _ h=>h,λ_ _ _=>rfl,hh.mem,d,Rd.jD⟩
 |row b cap =>
  obtain⟨V,S,r,J⟩:=D.lookup;obtain⟨R,G,y,w,F,_⟩:=D;have B:b∈L.bs:=(A b).2 (by grind)
  have m:=e b _ r;obtain⟨c1,c2⟩:=hh.zr (b:=b) (vs:=xs) (d b B) (λo v T=>by
   simp only[aU,m]
   grind)
  refine⟨L,λH o=>if H=b then xs[o]? else s.M H o,z,c2,λH Q o=>aY (by grind),c1.mem,d,?_⟩;refine Rd.qV (k:=k) (n:=n) (es:=es) (vs:=xs) (a:=aa ⟨b,0,af⟩) (b:=b) (off:=0) (cap:=cap) (t:=ae) ⟨y,λi hi=>(q i hi).1,λi hi j c hj=>?_⟩ (λ_=>rfl) w F (by simp) (λp u U=>by grind);have O:j<k:=by grind
  have l:i*k+j<xs.length:=by
   rw[y];have:i*k+k<=n*k:=by rw[<-lk];exact eC _ hi
   omega
  exact⟨xs[i*k+j],br l,(q i hi).2 _ j c _ hj (br l)⟩
def dO.oo{k:Nat}{x y:ak}{E:aj}{Z:TI}(h:lA P o x y E Z)(hs:Z.size=k){l:Nat}{bf:m9}{xs:List ah}{n:Nat}(hx:bP φ x=.e (.one (.v (la bf n))))(hl:σ[l]?=aa (.cf (fV E k bf n xs))){tx:Bool}{es':Nat->List C}(hy:bP φ y=.e (.one (.c (.sl tx k 1 es')))){xv:List ah}(hxv:xv.length=k)(hcx:∀(M:Mem) (v:ah) (j:Nat) (c:C),(es' 0)[j]?=aa c->Rd M v c->xv[j]?=aa v/\cJ v=ab)(R:(n+1)*Z.bytes<=140737488355328):
  dO P N o φ σ (λI:m9=>.e (.one (.v (la I (n+1))))) λI=>σ.set l (.cf (fV E k I (n+1) (xs++xv))):=by
 intro s a hf hh;obtain⟨t,t2,i,i2,ho,hi,D,G,H⟩:=h.op;have QZ:l<σ.length:=(bZ.1 hl).1;have Q0:l<s.β.length:=by rw[hh.len];grind
 have hL:=br Q0;generalize s.β[l]=L at hL;obtain⟨ch,Y,V,Ud,WV⟩:=hh.box l _ L hl hL;have U:=bJ hL;have Q:=c7 hf x;rw[hx]at Q;have Q:=Rd.dY Q;have hw:=c7 hf y;rw[hy]at hw;have hw:=eY hw;have W:=Y.2.1;have O:=Y.2.2.1;have nM:∀b,s.w.heap.size<=b->∀o,s.M b o=af:=λb R o=>by
  cases hm:s.M b o with
  |none=>rfl
  |some v=>have:=hh.block hm;omega
 have mk:∀(M':Mem) (a0:Option Addr) (cap:Nat),la bf n=.slice a0 n cap->cap<n+1->aE (σ.map λ_=>.dead) {s with M:=M'}->(∀f o v,s.M f o=aa v->M' f o=aa v) ->
   Rd M' (.slice a0 n cap) (.sl ae k n (tb k xs))->(∀{es},fb {s with M:=M'} es->fb s es) ->
   ∃i nx s' v,(av a.eval o).run P s.w=.ok nx s'.w/\(nx=.value v∨(nx=.skip/\v=ai))/\dn (σ.set l (.cf (fV E k i (n+1) (xs++xv)))) s' v (.e (.one (.v (la i (n+1)))))/\aE (σ.set l (.cf (fV E k i (n+1) (xs++xv)))) s'/\Step σ s (σ.set l (.cf (fV E k i (n+1) (xs++xv)))) s'/\fb s ((av a.eval o).events P s.w #[]):=by
  intro M' a0 cap hsl DH I7 hMM hR WW;have B:Rd ({s with M:=M'}:St).M (a.eval y) (.sl tx Z.size 1 es'):=by rw[hs];exact hw.mono hMM
  have ZR:Rd ({s with M:=M'}:St).M (.slice a0 n cap) (.sl ae Z.size n (tb k xs)):=by grind
  obtain⟨vs,g,z,A,f2,f3,f4,f5⟩:=iu (P:=P) (s:={s with M:=M'}) (ty:=o.type) hi D G H h.elem I7 ZR B DH R h.bytes;have f6:=iV (P:=P) (s:={s with M:=M'}) (ty:=o.type) hi D G H h.elem I7 ZR B DH R h.bytes;rw[hs]at A f4;have PN:vs.length=(n+1)*k:=A.len;have Dz:xs.length+k=(n+1)*k:=by grind
  have hk0:0<k:=by have:=h.size;omega
  have TJ:∀j,j<k->∃v,vs[n*k+j]?=aa v/\xv[j]?=aa v/\cJ v=ab:=λj hj=>by
   have Q5:=A.width n (by omega);have hwn:cE n (tb k xs) es' n=es' 0:=by simp[cE]
   rw[hwn]at Q5;obtain⟨v,v1,v2⟩:=A.rd n (by omega) j ((es' 0)[j]'(by omega)) (by grind);grind
  have TK:vs=xs++xv:=by
   apply iO;intro q;by_cases e:q<xs.length
   .have hi:q / k<n:=pQ (by grind);have Xw:q / k*k+q % k=q:=pV q k;have hwl:=Bo (k:=k) O hi;have hap:cE n (tb k xs) es' (q / k)=tb k xs (q / k):=by simp[cE,hi]
    have hjl:q % k<(tb k xs (q / k)).length:=by rw[hwl];exact j9 _ hk0
    obtain⟨v,v1,v2⟩:=A.rd (q / k) (by omega) (q % k) ((tb k xs (q / k))[q % k]) (by grind);obtain⟨u,u1,u2⟩:=Bp (br hjl);grind[Rd.dY]
   grind
  subst TK;have XB:∀x∈xv,cJ x=ab:=λx hx=>by grind[List.getElem_of_mem]
  let w':az:=s.w.drew.alloc (.cells (xs++xv++g).toArray E);have Nn:w'.heap[s.w.heap.size]?=aa (.cells (xs++xv++g).toArray E (0,0)):=dG s.w.drew _;have DG:w'.heap.size=s.w.heap.size+1:=by show(s.w.drew.heap.push _).size=_;simp
  obtain⟨t1,S⟩:=hh.ju (l:=l) (H':=fV E k (.row s.w.heap.size z) (n+1) (xs++xv)) (L':=⟨L.v,[s.w.heap.size]⟩) (w':=w') hl hL rfl (by omega)
   (λb R _=>cM s.w.drew _ R) (λb R=>by grind)
   ⟨λf=>if f=s.w.heap.size then aa (.cells (xs++xv++g).toArray E (0,0))else af,⟨Y.1,λx hx=>by
    grind,by grind,f2,f3,g,by rw[f4],rfl⟩,λb o R=>by grind,λb=>by by_cases e:b=s.w.heap.size<;>simp[e]⟩ rfl rfl rfl
  refine⟨.row s.w.heap.size z,.value (.slice (aa ⟨s.w.heap.size,0,af⟩) (n+1) z),_,_,?_,.inl rfl,Rd.val rfl,t1,S,?_⟩
  .rw[dj ho,Q,hsl];simp only[bO,dt];have f5':(Builtin.append_ #[t,t2] o.type #[.slice a0 n cap,a.eval y]).run P s.w=_:=f5;rw[f5'];rfl
  grind[dj,eJ]
 cases bf with
 |nil a0 =>
  obtain⟨_,_,_,rfl,_⟩:=Y;refine mk s.M a0 0 rfl (by simp) (by have:=hh.lH;exact⟨this.mem,this.len,this.box,this.eB,this.lt,this.own⟩) (λ_ _ _ h=>h) Rd.jD (λh=>h)
 |row b cap =>
  obtain⟨g,WX,Q6,Q7⟩:=Y.lookup;obtain⟨Nf,_,_,DH,Ng,_⟩:=Y;have F:b∈L.bs:=(Ud b).2 (by grind);have p:=V b _ Q6;have ZS:=WV b F;have XC:b<s.w.heap.size:=hh.lt L U b F;have PL:∀o v,xs[o]?=aa v->s.w.cell? ⟨b,o,af⟩=aa v:=by intro o v ho;simp only[aU,p];grind
  obtain⟨c1,c2⟩:=hh.zr (b:=b) (vs:=xs) ZS PL;have WW:∀{es:Array Event},fb {s with M:=λf o=>if f=b then xs[o]? else s.M f o} es->fb s es:=λhe =>
   he.vG (b:=b) U F c2 λf o v Q=>by grind
  have hR:=Rd.Uo (M:=λf o=>if f=b then xs[o]? else s.M f o) (b:=b) (cap:=cap) (xs:=xs) W O DH Ng (λo=>by simp);by_cases m:n+1<=cap
  .have B:Rd ({s with M:=λf o=>if f=b then xs[o]? else s.M f o}:St).M (a.eval y) (.sl tx Z.size 1 es'):=by rw[hs];exact hw.mono c2
   obtain⟨d,A,f2⟩:=kg (P:=P) (s:={s with M:=λf o=>if f=b then xs[o]? else s.M f o}) (ty:=o.type) (n:=n) (b:=b) (cap:=cap) hi D G H h.elem c1 p (by grind) B m;have f6:=lT (P:=P) (s:=s) (ty:=o.type) (n:=n) (b:=b) (cap:=cap) hi D G H h.elem hh p (by grind) (x:=a.eval y) (tx:=tx) (es':=es') (by grind) m U F (λo _=>ZS o);rw[hs]at A f2;have TG:d.length=k:=by have:=A.len;omega
   have hw0:=A.width 0 (by omega);have TJ:∀j,j<k->∃v,d[j]?=aa v/\xv[j]?=aa v/\cJ v=ab:=λj hj=>by obtain⟨v,v1,v2⟩:=A.rd 0 (by omega) j ((es' 0)[j]'(by omega)) (br (by omega));grind
   have J:d=xv:=by apply iO;grind
   subst J;have XB:∀x∈d,cJ x=ab:=λx hx=>by grind[List.getElem_of_mem]
   have hfk:n*k+k<=cap*k:=by rw[<-lk];exact eC _ m
   have hzk:k<=g.length:=by grind
   have T:((xs++g).take (n*k)++d++(xs++g).drop (n*k+d.length))=xs++d++g.drop k:=by rw[<-O,TG];simp[List.drop_append]
   rw[T]at f2;have QW:(s.w.setRow b (xs++d++g.drop k).toArray).heap[b]?=aa (.cells (xs++d++g.drop k).toArray E (0,0)):=setRow_heap s.w b _ _ E _ p;have DI:∀f,f≠b->(s.w.setRow b (xs++d++g.drop k).toArray).heap[f]?=s.w.heap[f]?:=λf r=>setRow_other s.w b f _ r;obtain⟨t1,S⟩:=hh.ju (l:=l) (H':=fV E k (.row b cap) (n+1) (xs++d)) (L':=L) (w':=s.w.setRow b (xs++d++g.drop k).toArray) hl hL rfl (by simp)
    (λf r hn=>DI f (by grind)) (λf r=>.inl r)
    ⟨λf=>if f=b then aa (.cells (xs++d++g.drop k).toArray E (0,0))else af,⟨Nf,λx hx=>by
     grind,by grind,m,Ng,g.drop k,by grind,rfl⟩,λf o r=>by
     grind,λf=>by grind⟩ rfl rfl rfl
   refine⟨.row b cap,.value (.slice (aa ⟨b,0,af⟩) (n+1) cap),_,_,?_,.inl rfl,Rd.val rfl,t1,S,?_⟩
   .rw[dj ho,Q];simp only[bO,dt,la];have f2':(Builtin.append_ #[t,t2] o.type #[.slice (aa ⟨b,0,af⟩) n cap,a.eval y]).run P s.w=_:=f2;rw[f2'];rfl
   .rw[dj ho,Q];exact eJ f6
  .exact mk _ (aa ⟨b,0,af⟩) cap rfl (by omega) c1 c2 hR WW
def AK.oo{k:Nat}{x y:ak}{E:aj}{g:TI}(h:lA P o x y E g)(i:g.size=k){d:Nat}(s:o.dst=aa d)(r:o.guard=af)(q:fW N o.dst=ab){l:Nat}{bf:m9}{xs:List ah}{n:Nat}(t:bP φ x=.e (.one (.v (la bf n))))(hl:σ[l]?=aa (.cf (fV E k bf n xs))){tx:Bool}{es':Nat->List C}(p:bP φ y=.e (.one (.c (.sl tx k 1 es')))){xv:List ah}(f:xv.length=k)(b:∀(M:Mem) (v:ah) (j:Nat) (c:C),(es' 0)[j]?=aa c->Rd M v c->xv[j]?=aa v/\cJ v=ab)(m:(n+1)*g.bytes<=140737488355328)(kk:∀a:m9,AK X N Qf (.ops all rest::K) .normal ((d,.e (.one (.v (la a (n+1)))))::φ) (σ.set l (.cf (fV E k a (n+1) (xs++xv))))):AK X N Qf (.ops all (o::rest)::K) .normal φ σ :=
 AK.hand (ι:=m9) (λa=>.e (.one (.v (la a (n+1))))) (λa=>σ.set l (.cf (fV E k a (n+1) (xs++xv)))) r q (.oo h i t hl p f b m) λa=>by rw[s];exact kk a
def AK.Nu(t:Nat)(E:aj)(k:Nat){m:Nat}{es:Nat->List C}{c:Code}(i:look φ t=.e (.one (.c (.sl ab m 0 es))))(kk:∀bf:m9,AK X N Qf (.code c::K) .normal ((t,.e (.one (.v (la bf 0))))::φ) (σ++[.cf (fV E k bf 0 [])])):AK X N Qf (.code c::K) .normal φ σ:=by
 refine AW.ta (λs a d hh=>?_) kk;have g:=d.slot t;rw[i]at g;obtain⟨a0,cap,vs,j,_,_,b,_,_⟩:=(eY g).flat;have b:=b rfl;subst b;obtain⟨h,f⟩:=hh.hO (B:=.cf (fV E k (.nil a0) 0 [])) (L:=⟨.nilFunc,[]⟩) (.refl _ _) rfl hh ⟨λ_=>af,⟨rfl,by simp,by simp,rfl,rfl⟩,by simp,by simp,by simp⟩ (by simp);refine⟨.nil a0,{s with β:=s.β++[⟨.nilFunc,[]⟩]},rfl,⟨d.size,d.defers.imp λ_ h1=>h1.mono f.ext,λu=>?_⟩,h,f⟩;simp only[look];cases l:aA t u with
 |false=>exact(d.slot u).mono f.ext hh.len
 |true =>
  have e:=bR l;subst e;show Rd _ _ _;rw[j];exact Rd.val rfl
def AK.vL(t l:Nat){E:aj}{k n:Nat}{bf:m9}{xs:List ah}(es:Nat->List C){c:Code}(z:look φ t=.e (.one (.v (la bf n))))(hl:σ[l]?=aa (.cf (fV E k bf n xs)))(m:∀i,i<n->(es i).length=k/\∀M j c x,(es i)[j]?=aa c->xs[i*k+j]?=aa x->Rd M x c)(kk:AK X N Qf (.code c::K) .normal ((t,.e (.one (.c (.sl ae k n es))))::φ) (σ.set l .dead)):AK X N Qf (.code c::K) .normal φ σ:=by
 refine AK.ghost (λs a g hh=>?_) kk;obtain⟨L,M',r,w,q,y,H,F⟩:=fV.Bq hl es m s hh;have f:l<σ.length:=(bZ.1 hl).1;have p:=g.slot t;rw[z]at p;have G:=Rd.dY p;have ex:Ext σ s (σ.set l .dead) {s with M:=M'}:=by
  refine⟨w,λl' B L' jZ fj=>?_⟩;by_cases e:l=l'
  .subst e;rw[hl]at jZ;cases jZ;exact⟨.dead,L',by grind,fj,rfl⟩
  .exact⟨B,L',by grind,fj,.refl _ _⟩
 have st:Step σ s (σ.set l .dead) {s with M:=M'}:=by refine⟨bg _,λ_ _ _=>rfl,w,λb _ A o=>q b (A L (bJ r)) o,λL h b d=>.inr ⟨L,h,d⟩,ex.box,rfl,rfl,rfl,rfl⟩
 refine⟨{s with M:=M'},rfl,⟨g.size,g.defers.imp λ_ h1=>h1.mono st.ext,λu=>?_⟩,⟨y,by simp[hh.len],?_,hh.eB,hh.lt,hh.own⟩,st⟩
 .simp only[look];cases d:aA t u with
  |false=>exact(g.slot u).mono st.ext hh.len
  |true =>
   have e:=bR d;subst e;show Rd _ _ _;grind
 .intro l' B L' jZ fj;by_cases e:l=l'
  .subst e;rw[fZ f]at jZ;cases jZ;trivial
  .rw[j6 e]at jZ;exact(hh.box l' B L' jZ fj).carry ex hh.len λb d=>⟨rfl,q b λD=>e (hh.eB l l' L L' r fj b D d)⟩
end
section
open Go.Conc (G)
structure gn(k n:Nat)(es:Nat->List C)(xs:List ah):Prop where
 len:xs.length=n*k
 wid:∀i,i<n->(es i).length=k
 at':∀i,i<n->∀j c,(es i)[j]?=aa c->∃x,xs[i*k+j]?=aa x/\∀M,Rd M x c
def gn.rd{k n:Nat}{es:Nat->List C}{xs:List ah}(h:gn k n es xs):∀i,i<n->(es i).length=k/\∀M j c x,(es i)[j]?=aa c->xs[i*k+j]?=aa x->Rd M x c:=λi hi =>
 ⟨h.wid i hi,λM j c x hj hx=>by obtain⟨y,h1,h2⟩:=h.at' i hi j c hj;grind⟩
def Qg(v:ah):A->A
 |.vec 0 _ _ _=>.v v
 |a=>a
def Kk(v:ah):E1->E1
 |.one a=>.one (Qg v a)
 |e=>e
def Eh(v:ah):List E1->List E1
 |[]=>[]
 |a::r=>Kk v a::Eh v r
def Qh(v:ah):D->D
 |.e x=>.e (Kk v x)
 |.fa xs=>.fa (Eh v xs)
 |.any=>.any
def mG(n:Nat):A->Bool
 |.vec 0 _ b _=>aA b n
 |a=>vK a
def qu(n:Nat):E1->Bool
 |.one a=>mG n a
 |e=>Ja e
def pC(n:Nat):List E1->Bool
 |[]=>ab
 |a::r=>match qu n a with|true=>pC n r|false=>ae
def vo(n:Nat):D->Bool
 |.e x=>qu n x
 |.fa xs=>pC n xs
 |.any=>ab
section
variable {σ':List aP}{s s':St}{E:aj}{k n:Nat}{es:Nat->List C}{L:Loc}
def Kl(i:s.β[0]?=aa L){v:ah}{a:A}(h:mG n a=ab)(r:gu [aP.vec E k n es] s v a):gu σ' s' v (Qg L.v a):=by
 cases a with
 |c x=>exact qd h r
 |any=>exact r
 |vec l k' n' es' =>
  cases l with
  |zero =>
   obtain⟨g,_,b⟩:=r;have b:=b E k n es rfl;have e:=bR h;obtain⟨L',f,d⟩:=b.2 e.symm;rw[i]at f;cases f;show Rd _ _ _;rw[d];exact .val (d▸g.cell)
  |succ l=>simp[mG,vK]at h
 |ptr=>simp[mG,vK]at h
 |ref=>simp[mG,vK]at h
 |bp=>simp[mG,vK]at h
def B5(b:s.β[0]?=aa L){v:ah}{x:E1}(h:qu n x=ab)(r:m8 [aP.vec E k n es] s v x):m8 σ' s' v (Kk L.v x):=by
 cases x with
 |one a=>exact Kl b h r
 |agg cs=>exact zx (x:=.agg cs) h r
def yA(a:s.β[0]?=aa L):∀{vs:List ah}{cs:List E1},pC n cs=ab->g6 [aP.vec E k n es] s vs cs->g6 σ' s' vs (Eh L.v cs)
 |[],[],_,_=>trivial
 |[],_::_,_,r=>r.elim
 |_::_,[],_,r=>r.elim
 |v::vs,c::cs,h,r=>by
  simp only[pC]at h;cases b:qu n c with
  |false=>grind
  |true=>simp only[b]at h;exact⟨B5 a b r.1,yA a h r.2⟩
def B6(a:s.β[0]?=aa L){v:ah}{d:D}(h:vo n d=ab)(r:dn [aP.vec E k n es] s v d):dn σ' s' v (Qh L.v d):=by
 cases d with
 |e x=>exact B5 a h r
 |fa xs=>obtain⟨vs,c,b⟩:=r;exact⟨vs,c,yA a h b⟩
 |any=>trivial
end
def vp:List ResultVar->Bool
 |[]=>ab
 |.tmp _::r=>vp r
 |.cell _ _::_=>ae
def uu{P:aq}{a:Act}:∀{rs:List ResultVar},vp rs=ab->∃vs,(∀w,(rs.mapM (gg a)).run P w=Result.ok vs w)/\c9 P (rs.mapM (gg a))
 |[],_=>⟨[],by simp,by rw[List.mapM_nil];exact .pure⟩
 |.tmp t::r,h=>by
  obtain⟨vs,c,b⟩:=uu (P:=P) (a:=a) (rs:=r) h;refine⟨a.tmps.getD t ai::vs,λw=>?_,?_⟩
  .simp only[n9,bO,gg,dt,bX,c]
  .rw[n9];exact .bind .pure λ_=>.bind b λ_=>.pure
def uK.tmp{P:aq}{f:aH}{fn:Func}{fr:aR}{v:ah}{s s':St}(h:uK P f fr v s)(x:P.funcs[f]?=aa fn)(j:vp fn.results.toList=ab)(m:∀b o u,s.M b o=aa u->s.w.cell? ⟨b,o,af⟩=aa u):uK P f fr v s':=by
 obtain⟨h1,h2,g,q,c,t,l⟩:=h;have e:c=fn:=by grind
 subst e;let a:Act:={tmps:=fr.tmps,defers:=[]}
 obtain⟨vs,k1,p⟩:=uu (P:=P) (a:=a) j;have e1:∀w,(c.results.mapM (gg a)).run P w=Result.ok vs.toArray w:=λw=>by grind[Array.mapM_eq_mapM_toList,Sem.run_map,Go.Result.andThen_ok]
 have e2:∀w,(results c fr.tmps).run P w=.ok (if h:vs.toArray.size=1 then vs.toArray[0]else .tuple vs.toArray) w:=λw=>by unfold results;rw[bO];refine(dA (λr=>Result.andThen r _) (e1 w)).trans ?_;simp
 have e3:c9 P (results c fr.tmps):=by
  unfold results;have e:c9 P (c.results.mapM (gg a)):=by rw[qS];exact .map p
  exact .bind e λ_=>.pure
 have d:=(l s.w m).1;rw[e2]at d;cases d;exact⟨h1,h2,g,q,c,t,λw _=>⟨e2 w,λe i=>by rw[e3 w #[]]at i;grind⟩⟩
def Ev.thaw{P:aq}{X:Cx P}[X.gZ]{f:aH}{args:List D}{res:D}{E:aj}{k n:Nat}{es:Nat->List C}(h:Ev X f args [] res [.vec E k n es]){fn:Func}(hf:P.funcs[f]?=aa fn)(ht:vp fn.results.toList=ab)(T:vo n res=ab)(N:∀i,i<n->(es i).length=k/\∀c∈es i,uM c=ab):
  dZ (ι:={q:m9×List ah // gn k n es q.2}) X f args [] (λq=>Qh (la q.1.1 n) res) (λq=>[.cf (fV E k q.1.1 n q.1.2)]):=by
 refine⟨h.1,λs vs hr hh S cs hS=>h.2 s vs hr hh S cs λfr v s' hl mh iX st=>?_⟩;have hβ0:s.β=[]:=jf hh.len;have hlen:s'.β.length=1:=iX.len;obtain⟨L,Q⟩:∃L,s'.β=[L]:=by
  match hq:s'.β with
  |[L]=>grind
  |[]=>grind
  |_::_::_=>grind
 have hL:s'.β[0]?=aa L:=by grind
 obtain⟨Z3,Z0⟩:=iX.box 0 _ L rfl hL;rcases Z0 with⟨⟨Ud,V⟩,t⟩|⟨b,cap,cells,Ux,F,Dz,FT⟩
 .subst V;obtain⟨a,cap,vs0,hv,DH,Ng,htc,_⟩:=t.flat;have A:cap=0:=htc rfl;subst A;let z:St:={s' with β:=[⟨.nilFunc,[]⟩]}
  have hg:eu s' z:=⟨rfl,λ_ _ _ h=>h,λ_ _ _=>rfl,iX.mem,λb hb=>by grind⟩
  have y:gn k 0 es []:=⟨by simp,λi hi=>by omega,λi hi=>by omega⟩
  refine .ghost hg (hS ⟨(.nil a,[]),y⟩ fr v z (hl.tmp hf ht iX.mem) ?_ ?_ ?_)
  .have:=B6 (σ':=[aP.cf (fV E k (.nil a) 0 [])]) (s':=z) hL T mh;rw[hv]at this;exact this
  .refine⟨iX.mem,rfl,λl B L' hB fj=>?_,?_,by grind,λb hb=>⟨(iX.own b hb).1,by grind⟩⟩
   .cases l with
    |zero=>cases hB;cases fj;exact⟨λ_=>af,⟨rfl,by simp,by simp,rfl,rfl⟩,by simp,by simp,by simp⟩
    |succ l=>grind
   grind
  .refine⟨st.size,st.fi,st.mem,st.iU,λL' fj b hb=>?_,λl B L' hB=>by grind,st.os,st.tape,st.output,st.own⟩;grind
 .subst Ux;have J:b∈(⟨.slice (aa ⟨b,0,af⟩) n cap,[b]⟩:Loc).bs:=by simp
  have Z:s.w.heap.size<=b:=by
   rcases st.vb _ (by grind) b J with h1|⟨L0,h1,_⟩
   .exact h1
   grind
  have XC:b<s'.w.heap.size:=iX.lt _ (by grind) b J;obtain⟨a1,adk,m,W,r,K,_,hF,hm⟩:=Z3.flat;cases W;have O:m.length=n*k:=hF.len;have adl:∀p u,m[p]?=aa u->cells[p]?=aa u:=λp u Y=>by obtain⟨b1,adm,e,YD⟩:=hm p u Y;cases e;have:=iX.mem _ _ _ YD;simp only[aU,F]at this;simpa using this
  have hnk:n*k<=cells.length:=by rw[Dz];exact eC _ r
  have P8:cells.take (n*k)=m:=by apply iO;grind
  have QX:m++cells.drop (n*k)=cells:=by grind[List.take_append_drop]
  have y:gn k n es m:=by refine⟨O,λi hi=>(N i hi).1,λi hi j c hj=>?_⟩;obtain⟨u,u1,u2⟩:=hF.rd i hi j c hj;grind[qd]
  have H:∀x∈m,cJ x=ab:=λx hx=>by
   obtain⟨p,Y,rfl⟩:=dL hx;have hk:0<k:=by grind
   have hi:p / k<n:=pQ (by grind);have U:p / k*k+p % k=p:=pV p k;have hj:p % k<(es (p / k)).length:=by rw[(N _ hi).1];exact j9 _ hk
   obtain⟨u,u1,u2⟩:=y.at' _ hi _ _ (br hj);rw[U,br Y]at u1;cases u1;exact(u2 s.M).cell
  have G:∀d o v',s.M d o=aa v'->d≠b:=λd o v' hm' e=>by have:=hh.block hm';omega
  let R:Mem:=λd o=>if d=b then af else s'.M d o;let s1:St:={s' with β:=[],own:=λx=>s'.own x∨x=b}
  let s2:St:={s1 with M:=R}
  let z:St:={s' with β:=[⟨.nilFunc,[b]⟩],M:=R}
  have I:∀d o v',R d o=aa v'->s'.M d o=aa v':=λd o v' h'=>by grind
  have Yv:eu s' s1:=⟨rfl,λ_ _ _ h=>h,λ_ _ _=>rfl,iX.mem,λd g=>by
   rcases g with(g|g)|⟨L',fj,_⟩
   .grind
   .exact .inr ⟨_,by rw[Q];simp;rfl,by grind⟩
   grind⟩
  have W1:mW s1 s2:=⟨rfl,rfl,rfl,I,λd o v' h'=>by grind⟩
  have hg3:eu s2 z:=⟨rfl,λ_ _ _ h=>h,λ_ _ _=>rfl,λd o v' h'=>iX.mem _ _ _ (I _ _ _ h'),λd g=>by grind⟩
  refine .ghost Yv (.forget Cx.gZ.ok W1 (.ghost hg3 (hS ⟨(.row b cap,m),y⟩ fr v z (hl.tmp hf ht iX.mem) ?_ ?_ ?_)))
  .exact B6 (L:=⟨.slice (aa ⟨b,0,af⟩) n cap,[b]⟩) hL T mh
  .refine⟨λd o v' h'=>iX.mem _ _ _ (I _ _ _ h'),rfl,λl B L' hB fj=>?_,?_,λL' fj d g=>?_,λd g=>⟨(iX.own d g).1,λL' fj=>?_⟩⟩
   .cases l with
    |zero =>
     cases hB;cases fj;refine⟨λd=>if d=b then aa (.cells (m++cells.drop (n*k)).toArray E (0,0))else af,⟨rfl,H,O,r,K,cells.drop (n*k),?_,rfl⟩,λd o g=>?_,λd=>?_,λd g o=>?_⟩
     .grind
     .grind
     .by_cases e:d=b<;>simp[e]
     grind
    |succ l=>grind
   .grind
   .grind
   .simp[z]at fj;subst fj;have:=(iX.own d g).2 _ (by rw[Q];simp;rfl);grind
  .refine⟨st.size,st.fi,λd o v' h'=>?_,λd g hn o=>?_,λL' fj d g=>?_,λl B L' hB=>by grind,st.os,st.tape,st.output,st.own⟩
   .simp only[z,R,aY (G d o v' h')];exact st.mem _ _ _ h'
   .have:d≠b:=by omega
    simp only[z,R,aY this];exact st.iU d g hn o
   grind
section
variable {P:aq}{X:Cx P}{N:Nat}{Qf:Post}{K:List It}{φ:Fr}{σ:List aP}{all rest:List ar}{o:ar}
def AK.fact{p:Prop}(h:∀s,aE σ s->p){c:Code}(k:p->AK X N Qf (.code c::K) .normal φ σ):AK X N Qf (.code c::K) .normal φ σ :=
 λs a b hh=>k (h s hh) s a b hh
def AK.Jb{p:Prop}(h:∀s,aE σ s->p)(k:p->AK X N Qf (.ops all rest::K) .normal φ σ):AK X N Qf (.ops all rest::K) .normal φ σ :=
 λs a b hh=>k (h s hh) s a b hh
def fV.len{E:aj}{k n l:Nat}{bf:m9}{xs:List ah}(hl:σ[l]?=aa (.cf (fV E k bf n xs)))(s:St)(hh:aE σ s):xs.length=n*k/\n<=9223372036854775807/\(0<n->∃b cap,bf=.row b cap)/\∀a,bf=.nil a->n=0:=by
 have c:l<s.β.length:=by rw[hh.len];grind
 obtain⟨ch,e,_⟩:=hh.box l _ _ hl (br c);cases bf with
 |nil a=>obtain⟨_,_,f,rfl,_⟩:=e;grind
 |row b cap=>obtain⟨_,_,f,g,h,_⟩:=e;grind
def AK.Nv{T:List (Nat×TI)}(hT:cT P T)(l:Nat){x:ak}{f:Array aj}{t:aj}{i:TI}{E0 E:aj}{k n:Nat}{bf:m9}{xs:List ah}(q:o.op=.call {callee:=.builtin .len,args:=#[x],argTypes:=f})(y:f[0]?=aa t)(hi:bD T t=aa i)(D:i.desc=.slice E0)(F:bP φ x=.e (.one (.v (la bf n))))(hl:σ[l]?=aa (.cf (fV E k bf n xs)))(A:o.guard=af)(z:fW N o.dst=ab)(kk:AK X N Qf (.ops all rest::K) .normal (kl o.dst (.e (.one (.c (.int .i64 n)))) φ) σ):AK X N Qf (.ops all (o::rest)::K) .normal φ σ:=by
 refine AK.hand (ι:=Unit) (λ_=>.e (.one (.c (.int .i64 n)))) (λ_=>σ) A z (λs a r hh=>?_) λ_=>kk;obtain⟨_,h2,_,B⟩:=fV.len hl s hh;have g:=c7 r x;rw[F]at g;have g:=Rd.dY g;have p:=(hT t i hi).run_underlying (w:=s.w);rw[D]at p;have h:f[0]?=aa t:=y;have j:∃a0 cap,la bf n=.slice a0 n cap:=by
  cases bf with
  |nil a0=>rw[B a0 rfl];exact⟨a0,0,rfl⟩
  |row b cap=>exact⟨_,cap,rfl⟩
 obtain⟨a0,cap,m⟩:=j;rw[m]at g;refine⟨(),.value (.int .i64 n),s,.int .i64 n,?_,.inl rfl,Rd.int (by simp only[bA];omega),hh,.refl _ _,?_⟩
 .simp[av,q,resolve,invoke,builtin,Builtin.len_,g,p,goInt,h]
 .have:(av a.eval o).events P s.w #[]=#[]:=by simp[av,q,resolve,invoke,builtin,Builtin.len_,g,p,goInt,h]
  rw[this];exact .nil
def qI:List A->Bool
 |[]=>ab
 |.c x::r=>match uM x with|true=>qI r|false=>ae
 |_=>ae
def mX(vs:List ah)(cs:List A):Prop:=vs.length=cs.length/\∀(j:Nat)(c:C),cs[j]?=aa (A.c c)->∃v,vs[j]?=aa v/\∀M,Rd M v c
theorem mX.of{σ:List aP}{s:St}:∀{vs:List ah}{cs:List A},qI cs=ab->dW σ s vs cs->mX vs cs
 |[],[],_,_=>⟨rfl,λj c h=>by grind⟩
 |[],_::_,_,r=>r.elim
 |_::_,[],_,r=>r.elim
 |v::vs,.c x::cs,h,r=>by
  simp only[qI]at h;cases a:uM x with
  |false=>grind
  |true =>
   simp only[a]at h;obtain⟨h1,h2⟩:=mX.of h r.2;refine⟨by grind,λj c hj=>?_⟩;cases j with
   |zero=>simp at hj;subst hj;exact⟨v,rfl,λM=>qd a r.1⟩
   |succ j=>grind
 |_::_,.ptr _ _::_,h,_=>by simp[qI]at h
 |_::_,.vec _ _ _ _::_,h,_=>by simp[qI]at h
 |_::_,.ref _::_,h,_=>by simp[qI]at h
 |_::_,.bp _ _::_,h,_=>by simp[qI]at h
 |_::_,.any::_,h,_=>by simp[qI]at h
theorem dW.cJ{σ:List aP}{s:St}:∀{vs:List ah}{cs:List A},dW σ s vs cs->∀v∈vs,AM.cJ v=ab
 |[],[],_,v,h=>by grind
 |[],_::_,r,_,_=>r.elim
 |_::_,[],r,_,_=>r.elim
 |u::vs,c::cs,r,v,h=>by
  rcases eE.1 h with rfl|h
  .exact gu.cell r.1
  .exact dW.cJ r.2 v h
def dO.zy{T:List (Nat×TI)}(hT:cT P T)(l:Nat){t:aj}{x y:ak}{E:aj}{k n b cap off:Nat}{xs:List ah}{new:List A}{i:TI}(h:o.op=.store t x y)(hi:bD T t=aa i)(hx:bP φ x=.e (.one (.v (.pointer (aa ⟨b,off,af⟩)))))(hy:km (bP φ y)=aa new)(Nn:new.length=i.size)(Y:qI new=ab)(hl:σ[l]?=aa (.cf (fV E k (.row b cap) n xs)))(Q8:off+new.length<=xs.length):
  dO P N o φ σ (ι:={vs:List ah // mX vs new}) (λ_=>.any) (λvs=>σ.set l (.cf (fV E k (.row b cap) n (xs.take off++vs.1++xs.drop (off+vs.1.length))))):=by
 intro s a hf hh;have M:=c7 hf x;rw[hx]at M;have M:=Rd.dY M;have B:=lN hy (c7 hf y);have QZ:l<σ.length:=(bZ.1 hl).1;have G:l<s.β.length:=by rw[hh.len];grind
 have V:=br G;generalize s.β[l]=L at V;obtain⟨ch,hH,z,W,WV⟩:=hh.box l _ L hl V;obtain⟨c,WX,R,Q7⟩:=fV.lookup hH;obtain⟨Nf,Up,hxl,U,Z,_⟩:=hH;have J:b∈L.bs:=(W b).2 (by grind);have g:=z b _ R;let vs:=(a.eval y).cells.toList;have H:mX vs new:=mX.of Y B;have PN:vs.length=new.length:=H.1;have q:off+0+vs.length<=(xs++c).toArray.size:=by grind
 have F:=run_storeCells_at P b off E vs 0 (xs++c).toArray s.w g q B.cell;simp only[iq]at F;have D:(xs++c).take off++vs++(xs++c).drop (off+vs.length)=(xs.take off++vs++xs.drop (off+vs.length))++c:=by grind
 rw[D]at F;have abN:(xs.take off++vs++xs.drop (off+vs.length)).length=xs.length:=by grind
 have QW:=setRow_heap s.w b (xs++c).toArray ((xs.take off++vs++xs.drop (off+vs.length))++c).toArray E (0,0) g;have O:∀f,f≠b->(s.w.setRow b ((xs.take off++vs++xs.drop (off+vs.length))++c).toArray).heap[f]?=s.w.heap[f]?:=λf m=>setRow_other s.w b f _ m;obtain⟨t1,t2⟩:=hh.ju (l:=l) (H':=fV E k (.row b cap) n (xs.take off++vs++xs.drop (off+vs.length))) (L':=L) (w':=s.w.setRow b ((xs.take off++vs++xs.drop (off+vs.length))++c).toArray) hl V rfl (by simp)
  (λf m hn=>O f (by grind)) (λf m=>.inl m)
  ⟨λf=>if f=b then aa (.cells ((xs.take off++vs++xs.drop (off+vs.length))++c).toArray E (0,0))else af,⟨Nf,λx hx=>by
   grind[dW.cJ],by grind,U,Z,c,by grind,rfl⟩,λf o m=>by
   simp_all,λf=>by simp_all⟩ rfl rfl rfl
 have S:(a.eval y).cells.size=i.size:=by grind
 refine⟨⟨vs,H⟩,.skip,_,ai,?_,.inr ⟨rfl,rfl⟩,aw,t1,t2,?_⟩
 .have Q:(storeCells ⟨b,off,af⟩ (a.eval y).cells.toList).run P s.w=_:=F;simp[av,h,M,Instr.storeAt,bn,storeVar,(hT t i hi).run_sizeOf,S,Q]
 .intro ev p;have e:av a.eval o=(do storeVar t ⟨b,off,af⟩ (a.eval y);pure .skip):=by simp[av,h,M,Instr.storeAt,bn]
  rw[e]at p;have I:ev∈(storeCells ⟨b,off,af⟩ (a.eval y).cells.toList).events P s.w #[]:=by
   simp only[storeVar,aK,(hT t i hi).run_sizeOf,S,aO,events_sizeOf,du,fh,b9,bO,bX,Sem.events_pure]at p;generalize(storeCells ⟨b,off,af⟩ (a.eval y).cells.toList).run P s.w=r at p;cases r with
   |ok v w'=>simpa using p
   |halt x w'=>simpa using p
  rcases dE (a.eval y).cells.toList 0 (xs++c).toArray s.w #[] g q B.cell ev I with I7|⟨j,_,_,rfl⟩
  .grind
  .exact jC (bJ V) J (WV b J _)
def AK.zy{T:List (Nat×TI)}(hT:cT P T)(l:Nat){t:aj}{x y:ak}{E:aj}{k n b cap off:Nat}{xs:List ah}{new:List A}{i:TI}(h:o.op=.store t x y)(hi:bD T t=aa i)(p:bP φ x=.e (.one (.v (.pointer (aa ⟨b,off,af⟩)))))(g:km (bP φ y)=aa new)(a:new.length=i.size)(f:qI new=ab)(hl:σ[l]?=aa (.cf (fV E k (.row b cap) n xs)))(c:off+new.length<=xs.length)(m:o.guard=af)(j:fW N o.dst=ab)(kk:∀vs,mX vs new->AK X N Qf (.ops all rest::K) .normal (kl o.dst .any φ) (σ.set l (.cf (fV E k (.row b cap) n (xs.take off++vs++xs.drop (off+vs.length)))))):AK X N Qf (.ops all (o::rest)::K) .normal φ σ :=
 AK.hand _ _ m j (dO.zy hT l h hi p g a f hl c) λvs=>kk vs.1 vs.2
def AK.swap(i j:Nat){H1 H2:ah->(Nat->Option Obj)->Prop}{c:Code}(M:i≠j)(hi:σ[i]?=aa (.cf H1))(hj:σ[j]?=aa (.cf H2))(h1:∀v ch,H1 v ch->v=.nilFunc)(h2:∀v ch,H2 v ch->v=.nilFunc)(kk:AK X N Qf (.code c::K) .normal φ ((σ.set i (.cf H2)).set j (.cf H1))):AK X N Qf (.code c::K) .normal φ σ:=by
 refine AK.ghost (λs a E hh=>?_) kk;have J:i<σ.length:=(bZ.1 hi).1;have H:j<σ.length:=(bZ.1 hj).1;have y:i<s.β.length:=by rw[hh.len];grind
 have x:j<s.β.length:=by rw[hh.len];grind
 obtain⟨r,w⟩:∃L,s.β[i]?=aa L:=⟨_,br y⟩;obtain⟨m,z⟩:∃L,s.β[j]?=aa L:=⟨_,br x⟩;have I:=hh.box i _ r hi w;have G:=hh.box j _ m hj z;have R:r.v=.nilFunc:=by obtain⟨ch,O,_⟩:=I;grind
 have S:m.v=.nilFunc:=by obtain⟨ch,O,_⟩:=G;grind
 let s':St:={s with β:=(s.β.set i m).set j r}
 have t:∀l,((σ.set i (.cf H2)).set j (.cf H1))[l]?=if l=j then aa (.cf H1)else if l=i then aa (.cf H2)else σ[l]?:=λl=>by grind
 have p:∀l,s'.β[l]?=if l=j then aa r else if l=i then aa m else s.β[l]?:=λl=>by grind
 have F:∀L∈s'.β,L∈s.β:=λL f=>by grind
 have ex:Ext σ s ((σ.set i (.cf H2)).set j (.cf H1)) s':=by
  refine⟨λ_ _ _ h=>h,λl B L hB f=>?_⟩;rw[t,p];by_cases e:l=j
  .subst e;rw[hj]at hB;cases hB;rw[z]at f;cases f;exact⟨.cf H1,r,by simp,by simp,by show r.v=_;grind⟩
  .by_cases A:l=i
   .subst A;rw[hi]at hB;cases hB;rw[w]at f;cases f;exact⟨.cf H2,m,by simp[e],by simp[e],by show m.v=_;grind⟩
   .exact⟨B,L,by grind,by grind,.refl _ _⟩
 have st:Step σ s ((σ.set i (.cf H2)).set j (.cf H1)) s':=by exact⟨bg _,λ_ _ _=>rfl,λ_ _ _ h=>h,λ_ _ _ _=>rfl,λL h b g=>.inr ⟨L,F L h,g⟩,ex.box,rfl,rfl,rfl,rfl⟩
 refine⟨s',rfl,⟨E.size,E.defers.imp λ_ h1=>h1.mono ex,λu=>(E.slot u).mono ex hh.len⟩,⟨hh.mem,by simp[s',hh.len],?_,?_,λL f b g=>hh.lt L (F L f) b g,λb g=>⟨(hh.own b g).1,λL f=>(hh.own b g).2 L (F L f)⟩⟩,st⟩
 .intro l B L hB f;rw[t]at hB;rw[p]at f;split at hB
  .rename_i e;rw[bl e]at f;cases hB;cases f;exact I
  .rename_i e;rw[aY e]at f;split at hB
   .rename_i A;rw[bl A]at f;cases hB;cases f;exact G
   .rename_i A;rw[aY A]at f;exact(hh.box l B L hB f).carry ex hh.len λb g=>⟨rfl,λ_=>rfl⟩
 .intro l l' L1 L2 q1 q2 b g D;rw[p]at q1 q2;have key:∀l L,(if l=j then aa r else if l=i then aa m else s.β[l]?)=aa L->s.β[if l=j then i else if l=i then j else l]?=aa L:=λl L q=>by grind
  have:=hh.eB _ _ L1 L2 (key l L1 q1) (key l' L2 q2) b g D;by_cases e1:l=j<;>by_cases e2:l'=j<;>by_cases e3:l=i<;>by_cases Q:l'=i<;>simp_all
def AK.Jc{T:List (Nat×TI)}(hT:cT P T){t:aj}{x y:ak}{i p:TI}{E:aj}{n:Nat}{R Q:IntKind}(h:o.op=.makeSlice t x y)(hi:bD T t=aa i)(hd:i.desc=.slice E)(hE:bD T E=aa p)(hx:bP φ x=.e (.one (.c (.int R n))))(hy:bP φ y=.e (.one (.c (.int Q n))))(G:n*p.bytes<=140737488355328)(W:n<=140737488355328)(hg:o.guard=af)(hN:fW N o.dst=ab)(kk:∀b xs,AK X N Qf (.ops all rest::K) .normal (kl o.dst (.e (.one (.v (la (.row b n) n)))) φ) (σ++[.cf (fV E p.size (.row b n) n xs)])):AK X N Qf (.ops all (o::rest)::K) .normal φ σ:=by
 refine AK.hand (ι:=Nat×List ah) (λq=>.e (.one (.v (la (.row q.1 n) n)))) (λq=>σ++[.cf (fV E p.size (.row q.1 n) n q.2)]) hg hN (λs a hf hh=>?_) λq=>kk q.1 q.2;have m:=c7 hf x;rw[hx]at m;have m:=eY m;generalize H:a.eval x=vx at m;cases m;have l:=c7 hf y;rw[hy]at l;have l:=eY l;generalize D:a.eval y=vy at l;cases l;have j:=(hT t i hi).TM;rw[hd]at j;obtain⟨f,z,I,z2,z3,Y,Z,z6,z7⟩:=(hT E p hE).info;have g:(f.bytes:Int)*(n:Int)<=281474976710656:=by grind
 have r:=run_make (P:=P) (w:=s.w) t E f z j I Y R Q n n (by omega) (Int.le_refl _) g (by omega);simp only[cd]at r;let xs:=(madeCells z.cells (n*f.size)).toList;have V:xs.length=n*p.size:=by grind[size_madeCells]
 have hzc:∀v∈z.cells.toList,cJ v=ab:=dW.cJ (kL (σ:=σ) (s:=s) Z);have WX:z.cells.toList.length=p.size:=by have:=dA List.length Z;grind
 have O:∀v∈xs,cJ v=ab:=by intro v hv;simp only[xs,madeCells,Array.toList_map,kB]at hv;grind[Nat.mod_lt]
 have hB:et (σ++[.cf (fV E p.size (.row s.w.heap.size n) n xs)]) {s with w:=s.w.alloc (.cells xs.toArray E),β:=s.β++[⟨.nilFunc,[s.w.heap.size]⟩]} (.cf (fV E p.size (.row s.w.heap.size n) n xs)) ⟨.nilFunc,[s.w.heap.size]⟩:=by
  refine⟨λB=>if B=s.w.heap.size then aa (.cells (xs++[]).toArray E (0,0))else af,⟨rfl,O,V,bg _,by omega,[],by grind,rfl⟩,λB o g=>?_,λB=>?_,λB g o=>?_⟩
  .by_cases e:B=s.w.heap.size
   .subst e;simp only[cn]at g;grind[dG]
   grind
  .by_cases e:B=s.w.heap.size<;>simp[e]
  .simp at g;subst g;cases U:s.M s.w.heap.size o with
   |none=>rfl
   |some v=>have:=hh.block U;omega
 have F:aE σ {s with w:=s.w.alloc (.cells xs.toArray E)}/\Step σ s σ {s with w:=s.w.alloc (.cells xs.toArray E)} :=
  hh.grow (by simp) (λb G=>cM s.w _ G) (λb G o=>rfl) (λb G o v U=>by have:=hh.block U;omega) rfl rfl rfl
 obtain⟨g1,g2⟩:=F.1.hO F.2 rfl hh hB (λb G=>by simp_all)
 refine⟨(s.w.heap.size,xs),.value (.slice (aa ⟨s.w.heap.size,0,af⟩) n n),_,_,?_,.inl rfl,Rd.val rfl,g1,g2,?_⟩
 .simp[av,h,H,D,r,xs]
 .have e:av a.eval o=(do pure (.value (<-Instr.makeSlice t (.int R n) (.int Q n)))):=by simp[av,h,H,D]
  rw[e];refine eJ ?_;intro e A;have hu:∀u,(underlying t).run P u=.ok (.slice E) u:=λu=>by simp[underlying,j]
  have L:∀u,(typeInfo E).run P u=.ok f u:=λu=>by simp[typeInfo,I]
  have J:∀u,(zeroValue E).run P u=.ok z u:=λu=>by simp[zeroValue,typeInfo,I,Y]
  have S:∀u,(sizeOf E).run P u=.ok f.size u:=λu=>by simp[sizeOf,typeInfo,I]
  have wl:IntKind.i64.wrap (n:Int)=n:=by grind[IntKind.wrap_i64]
  have n1:¬(n:Int)<0:=by omega
  have n2:¬(281474976710656<(f.bytes:Int)*n):=by omega
  simp[Instr.makeSlice,hu,L,S,asInt,asIntOf,wl,n1,n2]at A;rw[J]at A;simp only[aO,(c9.newRow (P:=P)) _ _,ite_self]at A;unfold askRoom at A;split at A
  .have:e=⟨.mark .noRoom,ae,ab⟩:=by simpa using A
   rw[this];exact .inl rfl
  .simp at A
end
section
variable {σ σ':List aP}{s s':St}{k n d:Nat}{es:Nat->List C}{u:ah}
end
def uN{α:Type}{xs vs:List α}{a:Nat}(h:a+vs.length<=xs.length)(p:Nat):(xs.take a++vs++xs.drop (a+vs.length))[p]?=if a<=p/\p<a+vs.length then vs[p-a]? else xs[p]?:=by
 have b:(xs.take a).length=a:=by grind
 grind
def gn.fy{k n:Nat}{es es':Nat->List C}{xs vs:List ah}{new:List A}(h:gn k n es xs)(i j:Nat)(hi:i<n)(p:mX vs new)(r:j+new.length<=k)(w:∀a,a<n->a≠i->es' a=es a)(hl:(es' i).length=k)(B:∀(q:Nat) (c:C),(es' i)[q]?=aa c->(j<=q/\q<j+new.length/\new[q-j]?=aa (A.c c))∨(¬(j<=q/\q<j+new.length)/\(es i)[q]?=aa c)):gn k n es' (xs.take (i*k+j)++vs++xs.drop (i*k+j+vs.length)):=by
 have t:i*k+k<=n*k:=by rw[<-lk];exact eC _ hi
 have v:=p.1;have D:=h.len;have f:i*k+j+vs.length<=xs.length:=by omega
 refine⟨by grind,λa b=>?_,λa b q c z=>?_⟩
 .by_cases e:a=i
  .grind
  .rw[w a b e];exact h.wid a b
 .rw[uN f];by_cases e:a=i
  .subst e;rcases B q c z with⟨h1,h2,x⟩|⟨h1,h2⟩
   .rw[bl (by omega),show a*k+q-(a*k+j)=q-j by omega];exact p.2 _ c x
   .rw[aY (by omega)];exact h.at' a b q c h2
  .have g:(es a)[q]?=aa c:=by grind
   have y:q<k:=by rw[<-h.wid a b];grind
   rw[aY ?_]
   .exact h.at' a b q c g
   .rcases Nat.lt_or_gt_of_ne e with l|m
    .have:a*k+k<=i*k:=by rw[<-lk];exact eC _ l
     omega
    .have:i*k+k<=a*k:=by rw[<-lk];exact eC _ m
     omega
def gn.snoc{k n:Nat}{es es':Nat->List C}{xs vs:List ah}(h:gn k n es xs)(j:∀i,i<n->es' i=es i)(hl:(es' n).length=k)(f:vs.length=k)(m:∀(q:Nat)(c:C),(es' n)[q]?=aa c->∃v,vs[q]?=aa v/\∀M,Rd M v c):gn k (n+1) es' (xs++vs):=by
 have l:=h.len;refine⟨by grind,λi hi=>?_,λi hi q c p=>?_⟩
 .by_cases e:i=n
  .grind
  .rw[j i (by omega)];exact h.wid i (by omega)
 .by_cases e:i=n
  .grind
  .have a:i<n:=by omega
   have b:(es i)[q]?=aa c:=by grind
   have g:q<k:=by rw[<-h.wid i a];grind
   have:i*k+k<=n*k:=by rw[<-lk];exact eC _ a
   rw[jw (by omega)];exact h.at' i a q c b
def zF(T:List (Nat×TI))(φ:Fr):List ResultVar->Option (List D)
 |[]=>aa []
 |.tmp t::r=>match zF T φ r with
  |some q=>aa (look φ t::q)
  |none=>af
 |.cell ad t::r=>match zF T φ r with
  |some q=>match look φ ad with
   |.e (.one (.c (.rp cs)))=>match bD T t with
    |some i=>match kP i (cs.map A.c)with
     |some e=>aa (.e e::q)
     |none=>af
    |none=>af
   |_=>af
  |none=>af
def zG{P:aq}{T:List (Nat×TI)}(hT:cT P T){N:Nat}{σ:List aP}{s:St}{φ:Fr}{a:Act}(f:cq N σ s φ a):∀{rs:List ResultVar}{ds:List D},zF T φ rs=aa ds ->
  ∃vs,ck σ s vs ds/\∀w,(∀b o u,s.M b o=aa u->w.cell? ⟨b,o,af⟩=aa u)->(rs.mapM (gg a)).run P w=Result.ok vs w/\∀es,∀e∈(rs.mapM (gg a)).events P w es,e∈es∨∃b o u,e=⟨.cell ⟨b,o,af⟩,ae,ae⟩/\s.M b o=aa u
 |[],ds,h=>by cases h;exact⟨[],aw,λw _=>⟨by simp,λes e l=>.inl (by simpa using l)⟩⟩
 |.tmp t::r,ds,h=>by
  simp only[zF]at h;cases J:zF T φ r with
  |none=>grind
  |some q =>
   simp[J]at h;subst h;obtain⟨vs,S,W⟩:=zG hT f J;refine⟨a.tmps.getD t ai::vs,⟨f.slot t,S⟩,λw p=>?_⟩;obtain⟨k1,U⟩:=W w p;refine⟨by simp only[n9,bO,gg,dt,bX,k1],λes e l=>U es e ?_⟩;simpa[n9,gg,k1]using l
 |.cell ad t::r,ds,h=>by
  simp only[zF]at h;cases J:zF T φ r with
  |none=>grind
  |some q =>
   simp only[J]at h;have hs:=f.slot ad;generalize look φ ad=x at h hs;split at h
   case h_2=>cases h
   rename_i cs;cases hi:bD T t with
   |none=>grind
   |some i =>
    simp only[hi]at h;cases k:kP i (cs.map A.c)with
    |none=>grind
    |some e0 =>
     simp[k]at h;subst h;obtain⟨vs,S,W⟩:=zG hT f J;have E:=eY hs;generalize Y:a.tmps.getD ad ai=vx at E;cases E;rename_i b off g hm MY;let y:=(bd cs.length).map g;have F:dW σ s y (cs.map A.c):=by
      have key:∀(n:Nat) (ds:List C),(∀j c,ds[j]?=aa c->Rd s.M (g (n+j)) c)->dW σ s ((bd ds.length).map λj=>g (n+j)) (ds.map A.c):=by
       intro n ds;induction ds generalizing n with
       |nil=>intro _;trivial
       |cons d ds ih =>
        intro hd;rw[er,uY];refine⟨hd 0 d rfl,?_⟩;have:=ih (n+1) (λj c m=>by have:=hd (j+1) c (by grind);grind);grind[Function.comp_def]
      have:=key 0 cs (by grind);grind
     have L:∀(j:Nat) (v:ah),y[j]?=aa v->s.M b (off+j)=aa v:=λj v m=>by
      simp only[y,mV]at m;by_cases B:j<cs.length
      .simp[B]at m;subst m;exact hm j cs[j] (br B)
      grind
     let w0:az:={s.w with heap:=s.w.heap}
     have I:∃v,m8 σ s v e0/\∀w,(∀b o u,s.M b o=aa u->w.cell? ⟨b,o,af⟩=aa u)->(loadVar t ⟨b,off,af⟩).run P w=.ok v w:=by
      have Q:=hT t i hi;cases V:i.agg<;>simp only[kP,V]at k
      .cases O:dw 0 (cs.map A.c)with
       |none=>grind
       |some a0 =>
        simp[O]at k;subst k;obtain⟨v,hv,Z⟩:=F.get (b5 O);refine⟨v,Z,λw p=>?_⟩;have:=p _ _ _ (L 0 v hv);simp only[loadVar,bO,Q.ki,bX,V];grind[run_load]
      .cases O:oJ i.size (cs.map A.c)with
       |none=>grind
       |some r0 =>
        simp[O]at k;subst k;obtain⟨q1,q2⟩:=nn O;have G:=F.take i.size;rw[<-q1]at G;have hl:(y.take i.size).length=i.size:=by grind
        refine⟨.agg (y.take i.size).toArray,⟨y.take i.size,rfl,G⟩,λw p=>?_⟩
        have z:=run_loadCells_list (P:=P) w ⟨b,off,af⟩ (y.take i.size) (λj v m=>by grind[dq])
        rw[hl]at z;simp only[loadVar,bO,Q.ki,bX,V];simp[Q.run_sizeOf,z]
     obtain⟨v,R,WY⟩:=I;refine⟨v::vs,⟨R,S⟩,λw p=>?_⟩;obtain⟨k1,U⟩:=W w p;have H:(gg a (.cell ad t))=loadVar t ⟨b,off,af⟩:=by simp[gg,Y,asAddr]
     refine⟨by grind[Go.Sem.run_bind,Go.Sem.run_pure,Go.Result.andThen_ok],λes e l=>?_⟩;rw[n9,H]at l;simp only[aK,WY w p,aO,k1,Sem.events_pure]at l;rcases U _ e l with l|l
     .rcases Dy l with l|l
      .grind
      .obtain⟨j,m,rfl⟩:=gf (hT t i hi) (w:=w) (n:=cs.length) (λj m=>⟨g j,p _ _ _ (hm j cs[j] (br m))⟩) (by have:=kQ k;grind) e l;exact .inr ⟨b,off+j,g j,rfl,hm j cs[j] (br m)⟩
     grind
theorem zD.Us{P:aq}{T:List (Nat×TI)}(hT:cT P T){fn:Func}{φ:Fr}{ds:List D}{d:D}(h:zF T φ fn.results.toList=aa ds)(hj:rW ds=aa d):zD P fn φ d:=by
 intro N σ s a f;obtain⟨vs,h1,h2⟩:=zG hT f h;refine⟨_,Bw hj h1,λw g=>?_⟩;obtain⟨k1,j⟩:=h2 w g;have e1:(fn.results.mapM (gg a)).run P w=Result.ok vs.toArray w:=by grind[Array.mapM_eq_mapM_toList,Sem.run_map,Go.Result.andThen_ok]
 have e2:∀es,∀e∈(fn.results.mapM (gg a)).events P w es,e∈es∨∃b o u,e=⟨.cell ⟨b,o,af⟩,ae,ae⟩/\s.M b o=aa u:=by rw[qS];intro es e c;exact j es e (by simpa using c)
 constructor
 .unfold results;rw[bO];refine(dA (λr=>Result.andThen r _) (Eq.trans ?_ e1)).trans ?_
  .congr 2
  .simp
 .intro e c;have i:e∈(fn.results.mapM (gg a)).events P w #[]:=by unfold results at c;rw[aK]at c;change e∈((fn.results.mapM (gg a)).run P w).evThen ((fn.results.mapM (gg a)).events P w #[]) _ at c;rw[e1]at c;simpa using c
  grind
section
variable {P:aq}{X:Cx P}{N:Nat}{K:List It}{φ:Fr}{σ:List aP}
def Hg(T:List (Nat×TI))(rs:List ResultVar)(ks:List Nat)(φ:Fr)(res:D):Option (List Prop) :=
 match zF T φ rs with
 |some ds=>match rW ds with
  |some d=>match vP ks.length res with
   |true=>Dr d (hY ks res)
   |false=>af
  |none=>af
 |none=>af
def AK.Bx{T:List (Nat×TI)}(hT:cT P T){fn:Func}{a:Nat}{res:D}{σ':List aP}(ks:List Nat){ps:List Prop}(h:Hg T fn.results.toList ks φ res=aa ps)(d:ay ps)(c:jH ks σ=aa σ')(b:kn σ'=ab)(e:dy ks=ab)(hk:∀j,j<a->ks[j]?=aa j):
  AK X N (qZ P fn a res σ') (.code .ret::K) .normal φ σ:=by refine AK.ret ⟨.inl rfl,ks,?_⟩;unfold Hg at h;grind[zD.Us]
def Ev.qJ{f:aH}{fn:Func}{c:Code}{args:List D}{σ σ':List aP}{res:D}(d:P.funcs[f]?=aa fn)(a:(fn.name== "runtime.NumGoroutine")=ae)(e:fn.body=aa c)(b:bw args.length fn.ntmps=ab)(h:Fits args σ->AK X fn.ntmps (qZ P fn σ.length res σ') [.code c] .normal (iY 0 args) σ):Ev X f args σ res σ':=by refine⟨⟨fn,d,a,by grind⟩,λs vs hr hh=>?_⟩;have:=dZ.Jf (X:=X) (ι:=Unit) (σ':=λ_=>σ') (res:=λ_=>res) d a e (cZ b) (AW.mono (AK.of_code (h ⟨s,vs,hr,hh⟩)) λ_ _ _ q=>⟨(),q⟩);exact this.DK.2 s vs hr hh
def cw.mk{fn:Func}{a:Nat}{res:D}{σ':List aP}(ks:List Nat){ps:List Prop}(h:zH fn.results.toList ks φ res=aa ps)(d:ay ps)(c:jH ks σ=aa σ')(b:kn σ'=ab)(e:dy ks=ab)(hk:∀j,j<a->ks[j]?=aa j):cw fn a res σ' .ret φ σ:=by refine⟨.inl rfl,ks,?_⟩;unfold zH at h;grind
end
def Gg{α:Type}{l:Nat}{x:α}:∀{ks:List Nat}{a r:List α},jH ks a=aa r->l∉ks->jH ks (a.set l x)=aa r
 |[],a,r,h,_=>h
 |k::ks,a,r,h,c=>by
  simp only[eE,not_or]at c;simp only[jH,fp]at h⊢;rw[j6 c.1];cases hk:a[k]? with
  |none=>simp[hk]at h
  |some y =>
   simp only[hk]at h⊢;cases b:jH ks a with
   |none=>simp[b]at h
   |some q=>rw[Gg b c.2];simp only[b]at h;exact h
def B4{k:Nat}{l:List Nat}(h:hZ k l=ae):k∉l:=λhk=>by rw[vf hk]at h;cases h
def oR:Option (Tmp×E1)->List ResultVar
 |none=>[]
 |some q=>[.tmp q.1]
def oD(cs:List A):Option (Tmp×E1)->D
 |none=>.e (.agg cs)
 |some q=>.fa [.agg cs,q.2]
def Kh(T:List (Nat×TI))(fn:Func)(a:Nat)(res:D)(σ':List aP):Post:=λe φ σ1 =>
 (e=.ret∨e=.normal)/\∃ks l E cs t ty it ps,∃o:Option (Tmp×E1),(∀q,o=aa q->look φ q.1=.e q.2)/\fn.results.toList=.cell t ty::oR o/\bD T ty=aa it/\it.agg=ab/\cs.length=it.size/\look φ t=.e (.one (.ptr l 0))/\σ1[l]?=aa (.cells E cs)/\l∉ks /\
  Dr (oD cs o) (hY ks res)=aa ps/\ay ps/\vP ks.length res=ab/\jH ks σ1=aa σ'/\kn σ'=ab/\dy ks=ab/\(∀j,j<a->ks[j]?=aa j)
def dZ.RX{P:aq}{ι:Type}{X:Cx P}{T:List (Nat×TI)}(hT:cT P T){f:aH}{fn:Func}{c:Code}{args:List D}{σ:List aP}{σ':ι->List aP}{res:ι->D}(hf:P.funcs[f]?=aa fn)(N3:(fn.name== "runtime.NumGoroutine")=ae)(p:fn.body=aa c)(hlen:args.length<=fn.ntmps)(h:∀s a,cq fn.ntmps σ s (iY 0 args) a->aE σ s->∀(b:aR) (k:List Item) (cs:List aR) (S:au->St->Prop),b.kind≠.early->b.roundOf=af ->
  (∀e φ' σ1 s' a',(∃j,Kh T fn σ.length (res j) (σ' j) e φ' σ1)->cq fn.ntmps σ1 s' φ' a'->aE σ1 s'->cU σ s σ1 s'->ends X S b k cs e a' s')->fE X S (G (b.aT a (.code c::k)) cs) s):dZ X f args σ res σ':=by
 refine⟨⟨fn,hf,N3,by rw[p];rfl⟩,λs vs hr hh S cs hS=>?_⟩;obtain⟨hl,hg⟩:=ck.get hr;let b:aR:={fn:=f,tmps:=#[],todo:=[],defers:=[],mode:=.run,kind:=.normal,roundOf:=af}
 have J:Frame.enter P f vs.toArray .normal=b.aT {tmps:=vs.toArray++Array.replicate (fn.ntmps-vs.toArray.size) ai,defers:=[]} [.code c]:=by simp[Frame.enter,Frame.aT,hf,p,b]
 rw[J];refine h s {tmps:=vs.toArray++Array.replicate (fn.ntmps-vs.toArray.size) ai,defers:=[]} ⟨by simp;omega,⟨[],aw⟩,λt=>?_⟩ hh b [] cs S (by simp[b]) rfl ?_
 .rw[ot];simp only[ll,cn,lF];have:=hg t;rcases cG t vs.length with vJ|QY
  .have e:(vs.toArray++Array.replicate (fn.ntmps-vs.toArray.size) ai).getD t ai=(vs[t]?).getD ai:=by simp only[dN];grind
   rw[e];exact this
  .rw[rH (by omega)];trivial
 .rintro e φ' σ0 s0 a1 ⟨jj,he,ks,l,E,rcs,t,ty,it,ps,o,q0,q1,q2,q3,q4,q5,q6,q7,h3,h4,h5,h6',h7',h8,h9⟩ f0 W Yb;obtain⟨h7,h7n⟩:=yq h7';have F:=f0.slot t;rw[q5]at F;obtain⟨_,L,bb,r,Xh,YA⟩:=F;obtain⟨b2,d,Ux,R,hrv,hM⟩:=W.box l _ L q6 r;subst Ux;cases Xh;let M':Mem:=λm o=>if m=bb then d[o]? else s0.M m o;have Up:∀o v,d[o]?=aa v->s0.w.cell? ⟨bb,o,af⟩=aa v:=λo v ho=>by simpa[aU,R]using ho
  have Ue:∀m o v,s0.M m o=aa v->M' m o=aa v:=λm o v hv=>by grind
  have hcM:∀m o v,M' m o=aa v->s0.w.cell? ⟨m,o,af⟩=aa v:=λm o v hv=>by
   by_cases e:m=bb
   .grind
   .simp only[M',e,b9]at hv;exact W.mem m o v hv
  obtain⟨h',H⟩:=W.gB (M':=M') (w':=s0.w) (B':=.dead) (L':=⟨.pointer (aa ⟨bb,0,af⟩),[]⟩) q6 r rfl (bg _) (λ_ _ _=>rfl) (λm _ Q o=>by grind) Ue hcM (by simp) rfl rfl rfl aw
  have Xe:eu s0 ⟨s0.β.set l ⟨.pointer (aa ⟨bb,0,af⟩),[]⟩,M',s0.w,s0.own⟩:=⟨rfl,Ue,λm Q o=>by
   have:m≠bb:=by rintro rfl;exact Q _ (bJ r) (by simp)
   simp only[M',this,b9],hcM,λm Q=>by grind⟩
  have f':cq fn.ntmps (σ0.set l .dead) ⟨s0.β.set l ⟨.pointer (aa ⟨bb,0,af⟩),[]⟩,M',s0.w,s0.own⟩ φ' a1:=⟨f0.size,f0.defers.imp λ_ h1=>h1.mono H.ext,λu=>(f0.slot u).mono H.ext W.len⟩
  have h6:=Gg (x:=aP.dead) h6' q7;have YB:dW (σ0.set l .dead) ⟨s0.β.set l ⟨.pointer (aa ⟨bb,0,af⟩),[]⟩,M',s0.w,s0.own⟩ d rcs:=hrv.mono H.ext W.len;have st:=Yb.trans (H.na W);let V:ah:=match o with|none=>.agg d.toArray|some q=>.tuple #[.agg d.toArray,a1.tmps.getD q.1 ai]
  have K:∀w,(∀b o u,M' b o=aa u->w.cell? ⟨b,o,af⟩=aa u)->(results fn a1.tmps).run P w=.ok V w/\∀e∈(results fn a1.tmps).events P w #[],∃b o u,e=⟨.cell ⟨b,o,af⟩,ae,ae⟩/\M' b o=aa u:=by
   intro w hw;have O:=hT ty it q2;have Y:d.length=it.size:=by rw[hrv.length,q4]
   have TJ:∀j v,d[j]?=aa v->w.cell? ⟨bb,0+j,af⟩=aa v:=λj v hj=>hw _ _ _ (by grind);have W3:=run_loadCells_list (P:=P) w ⟨bb,0,af⟩ d (λj v hj=>by rw[dq];exact TJ j v hj);rw[Y]at W3;have G9:(loadVar ty ⟨bb,0,af⟩).run P w=.ok (.agg d.toArray) w:=by simp only[loadVar,bO,O.ki,bX,q3];simp[O.run_sizeOf,W3]
   have hra:fn.results=(ResultVar.cell t ty::oR o).toArray:=by apply Array.ext';simpa using q1
   have N:asAddr (a1.tmps[t]?.getD ai)=(pure ⟨bb,0,af⟩:Sem Addr):=by rw[<-dN,YA];rfl
   refine⟨by cases o<;>simp[results,hra,N,G9,V,oR],λe he=>?_⟩;have Q4:e∈(loadVar ty ⟨bb,0,af⟩).events P w #[]:=by cases o<;>simpa[results,hra,N,G9,oR]using he
   obtain⟨j,hj,rfl⟩:=gf O (w:=w) (n:=d.length) (λj hj=>⟨_,TJ j d[j] (br hj)⟩) (by rw[q3,Y];simp) e Q4;exact⟨bb,0+j,d[j],rfl,by grind⟩
  have fin:∀(fr:aR) s2,cp (⟨s0.β.set l ⟨.pointer (aa ⟨bb,0,af⟩),[]⟩,M',s0.w,s0.own⟩:St) s2->fr.fn=f->fr.tmps=a1.tmps->fr.defers=a1.defers->fr.mode=.returning->fr.kind=.normal->fE X S (G fr cs) s2:=by
   intro fr s2 sX e1 e2 e3 e4 e5;have f2:=f'.rely sX h';have A:=h'.rely sX;have g:=st.trans sX.stepW;have r2:dn (σ0.set l .dead) s2 V (oD rcs o):=by
    have TR:=YB.mono sX.stepW.ext h'.len;cases o with
    |none=>exact⟨d,rfl,TR⟩
    |some q =>
     have hx:=f2.slot q.1;rw[q0 q rfl]at hx;exact⟨[.agg d.toArray,a1.tmps.getD q.1 ai],rfl,⟨d,rfl,TR⟩,hx,aw⟩
   obtain⟨i,I⟩:=vM (l':=s2.β) h6 A.len;have r4:=(ou h3 h4 r2).sub h6 I h5;obtain⟨c1,c2⟩:=iI h6;obtain⟨d1,d2⟩:=iI I;have U:∀L∈i,L∈s2.β:=zC I;have TT:aE (σ' jj) {s2 with β:=i}:=by obtain⟨g1,_⟩:=A.sub h6 I h7 h8;refine⟨g1.mem,g1.len,λj B L hB r=>?_,g1.eB,g1.lt,λb p=>⟨(A.own b p).1,λL r=>(A.own b p).2 L (U L r)⟩⟩;exact et.plain (σ:=σ' jj) (s:={s2 with β:=i,own:=vR s2 i}) (s':={s2 with β:=i}) rfl rfl (kM h7 B (bJ hB)) (g1.box j B L hB r)
   have Yz:cU σ s (σ' jj) {s2 with β:=i}:=by refine⟨g.size,g.fi,g.mem,g.iU,λL r b p=>g.vb _ (U L r) b p,λl B L hB r=>?_,g.os,g.tape,g.output,g.own⟩;have hl:l<σ.length:=(bZ.1 hB).1;obtain⟨B',L',p1,p2,p3⟩:=g.box l B L hB r;grind
   obtain⟨ls,RI⟩:=f2.defers;refine ri ls fr s2 _ A.lH (by grind) e4 (by rw[e3];exact RI.taken A) λs3 z=>?_;have C:cp {s2 with β:=i} {s3 with β:=i}:=by
    refine⟨rfl,z.M,z.own,z.size,λb p=>z.fi b (p.imp id ?_),z.mem,z.os,z.tape,z.output⟩;rintro⟨L,r,p⟩;obtain⟨j,hj,rfl⟩:=dL r;have hj':j<ks.length:=by rw[<-d1];exact hj
    obtain⟨y,y1,y2⟩:=d2 j _ (br hj');obtain⟨x,x1,x2⟩:=c2 j _ (br hj');rw[br hj]at y1;cases y1;refine⟨_,_,y2,λhc=>?_,p⟩;rw[RI.BO _ hc]at x2;cases x2;exact nq h7n _ (bJ x1) rfl
   have hG:eu s3 {s3 with β:=i}:=⟨rfl,λ_ _ _ h=>h,λ_ _ _=>rfl,λb o v hv=>z.mem b o v (by rw[<-z.M];exact hv),λb p=>p.imp id λ⟨L,r,p⟩=>⟨L,by rw[z.β];exact U L r,p⟩⟩
   have YC:s2.M=M':=sX.M;refine .ghost hG (hS jj _ V _ ⟨e1,e4,rfl,e5,fn,by grind,λw hw=>?_⟩ (r4.mono C.stepW.ext TT.len) (TT.rely C) (Yz.trans C.stepW));show(results fn fr.tmps).run P w=_/\∀e∈(results fn fr.tmps).events P w #[],_;rw[e2];have Z:∀b o u,M' b o=aa u->w.cell? ⟨b,o,af⟩=aa u:=λb o u h=>hw b o u (by show s3.M b o=aa u;rw[z.M,YC];exact h);refine⟨(K w Z).1,λe he=>?_⟩;obtain⟨b,o,u,q1,q2⟩:=(K w Z).2 e he;exact⟨b,o,u,q1,by show s3.M b o=aa u;rw[z.M,YC];exact q2⟩
  rcases he with rfl|rfl
  .intro pre;exact .ghost Xe (.ctl h' rfl (λ_=>DC rfl) λs2 sX=>fin _ s2 sX rfl rfl (iQ _) rfl rfl)
  .exact .ghost Xe (.ctl h' rfl (λ_=>DD rfl) λs2 sX=>fin _ s2 sX rfl rfl (iQ _) rfl rfl)
def dZ.qJ{P:aq}{ι:Type}{X:Cx P}{T:List (Nat×TI)}(hT:cT P T){f:aH}{fn:Func}{c:Code}{args:List D}{σ:List aP}{σ':ι->List aP}{res:ι->D}(l:P.funcs[f]?=aa fn)(d:(fn.name== "runtime.NumGoroutine")=ae)(i:fn.body=aa c)(g:bw args.length fn.ntmps=ab)(h:Fits args σ->AK X fn.ntmps (λe φ σ1=>∃j,Kh T fn σ.length (res j) (σ' j) e φ σ1) [.code c] .normal (iY 0 args) σ):dZ X f args σ res σ':=by refine⟨⟨fn,l,d,by rw[i];rfl⟩,λs0 vs hr I7=>?_⟩;have:=dZ.RX (X:=X) (σ':=σ') (res:=res) hT l d i (cZ g) λs a f hh b k cs S hk _ m=>(show AW X fn.ntmps c _ (iY 0 args) σ from AK.of_code (h ⟨s0,vs,hr,I7⟩)) s a f hh b k cs S hk m;exact this.2 s0 vs hr I7
def dW.set{σ:List aP}{s:St}{a:A}{v:ah}:∀{vs:List ah}{cs:List A}{j:Nat},dW σ s vs cs->vs[j]?=aa v->gu σ s v a->dW σ s vs (cs.set j a)
 |[],[],_,_,h,_=>by grind
 |[],_::_,_,h,_,_=>h.elim
 |_::_,[],_,h,_,_=>h.elim
 |u::vs,c::cs,0,h,d,b=>by simp at d;subst d;exact⟨b,h.2⟩
 |u::vs,c::cs,j+1,h,d,b=>⟨h.1,dW.set h.2 (by grind) b⟩
section
variable {P:aq}{X:Cx P}{N:Nat}{Qf:Post}{K:List It}{φ:Fr}{σ:List aP}{c:Code}
def AK.g7(l j:Nat)(E k:Nat)(es':Nat->List C){E0:aj}{cs:List A}{k':Nat}{x:Nat->List C}(hl:dw l σ=aa (.cells E0 cs))(hj:dw j cs=aa (.c (.sl ab k' 0 x)))(kk:AK X N Qf (.code c::K) .normal φ ((σ++[aP.vec E k 0 es']).set l (.cells E0 (cs.set j (.vec σ.length k 0 es'))))):AK X N Qf (.code c::K) .normal φ σ:=by
 refine AK.ghost (λs a D hh=>?_) kk;have hB:=b5 hl;have J:=b5 hj;have F:l<σ.length:=(bZ.1 hB).1;have g:l<s.β.length:=by rw[hh.len];grind
 have t:=br g;generalize s.β[l]=L at t;obtain⟨b,vs,z,d,m,T⟩:=hh.box l _ L hB t;obtain⟨v,S,R⟩:=m.get J;have h1:Rd s.M v (.sl ab k 0 es'):=(Rd.u9 (k:=k') (k':=k) (.inr rfl) R).Dw λi hi=>by omega
 have r:et (σ++[aP.vec E k 0 es']) {s with β:=s.β++[⟨v,[]⟩]} (.vec E k 0 es') ⟨v,[]⟩:=⟨h1.loose,.inl ⟨⟨rfl,rfl⟩,h1⟩⟩;obtain⟨H,G⟩:=hh.hO (.refl _ _) rfl hh r (by simp)
 have q:(σ++[aP.vec E k 0 es'])[l]?=aa (.cells E0 cs):=by grind
 have p:(s.β++[(⟨v,[]⟩:Loc)])[l]?=aa L:=by grind
 have n:(s.β++[(⟨v,[]⟩:Loc)]).set l L=s.β++[⟨v,[]⟩]:=by apply iO;grind
 have y:gA (.cells E0 cs) L (.cells E0 (cs.set j (.vec σ.length k 0 es'))) L:=rfl;have Q:σ.length≠l:=by omega
 have o:et ((σ++[aP.vec E k 0 es']).set l (.cells E0 (cs.set j (.vec σ.length k 0 es')))) ⟨(s.β++[(⟨v,[]⟩:Loc)]).set l L,s.M,s.w,s.own⟩ (.cells E0 (cs.set j (.vec σ.length k 0 es'))) L:=by
  rw[n];refine⟨b,vs,z,d,?_,T⟩;have ex:Ext (σ++[aP.vec E k 0 es']) {s with β:=s.β++[⟨v,[]⟩]} ((σ++[aP.vec E k 0 es']).set l (.cells E0 (cs.set j (.vec σ.length k 0 es')))) {s with β:=s.β++[⟨v,[]⟩]}:=by
   refine⟨λ_ _ _ h=>h,λi B L' jZ fj=>?_⟩;by_cases e:l=i
   .grind
   .exact⟨B,L',by grind,fj,.refl _ _⟩
  have f:dW (σ++[aP.vec E k 0 es']) {s with β:=s.β++[⟨v,[]⟩]} vs cs:=m.mono G.ext hh.len;refine dW.set (f.mono ex H.len) S ?_;refine⟨h1.loose,by simp,λE2 k2 n2 zq h=>?_⟩;rw[j6 (by omega),gz (by omega),Nat.sub_self]at h;cases h;refine⟨bg _,λ_=>⟨⟨v,[]⟩,?_,rfl⟩⟩;simp[<-hh.len]
 obtain⟨O,q2⟩:=H.gB (M':=s.M) (w':=s.w) (L':=L) q p y (bg _) (λ_ _ _=>rfl) (λ_ _ _ _=>rfl) (λ_ _ _ h=>h) hh.mem (λb I=>⟨.inl I,hh.lt L (bJ t) b I⟩) rfl rfl rfl o;have st:=G.trans q2;exact⟨⟨(s.β++[(⟨v,[]⟩:Loc)]).set l L,s.M,s.w,s.own⟩,rfl,⟨D.size,D.defers.imp λ_ h1=>h1.mono st.ext,λu=>(D.slot u).mono st.ext hh.len⟩,O,st⟩
end
section
variable {P:aq}{X:Cx P}{N:Nat}{Qf:Post}{K:List It}{φ:Fr}{σ:List aP}{c:Code}
def AK.Vg(t:Nat)(E k:Nat)(es':Nat->List C){k':Nat}{d:Nat->List C}(h:look φ t=.e (.one (.c (.sl ab k' 0 d))))(kk:AK X N Qf (.code c::K) .normal ((t,.e (.one (.bp σ.length (.sl 0 k 0 0))))::φ) (σ++[.buf E k 0 es'])):AK X N Qf (.code c::K) .normal φ σ:=by
 refine AK.ghost (λs a b hh=>?_) kk;have g:=b.slot t;rw[h]at g;obtain⟨j,f⟩:=hh.hO (B:=.buf E k 0 es') (L:=⟨.slice af 0 0,[]⟩) (.refl _ _) rfl hh (.inl ⟨rfl,rfl⟩) (by simp);refine⟨{s with β:=s.β++[⟨.slice af 0 0,[]⟩]},rfl,⟨b.size,b.defers.imp λ_ h1=>h1.mono f.ext,λu=>?_⟩,j,f⟩;simp only[look];cases i:aA t u with
 |false=>exact(b.slot u).mono f.ext hh.len
 |true =>
  have e:=bR i;subst e;exact va (E:=E) (es:=es') (eY g) (by simp) (by simp[<-hh.len])
def AK.sx(l j:Nat)(E k:Nat)(es':Nat->List C){E0:aj}{cs:List A}{k':Nat}{y:Nat->List C}(hl:dw l σ=aa (.cells E0 cs))(hj:dw j cs=aa (.c (.sl ab k' 0 y)))(kk:AK X N Qf (.code c::K) .normal φ ((σ++[aP.buf E k 0 es']).set l (.cells E0 (cs.set j (.bp σ.length (.sl 0 k 0 0)))))):AK X N Qf (.code c::K) .normal φ σ:=by
 refine AK.ghost (λs a F hh=>?_) kk;have hB:=b5 hl;have Q:=b5 hj;have H:l<σ.length:=(bZ.1 hB).1;have m:l<s.β.length:=by rw[hh.len];grind
 have x:=br m;generalize s.β[l]=L at x;obtain⟨b,vs,D,f,o,V⟩:=hh.box l _ L hB x;obtain⟨v,U,S⟩:=o.get Q;let d:Loc:=⟨.slice af 0 0,[]⟩
 obtain⟨J,I⟩:=hh.hO (B:=.buf E k 0 es') (L:=d) (.refl _ _) rfl hh (.inl ⟨rfl,rfl⟩) (by grind);have t:(σ++[aP.buf E k 0 es'])[l]?=aa (.cells E0 cs):=by grind
 have r:(s.β++[d])[l]?=aa L:=by grind
 have p:(s.β++[d]).set l L=s.β++[d]:=by apply iO;grind
 have z:gA (.cells E0 cs) L (.cells E0 (cs.set j (.bp σ.length (.sl 0 k 0 0)))) L:=rfl;have q:et ((σ++[aP.buf E k 0 es']).set l (.cells E0 (cs.set j (.bp σ.length (.sl 0 k 0 0))))) ⟨(s.β++[d]).set l L,s.M,s.w,s.own⟩ (.cells E0 (cs.set j (.bp σ.length (.sl 0 k 0 0)))) L:=by
  rw[p];refine⟨b,vs,D,f,?_,V⟩;have ex:Ext (σ++[aP.buf E k 0 es']) {s with β:=s.β++[d]} ((σ++[aP.buf E k 0 es']).set l (.cells E0 (cs.set j (.bp σ.length (.sl 0 k 0 0))))) {s with β:=s.β++[d]}:=by
   refine⟨λ_ _ _ h=>h,λi B L T G=>?_⟩;by_cases e:l=i
   .grind
   .exact⟨B,L,by grind,G,.refl _ _⟩
  have g:dW (σ++[aP.buf E k 0 es']) {s with β:=s.β++[d]} vs cs:=o.mono I.ext hh.len;exact dW.set (g.mono ex J.len) U (va (E:=E) (es:=es') S (by grind) (by simp[<-hh.len,d]))
 obtain⟨R,q2⟩:=J.gB (M':=s.M) (w':=s.w) (L':=L) t r z (bg _) (λ_ _ _=>rfl) (λ_ _ _ _=>rfl) (λ_ _ _ h=>h) hh.mem (λb O=>⟨.inl O,hh.lt L (bJ x) b O⟩) rfl rfl rfl q;have st:=I.trans q2;exact⟨⟨(s.β++[d]).set l L,s.M,s.w,s.own⟩,rfl,⟨F.size,F.defers.imp λ_ h1=>h1.mono st.ext,λu=>(F.slot u).mono st.ext hh.len⟩,R,st⟩
end
def q8:Nat->(Nat->List C)->Nat->List C
 |0,es=>es
 |o+1,es=>jJ (o+1) es
def vh(o:Nat)(es:Nat->List C)(i:Nat):q8 o es i=es (o+i):=by cases o<;>simp[q8,jJ]
def Ah(l k n:Nat)(es:Nat->List C)(a:A):Option (A×List Prop):=match He l a with
 |true=>aa (a,[])
 |false=>match a with
  |.bp l' (.sl g k' o m)=>match aA l' l,aA k' k with
   |true,ab=>aa (.c (.sl ae k m (q8 o es)),[g=n,o+m<=n])
   |_,_=>af
  |_=>af
def Ai(l k n:Nat)(es:Nat->List C):List A->Option (List A×List Prop)
 |[]=>aa ([],[])
 |a::r=>match Ah l k n es a with
  |some (a',p)=>match Ai l k n es r with
   |some (r',q)=>aa (a'::r',kO p q)
   |none=>af
  |none=>af
def wY(l k n:Nat)(es:Nat->List C):E1->Option (E1×List Prop)
 |.one a=>match Ah l k n es a with|some (a,p)=>aa (.one a,p)|none=>af
 |.agg cs=>match Ai l k n es cs with|some (cs,p)=>aa (.agg cs,p)|none=>af
def vt(l k n:Nat)(es:Nat->List C):List E1->Option (List E1×List Prop)
 |[]=>aa ([],[])
 |a::r=>match wY l k n es a with
  |some (a',p)=>match vt l k n es r with
   |some (r',q)=>aa (a'::r',kO p q)
   |none=>af
  |none=>af
def wZ(l k n:Nat)(es:Nat->List C):D->Option (D×List Prop)
 |.e x=>match wY l k n es x with|some (x,p)=>aa (.e x,p)|none=>af
 |.fa xs=>match vt l k n es xs with|some (xs,p)=>aa (.fa xs,p)|none=>af
 |.any=>aa (.any,[])
section
variable {σ1:List aP}{s s2:St}{E k n:Nat}{es:Nat->List C}
structure l5(σ1:List aP)(E k n:Nat)(es:Nat->List C)(s s2:St):Prop where
 fi:∀v a,gu (σ1++[.buf E k n es]) s v a->He σ1.length a=ab->gu σ1 s2 v a
 Jh:∀v k' o m,gu (σ1++[.buf E k n es]) s v (.bp σ1.length (.sl n k' o m))->k'=k->o+m<=n->Rd s2.M v (.sl ae k m (q8 o es))
def l5.a(h:l5 σ1 E k n es s s2){v:ah}{a a':A}{ps:List Prop}(b:Ah σ1.length k n es a=aa (a',ps))(e:ay ps)(r:gu (σ1++[.buf E k n es]) s v a):gu σ1 s2 v a':=by
 unfold Ah at b;split at b
 .rename_i d;cases b;exact h.fi v a r d
 .split at b
  .rename_i l' g k' o m _;split at b
   .rename_i e1 e2;cases b;have e1:=bR e1;have e2:=bR e2;subst e1 e2;obtain⟨rfl,h2⟩:g=n/\o+m<=n:=e;exact h.Jh v _ _ _ r rfl h2
   grind
  grind
def l5.l(h:l5 σ1 E k n es s s2):∀{vs:List ah}{cs nb:List A}{ps:List Prop},Ai σ1.length k n es cs=aa (nb,ps)->ay ps->dW (σ1++[.buf E k n es]) s vs cs->dW σ1 s2 vs nb
 |[],[],_,_,b,_,_=>by cases b;trivial
 |[],_::_,_,_,_,_,r=>r.elim
 |_::_,[],_,_,_,_,r=>r.elim
 |v::vs,c::cs,nb,ps,b,d,r=>by
  simp only[Ai]at b;split at b
  .rename_i a' p h1;split at b
   .rename_i r' q h2;cases b;rw[ay.cat]at d;exact⟨h.a h1 d.1 r.1,h.l h2 d.2 r.2⟩
   grind
  grind
def l5.e(h:l5 σ1 E k n es s s2){v:ah}{x d:E1}{ps:List Prop}(b:wY σ1.length k n es x=aa (d,ps))(f:ay ps)(r:m8 (σ1++[.buf E k n es]) s v x):m8 σ1 s2 v d:=by
 cases x with
 |one a =>
  simp only[wY]at b;split at b
  .rename_i a' p h1;cases b;exact h.a h1 f r
  grind
 |agg cs =>
  simp only[wY]at b;split at b
  .rename_i a' p h1;cases b;obtain⟨vs,g,i⟩:=r;exact⟨vs,g,h.l h1 f i⟩
  grind
def l5.es'(h:l5 σ1 E k n es s s2):∀{vs:List ah}{cs nb:List E1}{ps:List Prop},vt σ1.length k n es cs=aa (nb,ps)->ay ps->g6 (σ1++[.buf E k n es]) s vs cs->g6 σ1 s2 vs nb
 |[],[],_,_,a,_,_=>by cases a;trivial
 |[],_::_,_,_,_,_,r=>r.elim
 |_::_,[],_,_,_,_,r=>r.elim
 |v::vs,c::cs,nb,ps,a,b,r=>by
  simp only[vt]at a;split at a
  .rename_i a' p h1;split at a
   .rename_i r' q h2;cases a;rw[ay.cat]at b;exact⟨h.e h1 b.1 r.1,h.es' h2 b.2 r.2⟩
   grind
  grind
def l5.d(h:l5 σ1 E k n es s s2){v:ah}{x b:D}{ps:List Prop}(a:wZ σ1.length k n es x=aa (b,ps))(f:ay ps)(r:dn (σ1++[.buf E k n es]) s v x):dn σ1 s2 v b:=by
 cases x with
 |e x =>
  simp only[wZ]at a;split at a
  .rename_i a' p h1;cases a;exact h.e h1 f r
  grind
 |fa xs =>
  simp only[wZ]at a;split at a
  .rename_i a' p h1;cases a;obtain⟨vs,g,i⟩:=r;exact⟨vs,g,h.es' h1 f i⟩
  grind
 |any=>cases a;trivial
def aE.Jh(hh:aE (σ1++[.buf E k n es]) s)(D:rZ σ1.length σ1=ab):
  ∃s2:St,aE σ1 s2/\eu s s2/\l5 σ1 E k n es s s2/\∀{σ0:List aP} {s0:St},cU σ0 s0 (σ1++[.buf E k n es]) s->σ0.length<=σ1.length->cU σ0 s0 σ1 s2:=by
 have hB:(σ1++[aP.buf E k n es])[σ1.length]?=aa (.buf E k n es):=by simp
 have H:s.β.length=σ1.length+1:=by rw[hh.len];simp
 have y:s.β[σ1.length]?=aa s.β[σ1.length]:=br (by omega);generalize s.β[σ1.length]=L at y;have t:=hh.box _ _ L hB y;obtain⟨M',J,I,Q,m4⟩:∃M':Mem,(∀b o v,s.M b o=aa v->M' b o=aa v)/\(∀b,b∉L.bs->∀o,M' b o=s.M b o)/\(∀b o v,M' b o=aa v->s.w.cell? ⟨b,o,af⟩=aa v) /\
   (∀v k' o m,gu (σ1++[.buf E k n es]) s v (.bp σ1.length (.sl n k' o m))->k'=k->o+m<=n->Rd M' v (.sl ae k m (q8 o es))):=by
  rcases t with⟨rfl,rfl⟩|⟨b,c0,vs,zs,rfl,Z,Y,V,T,O,hM⟩
  .refine⟨s.M,λ_ _ _ h=>h,λ_ _ _=>rfl,hh.mem,λv k' o m r e l=>?_⟩;obtain⟨lv,⟨a,a0,cap,c0,p,h1,h2,S,A,h4⟩,_,R⟩:=r;grind[Rd.jD]
  .let M':Mem:=λd o=>if d=b then vs[o]? else s.M d o;have G:∀d o v,s.M d o=aa v->M' d o=aa v:=λd o v p=>by grind
   refine⟨M',G,λd W o=>?_,λd o v p=>?_,λv k' o m r e l=>?_⟩
   .grind
   .by_cases e:d=b
    .subst e;simp only[M',cn]at p;simp only[aU,Z];grind
    .simp only[M',e,b9]at p;exact hh.mem d o v p
   .subst e;obtain⟨lv,⟨a,a0,cap,c1,p,h1,h2,S,A,h4⟩,_,R⟩:=r;obtain⟨L',f,q⟩:=(R _ _ _ _ hB).2 rfl;rw[y]at f;cases f;rw[A]at q;cases q;rw[p];have z:∀i,i<m->∀j c,(q8 o es i)[j]?=aa c->∃u,vs[(o+i)*k'+j]?=aa u/\Rd s.M u c:=λi hi j c hj=>by rw[vh]at hj;exact O.rd (o+i) (by omega) j c hj
    refine .sl b (o*k') (λi j=>(vs[(o+i)*k'+j]?).getD ai) h1 (by omega) (by simp) (λi hi=>by rw[vh];exact O.width _ (by omega)) (λhm=>?_) (λi hi j c hj=>?_) (λi hi j c hj=>?_)
    .grind
    .grind
    .obtain⟨u,U,u2⟩:=z i hi j c hj;rw[U];exact u2.mono G
 have x:(σ1++[aP.buf E k n es]).set σ1.length .dead=σ1++[.dead]:=by simp
 obtain⟨F,q2⟩:=hh.gB (M':=M') (w':=s.w) (B':=.dead) (L':=⟨L.v,[]⟩) hB y aw (bg _) (λ_ _ _=>rfl) (λb _ g o=>I b g o) J Q (by simp) rfl rfl rfl aw;rw[x]at F q2;have q3:=F.drop (rest:=[.dead]) D;refine⟨_,q3,⟨rfl,J,λb g o=>I b (g L (bJ y)) o,Q,λb g=>?_⟩,⟨λv a r B=>?_,λv k' o m r e l=>m4 v k' o m r e l⟩,λ{σ0 s0} st hle=>(st.trans (q2.na hh)).drop (rest:=[.dead]) hle⟩
 .rcases g with g|⟨L',f,g⟩
  .exact .inl g
  .have:=fP f;grind
 .exact(r.mono q2.ext hh.len).drop (rest:=[.dead]) B
end
def dZ.Kq{P:aq}{ι:Type}{X:Cx P}{f:aH}{args:List D}{σ:List aP}{res tu:ι->D}{σ1:ι->List aP}{E k:Nat}{n:ι->Nat}{es:ι->Nat->List C}(h:dZ X f args σ res (λi=>σ1 i++[.buf E k (n i) (es i)])){ps:ι->List Prop}(e:∀i,wZ (σ1 i).length k (n i) (es i) (res i)=aa (tu i,ps i))(g:∀i,ay (ps i))(b:∀i,rZ (σ1 i).length (σ1 i)=ab)(a:∀i,σ.length<=(σ1 i).length):dZ X f args σ tu σ1:=by refine⟨h.1,λs vs hr hh S cs hS=>h.2 s vs hr hh S cs λi fr v s' hl mh iX st=>?_⟩;obtain⟨s2,c1,c2,c3,c4⟩:=iX.Jh (b i);exact .ghost c2 (hS i fr v s2 (hl.mono c2.mem) (c3.d (e i) (g i) mh) c1 (c4 st (a i)))
def Ev.Kq{P:aq}{X:Cx P}{f:aH}{args:List D}{σ:List aP}{res tu:D}{σ1:List aP}{E k n:Nat}{es:Nat->List C}(h:Ev X f args σ res (σ1++[.buf E k n es])){ps:List Prop}(d:wZ σ1.length k n es res=aa (tu,ps))(e:ay ps)(b:rZ σ1.length σ1=ab)(a:σ.length<=σ1.length):Ev X f args σ tu σ1 :=
 (dZ.Kq (ι:=Unit) h.sW (λ_=>d) (λ_=>e) (λ_=>b) (λ_=>a)).DK
section
variable {P:aq}{T:List (Nat×TI)}{o:ar}{d:ak->D}{σ:List aP}
def zI{x:ak}{t:aj}(h:o.op=.call {callee:=.builtin .clear,args:=#[x],argTypes:=#[t]})(a:ak->ah):
  av a o=(do pure (.value (<-Builtin.clear_ #[t] o.type #[a x]))):=by simp[av,h,resolve,invoke,builtin]
def Jg{M:Mem}{z:ah}{f:List C}{m k:Nat}(n:z.cells.toList.map rY=f.map aa)(hk:f.length=k):Flat M k m (λ_=>f) (Builtin.zeroCells z.cells m).toList:=by
 have e:z.cells.size=k:=by have:=dA List.length n;grind
 have g:dW [] ⟨[],M,default,λ_=>False⟩ z.cells.toList (f.map A.c):=kL n;refine⟨by simp[Builtin.zeroCells,e],λ_ _=>hk,λi hi j c t=>?_⟩;have q:j<k:=by grind
 obtain⟨v,v1,p⟩:=g.get (j:=j) (a:=A.c c) (by grind);refine⟨v,?_,p⟩;have l:i*k+j<m*k:=by
  have:i*k+k<=m*k:=by rw[<-lk];exact eC k hi
  omega
 have b:(i*k+j) % k=j:=by grind[Nat.add_mul_mod_self_right,Nat.mod_eq_of_lt]
 have r:j<z.cells.size:=by omega
 have s:z.cells[j]=v:=by grind
 have h:z.cells[j]! = v:=by grind
 simp[Builtin.zeroCells,e,l,b,h]
def bG.Rc(hT:cT P T){x:ak}{t:aj}(h:o.op=.call {callee:=.builtin .clear,args:=#[x],argTypes:=#[t]}){i c:TI}{E:aj}(hi:bD T t=aa i)(hd:i.desc=.slice E)(hE:bD T E=aa c){l n q m:Nat}{K:aj}{es:Nat->List C}(hx:d x=.e (.one (.bp l (.sl n c.size q m))))(hl:σ[l]?=aa (.buf K c.size n es))(H:q+m<=n):
  bG P o d σ .any (σ.set l (.buf K c.size n (tg q (q+m) c.zero es))):=by
 intro s ρ hh hr;have h1:=hr x;rw[hx]at h1;change gu σ s (ρ x) (.bp l _)at h1;obtain⟨lv,⟨a,a0,cap,c0,hv,WZ,TE,Xq,U,V⟩,_,N⟩:=h1;obtain⟨L,Q,r⟩:=(N _ _ _ _ hl).2 rfl;rw[U]at r;have f:=(hT t i hi).TM;rw[hd]at f;rw[zI h,hv];by_cases hm:m=0
 .subst hm;have hz:tg q (q+0) c.zero es=es:=by funext j;simp only[tg];grind
  have hs:σ.set l (.buf K c.size n es)=σ:=by apply iO;grind
  rw[hz,hs];refine⟨.value (.tuple #[]),s,?_,aw,hh,.refl _ _,?_⟩
  .cases a<;>simp[Builtin.clear_,run_underlying f]
  .intro O p;cases a<;>simp[Builtin.clear_,run_underlying f,aK]at p
 .obtain⟨b,rfl,rfl⟩:=V (by omega);rcases hh.box l _ L hl Q with⟨_,rfl⟩|⟨b',c1,vs,I,rfl,g,W,X,R,hF,hM⟩
  .cases r
  .cases r;obtain⟨inf,z,z1,z2,z3,Y,z5,z6,z7⟩:=(hT E c hE).info;have y:=Jg (M:=s.M) (m:=m) z5 z7;have Z:(Builtin.zeroCells z.cells m).toList.length=m*c.size:=y.len;have PN:=hF.len;have hb:q*c.size+m*c.size<=n*c.size:=by rw[<-ir];exact eC _ H
   have q2:=hF.T8 y H;have he:(λi=>if q<=i/\i<q+m then(λ_=>c.zero) (i-q)else es i)=tg q (q+m) c.zero es:=rfl;rw[he]at q2;obtain⟨t1,t2⟩:=hh.dH hl Q W X R g q2 (by grind) hM;have k:∀v∈(Builtin.zeroCells z.cells m).toList,v.oneCell'=ab:=y.cell;have A:=run_storeCells_at P b (q*c.size) K (Builtin.zeroCells z.cells m).toList 0 (vs++I).toArray s.w g (by grind) k;have F:((vs++I).toArray.toList.take (q*c.size+0)++(Builtin.zeroCells z.cells m).toList++(vs++I).toArray.toList.drop (q*c.size+0+(Builtin.zeroCells z.cells m).toList.length))=vs.take (q*c.size)++(Builtin.zeroCells z.cells m).toList++vs.drop (q*c.size+(Builtin.zeroCells z.cells m).toList.length)++I:=by grind
   rw[F]at A;have G:∀u,(zeroValue E).run P u=.ok z u:=λu=>by simp[zeroValue,typeInfo,z1,Y]
   have S:∀u es,(zeroValue E).events P u es=es:=λu es=>by simp[zeroValue,typeInfo,z1,Y,aK]
   obtain⟨J,rfl⟩:∃J,m=J+1:=⟨m-1,by omega⟩
   refine⟨.value (.tuple #[]),_,?_,aw,t1,t2,?_⟩
   .simp[Builtin.clear_,run_underlying f,G,A]
   .intro O p;have B:O∈(storeCells ⟨b,q*c.size,af⟩ (Builtin.zeroCells z.cells (J+1)).toList).events P s.w #[]:=by simp only[Builtin.clear_,aK,ij,lb]at p;simpa[run_underlying f,G,S,A]using p
    rcases dE (Builtin.zeroCells z.cells (J+1)).toList 0 (vs++I).toArray s.w #[] g (by grind) k O B with I7|⟨j,_,_,rfl⟩
    .grind
    .exact jC (bJ Q) (by simp) (hM _)
end
section
variable {P:aq}{X:Cx P}{N:Nat}{Qf:Post}{K:List It}{φ:Fr}{σ:List aP}{all rest:List ar}{o:ar}
theorem AK.J1{φ':Fr}{σ':List aP}(h:∀s a,cq N σ s φ a->aE σ s->∃s':St,s'.w=s.w/\cq N σ' s' φ' a/\aE σ' s'/\Step σ s σ' s')(k:AK X N Qf (.ops all rest::K) .normal φ' σ'):AK X N Qf (.ops all rest::K) .normal φ σ:=by intro s a g hh b kk cs S idx hb jk hQ;obtain⟨s',j,f,c,st⟩:=h s a g hh;have d:=st.na hh;refine .ghost (.of hh c j d) ?_;exact k s' a f c b kk cs S idx hb jk λe σ2 s2 a2 q i h2 nV=>hQ e σ2 s2 a2 q i h2 (d.trans nV)
def AK.F6(t:Nat)(E k:Nat)(es':Nat->List C){k':Nat}{d:Nat->List C}(h:look φ t=.e (.one (.c (.sl ab k' 0 d))))(kk:AK X N Qf (.ops all rest::K) .normal ((t,.e (.one (.bp σ.length (.sl 0 k 0 0))))::φ) (σ++[.buf E k 0 es'])):AK X N Qf (.ops all rest::K) .normal φ σ:=by
 refine AK.J1 (λs a b hh=>?_) kk;have g:=b.slot t;rw[h]at g;obtain⟨j,f⟩:=hh.hO (B:=.buf E k 0 es') (L:=⟨.slice af 0 0,[]⟩) (.refl _ _) rfl hh (.inl ⟨rfl,rfl⟩) (by simp);refine⟨{s with β:=s.β++[⟨.slice af 0 0,[]⟩]},rfl,⟨b.size,b.defers.imp λ_ h1=>h1.mono f.ext,λu=>?_⟩,j,f⟩;simp only[look];cases i:aA t u with
 |false=>exact(b.slot u).mono f.ext hh.len
 |true =>
  have e:=bR i;subst e;exact va (E:=E) (es:=es') (eY g) (by simp) (by simp[<-hh.len])
def AK.F7{T:List (Nat×TI)}(hT:cT P T){t ty:aj}{x:ak}{j g:Nat}(h:o.op=.binOp .eql t x (.const (.slice af j g)) ty){i:TI}{E:aj}(hi:bD T t=aa i)(F:i.desc=.slice E){tt:Bool}{k n:Nat}{es:Nat->List C}(A:bP φ x=.e (.one (.c (.sl tt k n es))))(B:o.guard=af)(H:fW N o.dst=ab)(kk:∀b:Bool,(b=ab->n=0)->AK X N Qf (.ops all rest::K) .normal (kl o.dst (.e (.one (.c (.bool b)))) φ) σ):AK X N Qf (.ops all (o::rest)::K) .normal φ σ:=by
 refine AK.hand (ι:={b:Bool // b=ab->n=0}) (λb=>.e (.one (.c (.bool b.1)))) (λ_=>σ) B H (λs a v hh=>?_) λb=>kk b.1 b.2;have m:=c7 v x;rw[A]at m;obtain⟨ad,cap,vs,m,_,_,_,_,G⟩:=(eY m).flat;have d:=(hT t i hi).TM;rw[F]at d;have r:=eY (by have:=c7 v x;rw[A]at this;exact this);have p:ad.isNone=ab->n=0:=by
  intro I;rw[m]at r;cases r with
  |sl b off f z M L hk ha G u =>
   grind
 refine⟨⟨ad.isNone,p⟩,.value (.bool ad.isNone),s,.bool ad.isNone,?_,.inl rfl,Rd.bool,hh,.refl _ _,?_⟩
 .have u:(binOp .eql t (.slice ad n cap) (.slice af j g)).run P s.w=.ok (.bool ad.isNone) s.w:=Go.Lib.run_eql_slice_nil s.w t E ad n cap j g d;have l:∀y,eqGuard .eql t x y (.slice ad n cap) (.slice af j g)=pure ():=λy=>by simp[eqGuard]
  have e1:a.eval (.const (.slice af j g))=.slice af j g:=rfl;simp only[av,h,m,e1,l];simp[u]
 .have D:∀es,(Op.equal t (.slice ad n cap) (.slice af j g)).events P s.w es=es:=λes=>by show(aX (9999+1) t _ _).events P s.w es=es;unfold aX;cases ad<;>simp[underlying,d]
  have u:(Op.equal t (.slice ad n cap) (.slice af j g)).run P s.w=.ok ad.isNone s.w:=by show(aX (9999+1) t _ _).run P s.w=_;grind[Go.Lib.run_equalIn_slice_nil]
  have l:∀y,eqGuard .eql t x y (.slice ad n cap) (.slice af j g)=pure ():=λy=>by simp[eqGuard]
  have e1:a.eval (.const (.slice af j g))=.slice af j g:=rfl;intro J q;exfalso;simp only[av,h,m,e1,l,binOp]at q;simp[u,D,aK]at q
end
end
section
open Go.Proofs
def ey{P:aq}{t:aj}{i:TypeInfo}(h:P.types[t]?=aa i):P.info? t=aa i:=by unfold Tables.info?;rw[bl (ig.1 h).1];exact h
def cT.nil{P:aq}:cT P []:=λ_ _ h=>by cases h
def cT.cons{P:aq}{t:aj}{i:TI}{T:List (Nat×TI)}(h:bE P t i)(r:cT P T):cT P ((t,i)::T):=by
 intro b i2 h2;simp only[bD]at h2;cases a:aA t b with
 |true=>rw[a]at h2;cases h2;rw[<-bR a];exact h
 |false=>rw[a]at h2;exact r b i2 h2
def bE.g9{P:aq}{t:aj}{i:TI}{n:TypeInfo}(h:P.underlying t=aa i.desc)(k:P.types[t]?=aa n)(a:(Ec i.desc==i.agg&&n.size==i.size&&n.bytes==i.bytes&&(!i.agg||n.zero.any λz=>match z with|.agg _=>ab|_=>ae)&&i.zero.length==i.size&&i.eq.isEmpty)=ab:=by rfl)(b:n.zero.map (λz=>z.cells.toList.map rY)=aa (i.zero.map aa):=by rfl):bE P t i:=by
 simp only[bS,hI,List.isEmpty_iff]at a;obtain⟨⟨⟨⟨⟨a1,a2⟩,a3⟩,a4⟩,a5⟩,a6⟩:=a;cases c:n.zero with
 |none=>rw[c]at b;cases b
 |some z =>
  rw[c]at b a4;refine⟨h,a1,⟨n,z,ey k,a2,a3,c,rM b,?_,a5⟩,λh=>absurd a6 h⟩;cases d:i.agg with
  |false=>exact⟨#[],rfl⟩
  |true =>
   rw[d]at a4;cases z<;>first|exact⟨_,rfl⟩|cases a4
namespace R1
abbrev f0(a:String)(b c:Nat)(d:String)(e:Nat):Field:={name:=a,type:=b,offset:=c,embedded:=ae,tag:= "",pkgPath:=d,byteOffset:=e}
def i2:TI:=⟨1,8,ae,TypeDesc.int IntKind.i64,[.int .i64 0],[]⟩
def i3:TI:=⟨1,8,ae,TypeDesc.int IntKind.i64,[.int .i64 0],[]⟩
def i4:TI:=⟨1,1,ae,TypeDesc.bool,[.bool ae],[]⟩
def i5:TI:=⟨1,1,ae,TypeDesc.int IntKind.u8,[.int .u8 0],[]⟩
def i6:TI:=⟨1,1,ae,TypeDesc.int IntKind.u8,[.int .u8 0],[]⟩
def i8:TI:=⟨4,24,ab,bq #[(f0 "x" 2 0 "runtime" 0),(f0 "y" 3 1 "runtime" 8),(f0 "signed" 4 2 "runtime" 16),(f0 "code" 6 3 "runtime" 17)],[.int .i64 0,.int .i64 0,.bool ae,.int .u8 0],[]⟩
def i9:TI:=⟨1,16,ae,TypeDesc.string,[.str []],[]⟩
def i12:TI:=⟨1,8,ae,TypeDesc.int IntKind.u64,[.int .u64 0],[]⟩
def i16:TI:=⟨1,8,ae,TypeDesc.pointer 326,[.fx],[]⟩
def i17:TI:=⟨1,8,ae,TypeDesc.pointer 333,[.fx],[]⟩
def i20:TI:=⟨1,16,ae,TypeDesc.interface #[],[.iw],[]⟩
def i21:TI:=⟨1,4,ae,TypeDesc.int IntKind.i32,[.int .i32 0],[]⟩
def i22:TI:=⟨1,24,ae,TypeDesc.slice 5,[.sl ab 0 0 (λ_=>[])],[]⟩
def i23:TI:=⟨1,24,ae,TypeDesc.slice 67,[.sl ab 0 0 (λ_=>[])],[]⟩
def i24:TI:=⟨1,24,ae,TypeDesc.slice 71,[.sl ab 0 0 (λ_=>[])],[]⟩
def i25:TI:=⟨1,24,ae,TypeDesc.slice 48,[.sl ab 0 0 (λ_=>[])],[]⟩
def i27:TI:=⟨3,72,ab,bq #[(f0 "Packs" 23 0 "" 0),(f0 "Snaps" 24 1 "" 24),(f0 "Log" 25 2 "" 48)],[.sl ab 0 0 (λ_=>[]),.sl ab 0 0 (λ_=>[]),.sl ab 0 0 (λ_=>[])],[]⟩
def i28:TI:=⟨1,24,ae,TypeDesc.slice 82,[.sl ab 0 0 (λ_=>[])],[]⟩
def i36:TI:=⟨1,24,ae,TypeDesc.slice 9,[.sl ab 0 0 (λ_=>[])],[]⟩
def i38:TI:=⟨1,24,ae,TypeDesc.slice 91,[.sl ab 0 0 (λ_=>[])],[]⟩
def i48:TI:=⟨2,16,ab,bq #[(f0 "By" 3 0 "" 0),(f0 "Snap" 3 1 "" 8)],[.int .i64 0,.int .i64 0],[TypeDesc.int IntKind.i64,TypeDesc.int IntKind.i64]⟩
def g48:bE ag 48 i48:=⟨Tryz.underlying48,rfl,⟨_,_,ey Tryz.type48,rfl,rfl,rfl,rfl,⟨_,rfl⟩,rfl⟩,λ_=>kW (fs:=[(f0 "By" 3 0 "" 0),(f0 "Snap" 3 1 "" 8)]) Tryz.underlying48 (by decide +kernel) Tryz.eqGuardType48 ⟨by decide,rfl,Tryz.underlying3,aw,by decide,rfl,Tryz.underlying3,aw,aw⟩⟩
def i50:TI:=⟨1,8,ae,TypeDesc.pointer 104,[.fx],[]⟩
def i57:TI:=⟨1,16,ae,TypeDesc.interface #[("Error",264)],[.iw],[]⟩
def i60:TI:=⟨1,8,ae,TypeDesc.pointer 118,[.fx],[]⟩
def i62:TI:=⟨1,8,ae,TypeDesc.pointer 60,[.fx],[]⟩
def i65:TI:=⟨1,24,ae,TypeDesc.slice 76,[.sl ab 0 0 (λ_=>[])],[]⟩
def i67:TI:=⟨2,32,ab,bq #[(f0 "No" 3 0 "" 0),(f0 "Item" 65 1 "" 8)],[.int .i64 0,.sl ab 0 0 (λ_=>[])],[]⟩
def i69:TI:=⟨1,24,ae,TypeDesc.slice 140,[.sl ab 0 0 (λ_=>[])],[]⟩
def i71:TI:=⟨2,32,ab,bq #[(f0 "No" 3 0 "" 0),(f0 "All" 69 1 "" 8)],[.int .i64 0,.sl ab 0 0 (λ_=>[])],[]⟩
def i72:TI:=⟨1,24,ae,TypeDesc.slice 3,[.sl ab 0 0 (λ_=>[])],[]⟩
def i76:TI:=⟨2,24,ab,bq #[(f0 "Name" 3 0 "" 0),(f0 "Body" 9 1 "" 8)],[.int .i64 0,.str []],[TypeDesc.int IntKind.i64,TypeDesc.string]⟩
def g76:bE ag 76 i76:=⟨Tryz.underlying76,rfl,⟨_,_,ey Tryz.type76,rfl,rfl,rfl,rfl,⟨_,rfl⟩,rfl⟩,λ_=>kW (fs:=[(f0 "Name" 3 0 "" 0),(f0 "Body" 9 1 "" 8)]) Tryz.underlying76 (by decide +kernel) Tryz.eqGuardType76 ⟨by decide,rfl,Tryz.underlying3,aw,by decide,rfl,Tryz.underlying9,aw,aw⟩⟩
def i82:TI:=⟨2,32,ab,bq #[(f0 "Path" 9 0 "" 0),(f0 "Text" 9 1 "" 16)],[.str [],.str []],[TypeDesc.string,TypeDesc.string]⟩
def g82:bE ag 82 i82:=⟨Tryz.underlying82,rfl,⟨_,_,ey Tryz.type82,rfl,rfl,rfl,rfl,⟨_,rfl⟩,rfl⟩,λ_=>kW (fs:=[(f0 "Path" 9 0 "" 0),(f0 "Text" 9 1 "" 16)]) Tryz.underlying82 (by decide +kernel) Tryz.eqGuardType82 ⟨by decide,rfl,Tryz.underlying9,aw,by decide,rfl,Tryz.underlying9,aw,aw⟩⟩
def i85:TI:=⟨1,8,ae,TypeDesc.pointer 151,[.fx],[]⟩
def i91:TI:=⟨2,16,ab,bq #[(f0 "Name" 3 0 "" 0),(f0 "Pack" 3 1 "" 8)],[.int .i64 0,.int .i64 0],[TypeDesc.int IntKind.i64,TypeDesc.int IntKind.i64]⟩
def g91:bE ag 91 i91:=⟨Tryz.underlying91,rfl,⟨_,_,ey Tryz.type91,rfl,rfl,rfl,rfl,⟨_,rfl⟩,rfl⟩,λ_=>kW (fs:=[(f0 "Name" 3 0 "" 0),(f0 "Pack" 3 1 "" 8)]) Tryz.underlying91 (by decide +kernel) Tryz.eqGuardType91 ⟨by decide,rfl,Tryz.underlying3,aw,by decide,rfl,Tryz.underlying3,aw,aw⟩⟩
def i94:TI:=⟨1,24,ae,TypeDesc.slice 67,[.sl ab 0 0 (λ_=>[])],[]⟩
def i96:TI:=⟨3,72,ab,bq #[{name:= "packed",type:=94,offset:=0,embedded:=ab,tag:= "",pkgPath:= "loop.example/depositary/impl",byteOffset:=0},(f0 "snaps" 24 1 "loop.example/depositary/impl" 24),(f0 "log" 25 2 "loop.example/depositary/impl" 48)],[.sl ab 0 0 (λ_=>[]),.sl ab 0 0 (λ_=>[]),.sl ab 0 0 (λ_=>[])],[]⟩
def i104:TI:=⟨2,32,ab,bq #[(f0 "b" 22 0 "loop.example/depositary/spec" 0),(f0 "p" 3 1 "loop.example/depositary/spec" 24)],[.sl ab 0 0 (λ_=>[]),.int .i64 0],[]⟩
def i118:TI:=⟨1,16,ab,bq #[(f0 "what" 9 0 "loop.example/depositary/impl" 0)],[.str []],[TypeDesc.string]⟩
def Ze:bE ag 118 i118:=⟨Tryz.underlying118,rfl,⟨_,_,ey Tryz.type118,rfl,rfl,rfl,rfl,⟨_,rfl⟩,rfl⟩,λ_=>kW (fs:=[(f0 "what" 9 0 "loop.example/depositary/impl" 0)]) Tryz.underlying118 (by decide +kernel) Tryz.eqGuardType118 ⟨by decide,rfl,Tryz.underlying9,aw,aw⟩⟩
def i123:TI:=⟨1,8,ae,TypeDesc.unsafePointer,[.fx],[]⟩
def i124:TI:=⟨1,8,ae,TypeDesc.int IntKind.u64,[.int .u64 0],[]⟩
def i126:TI:=⟨3,24,ab,bq #[(f0 "typ_" 17 0 "internal/reflectlite" 0),(f0 "ptr" 123 1 "internal/reflectlite" 8),{name:= "flag",type:=124,offset:=2,embedded:=ab,tag:= "",pkgPath:= "internal/reflectlite",byteOffset:=16}],[.fx,.fx,.int .u64 0],[]⟩
def i129:TI:=⟨1,16,ae,TypeDesc.interface #[("AssignableTo",134),("Comparable",133),("Elem",130),("Implements",134),("Kind",132),("Name",264),("PkgPath",264),("Size",334),("String",264),("internal/reflectlite.common",327),("internal/reflectlite.uncommon",335)],[.iw],[]⟩
def i131:TI:=⟨1,1,ae,TypeDesc.int IntKind.u8,[.int .u8 0],[]⟩
def i140:TI:=⟨2,40,ab,bq #[(f0 "Path" 9 0 "" 0),(f0 "Names" 72 1 "" 16)],[.str [],.sl ab 0 0 (λ_=>[])],[]⟩
def i145:TI:=⟨1,24,ae,TypeDesc.slice 38,[.sl ab 0 0 (λ_=>[])],[]⟩
def i151:TI:=⟨4,32,ab,bq #[(f0 "spot" 91 0 "loop.example/depositary/impl" 0),(f0 "left" 85 2 "loop.example/depositary/impl" 16),(f0 "right" 85 3 "loop.example/depositary/impl" 24)],[.int .i64 0,.int .i64 0,.fx,.fx],[]⟩
def i152:TI:=⟨1,8,ae,TypeDesc.int IntKind.i64,[.int .i64 0],[]⟩
def i162:TI:=⟨1,8,ae,TypeDesc.pointer 165,[.fx],[]⟩
def i165:TI:=⟨3,24,ab,bq #[(f0 "head" 48 0 "loop.example/depositary/impl" 0),(f0 "next" 162 2 "loop.example/depositary/impl" 16)],[.int .i64 0,.int .i64 0,.fx],[]⟩
def i181:TI:=⟨1,8,ae,TypeDesc.pointer 182,[.fx],[]⟩
def i182:TI:=⟨1,24,ae,TypeDesc.slice 76,[.sl ab 0 0 (λ_=>[])],[]⟩
def i191:TI:=⟨1,16,ae,TypeDesc.interface #[("As",193)],[.iw],[]⟩
def i194:TI:=⟨1,16,ae,TypeDesc.interface #[("Unwrap",195)],[.iw],[]⟩
def i196:TI:=⟨1,16,ae,TypeDesc.interface #[("Unwrap",198)],[.iw],[]⟩
def i197:TI:=⟨1,24,ae,TypeDesc.slice 57,[.sl ab 0 0 (λ_=>[])],[]⟩
def i205:TI:=⟨1,24,ae,TypeDesc.slice 218,[.sl ab 0 0 (λ_=>[])],[]⟩
def i207:TI:=⟨0,0,ab,bq #[],[],[]⟩
def i208:TI:=⟨0,0,ab,bq #[],[],[]⟩
def i209:TI:=⟨0,0,ab,bq #[],[],[]⟩
def i210:TI:=⟨1,8,ae,TypeDesc.int IntKind.u64,[.int .u64 0],[]⟩
def i212:TI:=⟨1,8,ab,bq #[(f0 "_" 208 0 "sync/atomic" 0),(f0 "_" 209 0 "sync/atomic" 0),(f0 "v" 210 0 "sync/atomic" 0)],[.int .u64 0],[]⟩
def i213:TI:=⟨1,4,ae,TypeDesc.int IntKind.u32,[.int .u32 0],[]⟩
def i215:TI:=⟨2,16,ab,bq #[(f0 "noCopy" 207 0 "sync" 0),(f0 "state" 212 0 "sync" 0),(f0 "sema" 213 1 "sync" 8)],[.int .u64 0,.int .u32 0],[]⟩
def i218:TI:=⟨2,24,ab,bq #[(f0 "piece" 9 0 "loop.example/depositary/impl" 0),(f0 "ok" 4 1 "loop.example/depositary/impl" 16)],[.str [],.bool ae],[TypeDesc.string,TypeDesc.bool]⟩
def Zf:bE ag 218 i218:=⟨Tryz.underlying218,rfl,⟨_,_,ey Tryz.type218,rfl,rfl,rfl,rfl,⟨_,rfl⟩,rfl⟩,λ_=>kW (fs:=[(f0 "piece" 9 0 "loop.example/depositary/impl" 0),(f0 "ok" 4 1 "loop.example/depositary/impl" 16)]) Tryz.underlying218 (by decide +kernel) Tryz.eqGuardType218 ⟨by decide,rfl,Tryz.underlying9,aw,by decide,rfl,Tryz.underlying4,aw,aw⟩⟩
def i230:TI:=⟨1,8,ae,TypeDesc.int IntKind.u64,[.int .u64 0],[]⟩
def i234:TI:=⟨1,16,ae,TypeDesc.interface #[("Len",98),("Less",202),("Pop",239),("Push",235),("Swap",237)],[.iw],[]⟩
def i242:TI:=⟨1,16,ae,TypeDesc.interface #[("Is",244)],[.iw],[]⟩
def i259:TI:=⟨1,8,ae,TypeDesc.pointer 261,[.fx],[]⟩
def i261:TI:=⟨2,32,ab,bq #[(f0 "addr" 259 0 "strings" 0),(f0 "buf" 22 1 "strings" 8)],[.fx,.sl ab 0 0 (λ_=>[])],[]⟩
def i268:TI:=⟨1,8,ae,TypeDesc.int IntKind.i64,[.int .i64 0],[]⟩
def i288:TI:=⟨1,8,ae,TypeDesc.pointer 5,[.fx],[]⟩
def i290:TI:=⟨1,8,ae,TypeDesc.int IntKind.u64,[.int .u64 0],[]⟩
def i293:TI:=⟨1,8,ae,TypeDesc.pointer 3,[.fx],[]⟩
def i308:TI:=⟨1,8,ae,TypeDesc.pointer 304,[.fx],[]⟩
def i319:TI:=⟨2,2,ab,bq #[(f0 "lo" 5 0 "unicode/utf8" 0),(f0 "hi" 5 1 "unicode/utf8" 1)],[.int .u8 0,.int .u8 0],[TypeDesc.int IntKind.u8,TypeDesc.int IntKind.u8]⟩
def Zg:bE ag 319 i319:=⟨Tryz.underlying319,rfl,⟨_,_,ey Tryz.type319,rfl,rfl,rfl,rfl,⟨_,rfl⟩,rfl⟩,λ_=>kW (fs:=[(f0 "lo" 5 0 "unicode/utf8" 0),(f0 "hi" 5 1 "unicode/utf8" 1)]) Tryz.underlying319 (by decide +kernel) Tryz.eqGuardType319 ⟨by decide,rfl,Tryz.underlying5,aw,by decide,rfl,Tryz.underlying5,aw,aw⟩⟩
def i320:TI:=⟨32,32,ab,TypeDesc.array 16 319,[.int .u8 0,.int .u8 0,.int .u8 0,.int .u8 0,.int .u8 0,.int .u8 0,.int .u8 0,.int .u8 0,.int .u8 0,.int .u8 0,.int .u8 0,.int .u8 0,.int .u8 0,.int .u8 0,.int .u8 0,.int .u8 0,.int .u8 0,.int .u8 0,.int .u8 0,.int .u8 0,.int .u8 0,.int .u8 0,.int .u8 0,.int .u8 0,.int .u8 0,.int .u8 0,.int .u8 0,.int .u8 0,.int .u8 0,.int .u8 0,.int .u8 0,.int .u8 0],[]⟩
def i321:TI:=⟨1,8,ae,TypeDesc.pointer 339,[.fx],[]⟩
def i324:TI:=⟨0,0,ab,TypeDesc.array 0 16,[],[]⟩
def i326:TI:=⟨0,0,ab,bq #[(f0 "_" 324 0 "runtime" 0)],[],[]⟩
def i328:TI:=⟨1,1,ae,TypeDesc.int IntKind.u8,[.int .u8 0],[]⟩
def i330:TI:=⟨1,4,ae,TypeDesc.int IntKind.i32,[.int .i32 0],[]⟩
def i331:TI:=⟨1,4,ae,TypeDesc.int IntKind.i32,[.int .i32 0],[]⟩
def i333:TI:=⟨11,48,ab,bq #[(f0 "Size_" 12 0 "" 0),(f0 "PtrBytes" 12 1 "" 8),(f0 "Hash" 213 2 "" 16),(f0 "TFlag" 328 3 "" 20),(f0 "Align_" 5 4 "" 21),(f0 "FieldAlign_" 5 5 "" 22),(f0 "Kind_" 131 6 "" 23),(f0 "Equal" 329 7 "" 24),(f0 "GCData" 288 8 "" 32),(f0 "Str" 330 9 "" 40),(f0 "PtrToThis" 331 10 "" 44)],[.int .u64 0,.int .u64 0,.int .u32 0,.int .u8 0,.int .u8 0,.int .u8 0,.int .u8 0,.xT,.fx,.int .i32 0,.int .i32 0],[]⟩
def i339:TI:=⟨1,16,ab,bq #[(f0 "s" 9 0 "errors" 0)],[.str []],[TypeDesc.string]⟩
def Zh:bE ag 339 i339:=⟨Tryz.underlying339,rfl,⟨_,_,ey Tryz.type339,rfl,rfl,rfl,rfl,⟨_,rfl⟩,rfl⟩,λ_=>kW (fs:=[(f0 "s" 9 0 "errors" 0)]) Tryz.underlying339 (by decide +kernel) Tryz.eqGuardType339 ⟨by decide,rfl,Tryz.underlying9,aw,aw⟩⟩
def tt:List (Nat×TI):=[(2,i2),(3,i3),(4,i4),(5,i5),(6,i6),(8,i8),(9,i9),(12,i12),(16,i16),(17,i17),(20,i20),(21,i21),(22,i22),(23,i23),(24,i24),(25,i25),(27,i27),(28,i28),(36,i36),(38,i38),(48,i48),(50,i50),(57,i57),(60,i60),(62,i62),(65,i65),(67,i67),(69,i69),(71,i71),(72,i72),(76,i76),(82,i82),(85,i85),(91,i91),(94,i94),(96,i96),(104,i104),(118,i118),(123,i123),(124,i124),(126,i126),(129,i129),(131,i131),(140,i140),(145,i145),(151,i151),(152,i152),(162,i162),(165,i165),(181,i181),(182,i182),(191,i191),(194,i194),(196,i196),(197,i197),(205,i205),(207,i207),(208,i208),(209,i209),(210,i210),(212,i212),(213,i213),(215,i215),(218,i218),(230,i230),(234,i234),(242,i242),(259,i259),(261,i261),(268,i268),(288,i288),(290,i290),(293,i293),(308,i308),(319,i319),(320,i320),(321,i321),(324,i324),(326,i326),(328,i328),(330,i330),(331,i331),(333,i333),(339,i339)]
def tok:cT ag tt:=(cT.cons (bE.g9 Tryz.underlying2 Tryz.type2) (cT.cons (bE.g9 Tryz.underlying3 Tryz.type3) (cT.cons (bE.g9 Tryz.underlying4 Tryz.type4) (cT.cons (bE.g9 Tryz.underlying5 Tryz.type5) (cT.cons (bE.g9 Tryz.underlying6 Tryz.type6) (cT.cons (bE.g9 Tryz.underlying8 Tryz.type8) (cT.cons (bE.g9 Tryz.underlying9 Tryz.type9) (cT.cons (bE.g9 Tryz.underlying12 Tryz.type12) (cT.cons (bE.g9 Tryz.underlying16 Tryz.type16) (cT.cons (bE.g9 Tryz.underlying17 Tryz.type17) (cT.cons (bE.g9 Tryz.underlying20 Tryz.type20) (cT.cons (bE.g9 Tryz.underlying21 Tryz.type21) (cT.cons (bE.g9 Tryz.underlying22 Tryz.type22) (cT.cons (bE.g9 Tryz.underlying23 Tryz.type23) (cT.cons (bE.g9 Tryz.underlying24 Tryz.type24) (cT.cons (bE.g9 Tryz.underlying25 Tryz.type25) (cT.cons (bE.g9 Tryz.underlying27 Tryz.type27) (cT.cons (bE.g9 Tryz.underlying28 Tryz.type28) (cT.cons (bE.g9 Tryz.underlying36 Tryz.type36) (cT.cons (bE.g9 Tryz.underlying38 Tryz.type38) (cT.cons g48 (cT.cons (bE.g9 Tryz.underlying50 Tryz.type50) (cT.cons (bE.g9 Tryz.underlying57 Tryz.type57) (cT.cons (bE.g9 Tryz.underlying60 Tryz.type60) (cT.cons (bE.g9 Tryz.underlying62 Tryz.type62) (cT.cons (bE.g9 Tryz.underlying65 Tryz.type65) (cT.cons (bE.g9 Tryz.underlying67 Tryz.type67) (cT.cons (bE.g9 Tryz.underlying69 Tryz.type69) (cT.cons (bE.g9 Tryz.underlying71 Tryz.type71) (cT.cons (bE.g9 Tryz.underlying72 Tryz.type72) (cT.cons g76 (cT.cons g82 (cT.cons (bE.g9 Tryz.underlying85 Tryz.type85) (cT.cons g91 (cT.cons (bE.g9 Tryz.underlying94 Tryz.type94) (cT.cons (bE.g9 Tryz.underlying96 Tryz.type96) (cT.cons (bE.g9 Tryz.underlying104 Tryz.type104) (cT.cons Ze (cT.cons (bE.g9 Tryz.underlying123 Tryz.type123) (cT.cons (bE.g9 Tryz.underlying124 Tryz.type124) (cT.cons (bE.g9 Tryz.underlying126 Tryz.type126) (cT.cons (bE.g9 Tryz.underlying129 Tryz.type129) (cT.cons (bE.g9 Tryz.underlying131 Tryz.type131) (cT.cons (bE.g9 Tryz.underlying140 Tryz.type140) (cT.cons (bE.g9 Tryz.underlying145 Tryz.type145) (cT.cons (bE.g9 Tryz.underlying151 Tryz.type151) (cT.cons (bE.g9 Tryz.underlying152 Tryz.type152) (cT.cons (bE.g9 Tryz.underlying162 Tryz.type162) (cT.cons (bE.g9 Tryz.underlying165 Tryz.type165) (cT.cons (bE.g9 Tryz.underlying181 Tryz.type181) (cT.cons (bE.g9 Tryz.underlying182 Tryz.type182) (cT.cons (bE.g9 Tryz.underlying191 Tryz.type191) (cT.cons (bE.g9 Tryz.underlying194 Tryz.type194) (cT.cons (bE.g9 Tryz.underlying196 Tryz.type196) (cT.cons (bE.g9 Tryz.underlying197 Tryz.type197) (cT.cons (bE.g9 Tryz.underlying205 Tryz.type205) (cT.cons (bE.g9 Tryz.underlying207 Tryz.type207) (cT.cons (bE.g9 Tryz.underlying208 Tryz.type208) (cT.cons (bE.g9 Tryz.underlying209 Tryz.type209) (cT.cons (bE.g9 Tryz.underlying210 Tryz.type210) (cT.cons (bE.g9 Tryz.underlying212 Tryz.type212) (cT.cons (bE.g9 Tryz.underlying213 Tryz.type213) (cT.cons (bE.g9 Tryz.underlying215 Tryz.type215) (cT.cons Zf (cT.cons (bE.g9 Tryz.underlying230 Tryz.type230) (cT.cons (bE.g9 Tryz.underlying234 Tryz.type234) (cT.cons (bE.g9 Tryz.underlying242 Tryz.type242) (cT.cons (bE.g9 Tryz.underlying259 Tryz.type259) (cT.cons (bE.g9 Tryz.underlying261 Tryz.type261) (cT.cons (bE.g9 Tryz.underlying268 Tryz.type268) (cT.cons (bE.g9 Tryz.underlying288 Tryz.type288) (cT.cons (bE.g9 Tryz.underlying290 Tryz.type290) (cT.cons (bE.g9 Tryz.underlying293 Tryz.type293) (cT.cons (bE.g9 Tryz.underlying308 Tryz.type308) (cT.cons Zg (cT.cons (bE.g9 Tryz.underlying320 Tryz.type320) (cT.cons (bE.g9 Tryz.underlying321 Tryz.type321) (cT.cons (bE.g9 Tryz.underlying324 Tryz.type324) (cT.cons (bE.g9 Tryz.underlying326 Tryz.type326) (cT.cons (bE.g9 Tryz.underlying328 Tryz.type328) (cT.cons (bE.g9 Tryz.underlying330 Tryz.type330) (cT.cons (bE.g9 Tryz.underlying331 Tryz.type331) (cT.cons (bE.g9 Tryz.underlying333 Tryz.type333) (cT.cons Zh cT.nil))))))))))))))))))))))))))))))))))))))))))))))))))))))))))))))))))))))))))))))))))))
end R1
end
abbrev Bs:=List UInt8
abbrev dS(s:Bs):D:=.e (.one (.c (.str s)))
abbrev dI(n:Int):D:=.e (.one (.c (.int .i64 n)))
abbrev dU(n:Int):D:=.e (.one (.c (.int .u8 n)))
abbrev dB(b:Bool):D:=.e (.one (.c (.bool b)))
def kv{s:Bs}{i:Nat}:iS s i=s.getD i 0:=rfl
namespace R1
open Go.Proofs
variable {X:Cx ag}
def iZ:Tryz.prog.follows Departure.mixedOrders=ab:=rfl
def Zi{X:Cx ag}{CT:List (Nat×dv)}(c:bF X CT)(ds:List (Nat×Bool)){N:Nat}{Qf:Post}(n:Nat){K b:List It}{φ φ':Fr}{σ σ':List aP}{a:List Prop}(h:AM.kX tt CT ds N n K φ σ []=aa (b,φ',σ',a))(d:ay a)(k:AK X N Qf b .normal φ' σ'):AK X N Qf K .normal φ σ:=AK.kX iZ tok c ds n h d k
def qG{X:Cx ag}(ds:List (Nat×Bool)){N:Nat}{Qf:Post}(n:Nat){K b:List It}{φ φ':Fr}{σ σ':List aP}{a:List Prop}(h:AM.kX tt [] ds N n K φ σ []=aa (b,φ',σ',a))(c:ay a)(k:AK X N Qf b .normal φ' σ'):AK X N Qf K .normal φ σ:=AK.kX iZ tok bF.nil ds n h c k
def bu{X:Cx ag}{N:Nat}{Qf:Post}{K b:List It}{φ φ':Fr}{σ σ':List aP}{a:List Prop}(h:AM.kX tt [] [] N 100 K φ σ []=aa (b,φ',σ',a))(c:ay a)(k:AK X N Qf b .normal φ' σ'):AK X N Qf K .normal φ σ:=AK.kX iZ tok bF.nil [] 100 h c k
def di{X:Cx ag}{N:Nat}{Qf:Post}{K b:List It}{φ φ':Fr}{σ σ':List aP}{a:List Prop}(h:AM.kX tt [] [] N 200 K φ σ []=aa (b,φ',σ',a))(c:ay a)(k:AK X N Qf b .normal φ' σ'):AK X N Qf K .normal φ σ:=AK.kX iZ tok bF.nil [] 200 h c k
def aV{X:Cx ag}{CT:List (Nat×dv)}(c:bF X CT)(ds:List (Nat×Bool)){N:Nat}{Qf:Post}{K b:List It}{φ φ':Fr}{σ σ':List aP}{a:List Prop}(h:AM.kX tt CT ds N 100 K φ σ []=aa (b,φ',σ',a))(d:ay a)(k:AK X N Qf b .normal φ' σ'):AK X N Qf K .normal φ σ:=AK.kX iZ tok c ds 100 h d k
def bh{X:Cx ag}{CT:List (Nat×dv)}(c:bF X CT)(ds:List (Nat×Bool)){N:Nat}{Qf:Post}{K b:List It}{φ φ':Fr}{σ σ':List aP}{a:List Prop}(h:AM.kX tt CT ds N 200 K φ σ []=aa (b,φ',σ',a))(d:ay a)(k:AK X N Qf b .normal φ' σ'):AK X N Qf K .normal φ σ:=AK.kX iZ tok c ds 200 h d k
def aW{X:Cx ag}(ds:List (Nat×Bool)){N:Nat}{Qf:Post}{K b:List It}{φ φ':Fr}{σ σ':List aP}{a:List Prop}(h:AM.kX tt [] ds N 100 K φ σ []=aa (b,φ',σ',a))(c:ay a)(k:AK X N Qf b .normal φ' σ'):AK X N Qf K .normal φ σ:=AK.kX iZ tok bF.nil ds 100 h c k
def bL{X:Cx ag}(ds:List (Nat×Bool)){N:Nat}{Qf:Post}{K b:List It}{φ φ':Fr}{σ σ':List aP}{a:List Prop}(h:AM.kX tt [] ds N 200 K φ σ []=aa (b,φ',σ',a))(c:ay a)(k:AK X N Qf b .normal φ' σ'):AK X N Qf K .normal φ σ:=AK.kX iZ tok bF.nil ds 200 h c k
def cg{X:Cx ag}{CT:List (Nat×dv)}(c:bF X CT){N:Nat}{Qf:Post}{K b:List It}{φ φ':Fr}{σ σ':List aP}{a:List Prop}(h:AM.kX tt CT [] N 100 K φ σ []=aa (b,φ',σ',a))(d:ay a)(k:AK X N Qf b .normal φ' σ'):AK X N Qf K .normal φ σ:=AK.kX iZ tok c [] 100 h d k
def cm{X:Cx ag}{CT:List (Nat×dv)}(c:bF X CT){N:Nat}{Qf:Post}{K b:List It}{φ φ':Fr}{σ σ':List aP}{a:List Prop}(h:AM.kX tt CT [] N 200 K φ σ []=aa (b,φ',σ',a))(d:ay a)(k:AK X N Qf b .normal φ' σ'):AK X N Qf K .normal φ σ:=AK.kX iZ tok c [] 200 h d k
def mb(b:Int):Bool:=decide (97<=b)&&decide (b<=101)
theorem O2(b:Int):Ev X 88 [dU b] [] (dB (mb b)) []:=by
 refine Ev.bQ Tryz.func88 rfl λ_=>?_;by_cases h:97<=b
 .refine aW [(4,ab)] rfl ?_ (AK.bx rfl ?_)<;>simp[h,mb]
 .refine aW [(4,ae)] rfl ?_ (AK.bx rfl ?_)<;>simp[h,mb]
def eW(b:UInt8):Bool:=decide (97<=b.toNat)&&decide (b.toNat<=122)
def b8(s:Bs):Bool:=s.all eW
def sQ{s:Bs}(h:∀j,j<s.length->eW (s.getD j 0)=ab):b8 s=ab:=by simp only[b8,List.all_eq_true];grind[List.getElem_of_mem]
def kI{s:Bs}{j:Nat}(h:j<s.length)(b:eW (s.getD j 0)=ae):b8 s=ae:=by
 cases a:b8 s with
 |false=>rfl
 |true =>
  simp only[b8,List.all_eq_true]at a;grind
theorem E8(s:Bs):Ev X 89 [dS s] [] (dB (b8 s)) []:=by
 refine Ev.bQ Tryz.func89 rfl λe=>?_;have g:=e.str 0 rfl;refine bu rfl aw ?_;refine AK.wI (λi=>i<=s.length/\∀j,j<i->eW (s.getD j 0)=ab) (λi:Nat=>[(0,dS s),(3,dI i)]) (λ_=>[]) (λi=>s.length-i) 0 rfl (by simp) ⟨by omega,by omega⟩ rfl ?_;rintro i ⟨hi,c⟩;by_cases h:i<s.length
 .generalize a:s.getD i 0=b;by_cases k:b.toNat<97
  .refine aW [(7,ab),(13,ab)] rfl ?_ (AK.iC (cw.zero rfl ?_))
   .simp only[ay,kv,aZ,a];omega
   .rw[ay,kI h (by rw[a];simp only[eW,pP,bM];omega)]
  .by_cases f:b.toNat>122
   .refine aW [(7,ab),(13,ae),(18,ab)] rfl ?_ (AK.iC (cw.zero rfl ?_))
    .simp only[ay,kv,aZ,bM,a];omega
    .rw[ay,kI h (by rw[a];simp only[eW,pP,bM];omega)]
   .refine aW [(7,ab),(13,ae),(18,ae)] rfl ?_ (AK.again (i+1) rfl ?_ ?_ ?_ rfl)
    .simp only[ay,kv,aZ,bM,a,bA];omega
    .simp
    .refine⟨by omega,λj d=>?_⟩;rcases zj.1 d with d|rfl
     .grind
     .rw[a];simp only[eW,bS,aZ];omega
    .omega
 .refine aW [(7,ae)] rfl (by simp;omega) (AK.leave rfl rfl ?_);refine bu rfl aw (AK.bx rfl ?_);rw[ay,sQ (λj d=>c j (by omega))]
end R1
def Ev.args{P:aq}{X:Cx P}{f:aH}{args CR:List D}{σ σ':List aP}{res:D}(h:Ev X f CR σ res σ')(hl:∀s vs,ck σ s vs args->ck σ s vs CR):Ev X f args σ res σ' :=
 ⟨h.1,λs vs hr hh=>h.2 s vs (hl s vs hr) hh⟩
def kY(a:Nat):D->Option (Nat×(Nat->List C))
 |.e (.one (.c (.sl _ k n es)))=>match aA k a with
  |true=>aa (n,es)
  |false=>match aA n 0 with
   |true=>aa (0,λ_=>[])
   |false=>af
 |_=>af
def LJ{g:Nat}{d:D}{n:Nat}{es:Nat->List C}(h:kY g d=aa (n,es)){σ:List aP}{s:St}{v:ah}(r:dn σ s v d):Rd s.M v (.sl ae g n es):=by
 unfold kY at h;split at h
 .rename_i t k m es';split at h
  .rename_i hk;have e:=bR hk;subst e;cases h;exact(eY r).loose
  .split at h
   .rename_i j;have e:=bR j;subst e;cases h;have r':=eY r;cases r' with
    |sl b off f a i l hk ha hm hr=>exact Rd.sl b off f a i (by simp) (by omega) (by omega) (by omega) (by omega)
   grind
 grind
def ya{α:Type}(enc:α->List C)(b7:α)(l:List α):Nat->List C:=λi=>enc (l.getD i b7)
structure kF(α:Type) where
 k:Nat
 enc:α->List C
 dec:List C->α
 b7:α
 inv:∀a,dec (enc a)=a
 len:∀a,(enc a).length=k
namespace kF
variable {α:Type}(c:kF α)
def list(n:Nat)(es:Nat->List C):List α:=(bd n).map λi=>c.dec (es i)
def fn(l:List α):Nat->List C:=ya c.enc c.b7 l
def fits(n:Nat)(es:Nat->List C):Prop:=∀i,i<n->es i=c.enc (c.dec (es i))
def sl(l:List α):D:=.e (.one (.c (.sl ae c.k l.length (c.fn l))))
def CU{n:Nat}{es:Nat->List C}:(c.list n es).length=n:=by simp[list]
def list_fn(l:List α):c.list l.length (c.fn l)=l:=by
 apply pX
 .simp[list]
 .intro i b a;simp[list,fn,ya,an,br a,c.inv]
def aM(l:List α){n:Nat}:c.fits n (c.fn l):=λi _=>by simp[fn,ya,c.inv]
def O3{n:Nat}{es:Nat->List C}(h:c.fits n es):cy n es (c.fn (c.list n es)):=by intro i hi;rw[h i hi];simp[fn,ya,list,an,hi]
def jR{d:D}{n:Nat}{es:Nat->List C}(h:kY c.k d=aa (n,es))(b:c.fits n es){σ:List aP}{s:St}{v:ah}(r:dn σ s v d):dn σ s v (c.sl (c.list n es)):=by have e:=LJ h r;have a:=e.Dw (c.O3 b);show Rd s.M v (.sl ae c.k (c.list n es).length _);rw[c.CU];exact a
end kF
def cN(s:Bs)(i:Nat):Int:=(s.getD i 0).toNat
theorem cR(s:Bs)(j:Int):((iS s j).toNat:Int)=cN s j.toNat:=rfl
abbrev bz:=Bs×Bs
def Cf(cs:List C)(j:Nat):Bs:=match dw j cs with|some (.str s)=>s|_=>[]
def xb(cs:List C)(j:Nat):Int:=match dw j cs with|some (.int _ s)=>s|_=>0
def cF:kF bz:={k:=2,enc:=λf=>[.str f.1,.str f.2],dec:=λcs=>(Cf cs 0,Cf cs 1),b7:=([],[]),inv:=λ_=>rfl,len:=λ_=>rfl}
namespace R1
open Go.Proofs
variable {X:Cx ag}
def Zj:dv:=λargs σ=>match args,σ with
 |[.e (.one (.c (.int .u8 b)))],[]=>aa (dB (mb b),[],[])
 |_,_=>af
def t88:eb X 88 Zj:=by intro args σ res σ' obs h _;unfold Zj at h;grind[O2]
def Xk:dv:=λargs σ=>match args,σ with
 |[.e (.one (.c (.str b)))],[]=>aa (dB (b8 b),[],[])
 |_,_=>af
def t89:eb X 89 Xk:=by intro args σ res σ' obs h _;unfold Xk at h;grind[E8]
def ct1:List (Nat×dv):=[(88,Zj),(89,Xk)]
def CV:bF X ct1:=bF.cons t88 (bF.cons t89 bF.nil)
def dD(s:Bs):Bool:=if s.length=1 then mb (cN s 0)else if s.length=3 then mb (cN s 0)&&(cN s 1==47)&&mb (cN s 2)else ae
theorem Ir(s:Bs):Ev X 37 [dS s] [] (dB (dD s)) []:=by
 refine Ev.bQ Tryz.func37 rfl λf=>?_;by_cases e:s.length=1
 .refine aV CV [(6,ab)] rfl ?_ (AK.bx rfl ?_)
  .simp[e]
  .simp[dD,e,cR]
 .by_cases a:s.length=3
  .by_cases b:mb (cN s 0)=ab
   .by_cases d:cN s 1=47
    .refine aV CV [(6,ae),(11,ab),(14,ab),(18,ab)] rfl ?_ (AK.bx rfl ?_)
     .simp[a,cR,b,d]
     .simp[dD,a,b,d,cR]
    .refine aV CV [(6,ae),(11,ab),(14,ab),(18,ae)] rfl ?_ (AK.bx rfl ?_)
     .simp[a,cR,b,d]
     .simp[dD,a,b,d]
   .refine aV CV [(6,ae),(11,ab),(14,ae)] rfl ?_ (AK.bx rfl ?_)
    .simp[a,cR,b]
    .simp[dD,a,b]
  .refine aV CV [(6,ae),(11,ae)] rfl ?_ (AK.bx rfl ?_)
   .simp;omega
   .simp[dD,e,a]
def ee(s:Bs):Bool:=decide (s.length<=40)&&b8 s
theorem Is(s:Bs):Ev X 38 [dS s] [] (dB (ee s)) []:=by
 refine Ev.bQ Tryz.func38 rfl λb=>?_;by_cases a:s.length<=40
 .refine aV CV [(5,ab)] rfl ?_ (AK.bx rfl ?_)
  .simp;omega
  .simp[ee,a]
 .refine aV CV [(5,ae)] rfl ?_ (AK.bx rfl ?_)
  .simp;omega
  .simp[ee,a]
def clash(a b:Bs):Bool:=(a.length != b.length)&&(cN a 0==cN b 0)
def LK(a b:Bs)(g:a≠[])(h:b≠[]):Ev X 39 [dS a,dS b] [] (dB (clash a b)) []:=by
 have d:=List.length_pos_iff.2 g;have e:=List.length_pos_iff.2 h;refine Ev.bQ Tryz.func39 rfl λi=>?_;by_cases f:a.length=b.length
 .refine aW [(9,ae)] rfl ?_ (AK.bx rfl ?_)
  .simp[f]
  .simp[clash,f]
 .refine aW [(9,ab)] rfl ?_ (AK.bx rfl ?_)
  .simp[d,e];omega
  .simp[clash,f,cR]
end R1
end Go.AM
namespace Go.AM.R1
section
open Go.Proofs
variable {X:Cx ag}
def Zk:dv:=λargs σ=>match args,σ with
 |[.e (.one (.c (.str b)))],[]=>aa (dB (dD b),[],[])
 |_,_=>af
def t37:eb X 37 Zk:=by intro args σ res σ' obs h _;unfold Zk at h;grind[Ir]
def Xl:dv:=λargs σ=>match args,σ with
 |[.e (.one (.c (.str b)))],[]=>aa (dB (ee b),[],[])
 |_,_=>af
def t38:eb X 38 Xl:=by intro args σ res σ' obs h _;unfold Xl at h;grind[Is]
def Zl:dv:=λargs σ=>match args,σ with
 |[.e (.one (.c (.str a))),.e (.one (.c (.str b)))],[]=>aa (dB (clash a b),[],[a≠[],b≠[]])
 |_,_=>af
def t39:eb X 39 Zl:=by
 intro args σ res σ' obs h a;unfold Zl at h;split at h
 .cases h;exact LK _ _ a.1 a.2
 grind
def ct2:List (Nat×dv):=(37,Zk)::(38,Xl)::(39,Zl)::ct1
def tV:bF X ct2:=bF.cons t37 (bF.cons t38 (bF.cons t39 CV))
def ft(t:List bz)(i:Nat):Bs:=(t.getD i ([],[])).1
def sZ(t:List bz)(i:Nat):Bs:=(t.getD i ([],[])).2
def gK(t:List bz)(i:Nat):(t.getD i cF.b7).1=ft t i:=rfl
def pK(t:List bz)(i:Nat):(t.getD i cF.b7).2=sZ t i:=rfl
def gJ(t:List bz)(i:Nat):Bool:=dD (ft t i)&&ee (sZ t i)&&(i==0||bk (ft t (i-1)) (ft t i))&&(bd i).all λj=>!clash (ft t j) (ft t i)
def cz(t:List bz):Bool:=(bd t.length).all (gJ t)&&decide (t.length<=6)
def dz{n:Nat}{p:Nat->Bool}:(bd n).all p=ab↔∀i,i<n->p i=ab:=by grind
def qA{s:Bs}(h:dD s=ab):s≠[]:=by rintro rfl;simp[dD]at h
def lL{t:List bz}{i:Nat}(hi:i<t.length)(h:gJ t i=ae):cz t=ae:=by
 cases a:cz t with
 |false=>rfl
 |true =>
  simp only[cz,bS]at a;grind
def yQ(t:List bz):Ev X 10 [cF.sl t] [] (dB (cz t)) []:=by
 refine Ev.bQ Tryz.func10 rfl λu=>?_;have r:=u.sl 0 rfl;refine cg tV rfl aw ?_;refine AK.wI (λi=>i<=t.length/\∀j,j<i->gJ t j=ab) (λi:Nat=>[(0,cF.sl t),(3,dI i)]) (λ_=>[]) (λi=>t.length-i) 0 rfl (by simp[cy]) ⟨by omega,by omega⟩ rfl ?_;rintro i ⟨hi,k⟩;by_cases h:i<t.length
 .by_cases b:dD (ft t i)=ab
  .by_cases c:ee (sZ t i)=ab
   .by_cases m:i=0∨bk (ft t (i-1)) (ft t i)=ab
    .apply AK.join [(0,cF.sl t),(3,dI i),(4,dI 0)] []
     .intro hk;by_cases d:i=0
      .refine aV tV [(8,ab),(16,ab),(24,ab),(29,ae)] rfl ?_ (hk _ _ rfl ?_)
       .simp[-an,h,gK,pK,b,c];omega
       .simp[cy]
      .have g:=m.resolve_left d;have f:bA .i64 ((i:Int)-1):=by simp only[bA];omega
       have n:((i:Int)-1).toNat=i-1:=by omega
       refine aV tV [(8,ab),(16,ab),(24,ab),(29,ab),(42,ae)] rfl ?_ (hk _ _ rfl ?_)
       .simp[-an,h,gK,pK,b,c,g,f,n];omega
       .simp[cy]
     ·
      have p:gJ t i=(bd i).all (λj=>!clash (ft t j) (ft t i)):=by
       rcases m with rfl|g
       .simp[gJ,b,c]
       .simp[gJ,b,c,g]
      refine AK.wI (λj=>j<=i/\∀o,o<j->clash (ft t o) (ft t i)=ae) (λj:Nat=>[(0,cF.sl t),(3,dI i),(4,dI j)]) (λ_=>[]) (λj=>i-j) 0 rfl (by simp[cy]) ⟨by omega,by omega⟩ rfl ?_;rintro j ⟨v,s⟩;by_cases a:j<i
      .have l:dD (ft t j)=ab:=by have:=k j a;simp only[gJ,bS]at this;exact this.1.1.1
       cases q:clash (ft t j) (ft t i)with
       |true =>
        refine aV tV [(47,ab),(60,ab)] rfl ?_ (AK.iC (AK.sq (cw.zero rfl ?_)))
        .simp[-an,h,a,gK,q,qA b,qA l];omega
        .have:gJ t i=ae:=by grind
         simp[lL h this]
       |false =>
        refine aV tV [(47,ab),(60,ae)] rfl ?_ (AK.again (j+1) rfl ?_ ?_ ?_ rfl)
        .simp[-an,h,a,gK,q,qA b,qA l,bA];omega
        .simp[cy]
        .grind
        .omega
      .have a:j=i:=by omega
       subst a;refine aV tV [(47,ae)] rfl (by simp) (AK.leave rfl rfl ?_);refine cg tV rfl ?_ (AK.again (j+1) rfl ?_ ?_ ?_ rfl)
       .simp[bA];omega
       .simp[cy]
       .grind
       .omega
    .have d:i≠0:=λe=>m (.inl e);have g:bk (ft t (i-1)) (ft t i)=ae:=by grind
     have f:bA .i64 ((i:Int)-1):=by simp only[bA];omega
     have n:((i:Int)-1).toNat=i-1:=by omega
     refine aV tV [(8,ab),(16,ab),(24,ab),(29,ab),(42,ab)] rfl ?_ (AK.iC (cw.zero rfl ?_))
     .simp[-an,h,gK,pK,b,c,g,f,n];omega
     .simp[ay,lL h (by simp[gJ,d,g])]
   .refine aV tV [(8,ab),(16,ab),(24,ae)] rfl ?_ (AK.iC (cw.zero rfl ?_))
    .simp[-an,h,gK,pK,b,c]
    .simp[ay,lL h (by simp[gJ,c])]
  .refine aV tV [(8,ab),(16,ae)] rfl ?_ (AK.iC (cw.zero rfl ?_))
   .simp[-an,h,gK,b]
   .simp[ay,lL h (by simp[gJ,b])]
 .refine aV tV [(8,ae)] rfl (by simp;omega) (AK.leave rfl rfl ?_);refine cg tV rfl aw (AK.bx rfl ?_);simp only[ay,cz];grind
end
end Go.AM.R1
namespace Go.AM
def ck.imp{σ:List aP}{s:St}{d a:D}{ds FI:List D}(h:∀v,dn σ s v d->dn σ s v a)(k:∀vs,ck σ s vs ds->ck σ s vs FI):∀vs,ck σ s vs (d::ds)->ck σ s vs (a::FI)
 |[],r=>r.elim
 |v::vs,r=>⟨h v r.1,k vs r.2⟩
abbrev dP(f:bz):D:=.e (.agg [.c (.str f.1),.c (.str f.2)])
abbrev Sj(a:List bz)(b:Bool):D:=.fa [.one (.c (.sl ae 2 a.length (cF.fn a))),.one (.c (.bool b))]
namespace R1
open Go.Proofs
variable {X:Cx ag}
def T1:dv:=λargs σ=>match args,σ with
 |[c],[]=>match kY 2 c with
  |none=>af
  |some (b,a)=>aa (dB (cz (cF.list b a)),[],[cF.fits b a])
 |_,_=>af
def t10:eb X 10 T1:=by
 intro args σ res σ' obs h a;unfold T1 at h;split at h
 .split at h
  .cases h
  rename_i d c b;cases h;exact(yQ _ ).args (λ_ vs=>ck.imp (λ_=>cF.jR b a) (λ_ r=>r) vs)
 grind
def ct3:List (Nat×dv):=(10,T1)::ct2
def Zm:bF X ct3:=bF.cons t10 tV
end R1
def kF.cj{α:Type}(c:kF α)(l:List α)(x:α):cy (l.length+1) (cE l.length (c.fn l) (λi=>[c.enc x].getD i [])) (c.fn (l++[x])):=by intro i hi;unfold cE kF.fn ya;grind
@[simp] theorem cy.same{n:Nat}{f:Nat->List C}:cy n f f:=λ_ _=>rfl
@[simp] theorem cy.nil{f g:Nat->List C}:cy 0 f g:=λi h=>by omega
namespace R1
open Go.Proofs
variable {X:Cx ag}
def md(t:List bz)(p:Bs):List bz:=t.filter λf=>!(f.1==p)
def E9{t:List bz}{p:Bs}{i:Nat}(h:i<t.length):md (t.take (i+1)) p=md (t.take i) p++(if ft t i=p then[]else[(ft t i,sZ t i)]):=by
 have e:t.getD i ([],[])=t[i]:=by grind
 have a:(ft t i,sZ t i)=t[i]:=by simp only[ft,sZ,e]
 rw[lf,br h,a];simp only[md,List.filter_append,Option.toList_some];grind
theorem Iv(t:List bz)(p:Bs):(md t p).length<=t.length:=List.length_filter_le _ _
def GQ(t:List bz)(p:Bs)(d:t.length<=4000000):Ev X 107 [cF.sl t,dS p] [] (cF.sl (md t p)) []:=by
 refine Ev.bQ Tryz.func107 rfl λc=>?_;refine bu rfl aw ?_;refine AK.iB 5 82 2 rfl rfl ?_;refine AK.j0 (λi=>i<=t.length) (λi:Nat=>[(0,cF.sl t),(1,dS p),(6,dI i),(5,.e (.one (.vec 0 2 (md (t.take i) p).length (cF.fn (md (t.take i) p)))))]) (λi=>[.vec 82 2 (md (t.take i) p).length (cF.fn (md (t.take i) p))]) (λi=>t.length-i) 0 rfl ?_ rfl ?_ (by omega) ?_
 .simp[cy,md]
 .simp[cy,md]
 intro i hi;by_cases h:i<t.length
 .have a:=E9 (p:=p) h;have f:(md (t.take i) p).length<=4000000:=by grind[Iv]
  by_cases b:ft t i=p
  .rw[bl b,iQ]at a;refine aW [(11,ab),(20,ae)] rfl ?_ (AK.gj (i+1) rfl ?_ rfl ?_ ?_ ?_)
   .simp[-an,h,gK,b,bA];omega
   .rw[a];simp[cy]
   .rw[a];simp[cy]
   .omega
   .omega
  .rw[aY b]at a;refine aW [(11,ab),(20,ab)] rfl ?_ (AK.gj (i+1) rfl ?_ rfl ?_ ?_ ?_)
   .simp[-an,h,gK,b,bA,i82];omega
   .rw[a];simp[-an];exact cF.cj _ (ft t i,sZ t i)
   .rw[a];simp[-an];exact cF.cj _ (ft t i,sZ t i)
   .omega
   .omega
 .have:i=t.length:=by omega
  subst this;refine aW [(11,ae)] rfl (by simp) (AK.leave rfl rfl ?_);refine bu rfl aw (AK.bx rfl ?_);simp[cy]
def S7:dv:=λargs σ=>match args,σ with
 |[f,.e (.one (.c (.str b)))],[]=>match kY 2 f with
  |none=>af
  |some (d,a)=>aa (cF.sl (md (cF.list d a) b),[],[cF.fits d a,((cF.list d a)).length<=4000000])
 |_,_=>af
def t107:eb X 107 S7:=by
 intro args σ res σ' obs h a;unfold S7 at h;split at h
 .split at h
  .cases h
  rename_i d c b;cases h;exact(GQ _ _ (a.2)).args (λ_ vs=>ck.imp (λ_=>cF.jR b a.1) (ck.imp (λ_ r=>r) (λ_ r=>r)) vs)
 grind
def ct5:List (Nat×dv):=(107,S7)::ct3
def Zo:bF X ct5:=bF.cons t107 Zm
end R1
end Go.AM
namespace Go.AM.R1
section
open Go.Proofs
variable {X:Cx ag}
def rD(f:bz)(acc:List bz×Bool)(g:Bs):List bz×Bool:=if acc.2=ab then acc else if bk g f.1=ab then acc else(acc.1++[f],ab)
def O6(f:bz)(a:List bz×Bool)(g:bz):List bz×Bool:=if g.1=f.1 then a else(a.1++[g],a.2)
def oE(f:bz)(acc:List bz×Bool)(g:bz):List bz×Bool:=O6 f (rD f acc g.1) g
def lx(f:bz)(t:List bz):List bz×Bool:=t.foldl (oE f) ([],ae)
def sR(t:List bz)(f:bz):List bz:=if(lx f t).2=ab then(lx f t).1 else(lx f t).1++[f]
theorem fileAt{t:List bz}{i:Nat}(h:i<t.length):t[i]=(ft t i,sZ t i):=by
 have e:t.getD i ([],[])=t[i]:=by grind
 simp only[ft,sZ,e]
def CZ{f:bz}{t:List bz}{i:Nat}(h:i<t.length):lx f (t.take (i+1))=oE f (lx f (t.take i)) (ft t i,sZ t i):=by rw[lf,br h,fileAt h];simp[lx]
def C0(f:bz)(acc:List bz×Bool)(g:Bs):(rD f acc g).1.length<=acc.1.length+1:=by unfold rD;grind
def LQ(f:bz)(acc:List bz×Bool)(g:bz):(O6 f acc g).1.length<=acc.1.length+1:=by unfold O6;grind
def xB(f:bz):∀(t:List bz)(acc:List bz×Bool),(t.foldl (oE f) acc).1.length<=acc.1.length+2*t.length
 |[],acc=>by simp
 |g::r,acc=>by
  have c:=xB f r (oE f acc g);have a:=C0 f acc g.1;have b:=LQ f (rD f acc g.1) g;simp only[lj,er];have:(oE f acc g).1.length<=acc.1.length+2:=by unfold oE;omega
  omega
abbrev dV(l:Nat)(t:List bz):D:=.e (.one (.vec l 2 t.length (cF.fn t)))
abbrev bV(t:List bz):aP:=.vec 82 2 t.length (cF.fn t)
def O7(t:List bz)(f:bz)(r:t.length<=4000000):Ev X 108 [cF.sl t,dP f] [] (dV 0 (sR t f)) [bV (sR t f)]:=by
 refine Ev.bQ Tryz.func108 rfl λs=>?_;refine bu rfl aw ?_;refine AK.iB 5 82 2 rfl rfl ?_;let A:Nat->List bz×Bool:=λi=>lx f (t.take i);have a:∀i,i<=t.length->(A i).1.length<=8000000:=by intro i hi;have:=xB f (t.take i) ([],ae);simp at this;show(lx f (t.take i)).1.length<=_;unfold lx;omega
 refine AK.j0 (λi=>i<=t.length) (λi:Nat=>[(0,cF.sl t),(3,.e (.one (.ptr 0 0))),(7,dI i),(5,dV 1 (A i).1),(6,dB (A i).2)]) (λi=>[.cells 82 [.c (.str f.1),.c (.str f.2)],bV (A i).1]) (λi=>t.length-i) 0 rfl ?_ rfl ?_ (by omega) ?_
 .simp[cy,A,lx]
 .simp[cy,A,lx]
 intro i hi;by_cases h:i<t.length
 .have o:A (i+1)=oE f (A i) (ft t i,sZ t i):=CZ h;have p:=a i hi;generalize A i=acc at *;have q:=C0 f acc (ft t i);apply AK.join [(0,cF.sl t),(3,.e (.one (.ptr 0 0))),(7,dI i),(5,dV 1 (rD f acc (ft t i)).1),(6,dB (rD f acc (ft t i)).2)] [.cells 82 [.c (.str f.1),.c (.str f.2)],bV (rD f acc (ft t i)).1]
  .intro hk;cases d:acc.2 with
   |true =>
    have l:rD f acc (ft t i)=acc:=by unfold rD;grind
    rw[l]at hk;refine bL [(12,ab),(15,ab),(1000009,ab)] rfl ?_ (hk _ _ rfl ?_)
    .simp[h]
    .simp[d]
   |false =>
    cases k:bk (ft t i) f.1 with
    |true =>
     have l:rD f acc (ft t i)=acc:=by unfold rD;grind
     rw[l]at hk;refine bL [(12,ab),(15,ae),(25,ae),(1000009,ab)] rfl ?_ (hk _ _ rfl ?_)
     .simp[-an,h,gK,k]
     .simp[d]
    |false =>
     have l:rD f acc (ft t i)=(acc.1++[f],ab):=by unfold rD;grind
     rw[l]at hk;refine bL [(12,ab),(15,ae),(25,ab),(1000009,ab)] rfl ?_ (AK.norm _ rfl ?_ (hk _ _ rfl ?_))
     .simp[-an,h,gK,k,i82];omega
     .simp[-an];exact cF.cj _ f
     .simp[-an];exact cF.cj _ f
  .have j:A (i+1)=O6 f (rD f acc (ft t i)) (ft t i,sZ t i):=o;generalize rD f acc (ft t i)=a1 at *;by_cases m:ft t i=f.1
   .have b:A (i+1)=a1:=by rw[j];exact bl m
    refine bL [(38,ae)] rfl ?_ (AK.gj (i+1) rfl ?_ rfl ?_ ?_ ?_)
    .simp[-an,h,gK,m,bA];omega
    .rw[b];simp
    .rw[b];simp
    .omega
    .omega
   .have b:A (i+1)=(a1.1++[(ft t i,sZ t i)],a1.2):=by rw[j];exact aY m
    refine bL [(38,ab)] rfl ?_ (AK.gj (i+1) rfl ?_ rfl ?_ ?_ ?_)
    .simp[-an,h,gK,m,bA,i82];omega
    .rw[b];simp[-an];exact cF.cj _ (ft t i,sZ t i)
    .rw[b];simp[-an];exact cF.cj _ (ft t i,sZ t i)
    .omega
    .omega
 .have:i=t.length:=by omega
  subst this;have n:A t.length=lx f t:=by grind
  have p:=a t.length (bg _);refine aW [(12,ae)] rfl (by simp) (AK.leave rfl rfl ?_);have g:sR t f=if(A t.length).2=ab then(A t.length).1 else(A t.length).1++[f]:=by rw[n];rfl
  cases d:(A t.length).2 with
  |true =>
   rw[d,bl rfl]at g;refine aW [(46,ab)] rfl ?_ (AK.norm [.cells 82 [.c (.str f.1),.c (.str f.2)],bV (sR t f)] rfl ?_ (AK.cY [1] rfl ?_ rfl rfl rfl ?_))
   .simp
   .rw[g];simp
   .rw[g];simp
   grind
  |false =>
   rw[d,aY (by simp)]at g;refine aW [(46,ae)] rfl ?_ (AK.norm [.cells 82 [.c (.str f.1),.c (.str f.2)],bV (sR t f)] rfl ?_ (AK.cY [1] rfl ?_ rfl rfl rfl ?_))
   .simp[i82];omega
   .rw[g];simp[-an];exact cF.cj _ f
   .rw[g];simp[-an];exact cF.cj _ f
   grind
end
end Go.AM.R1
namespace Go.AM
def cy.app0{n:Nat}{f g:Nat->List C}:cy n (cE 0 f g) g:=λi _=>by simp[cE]
namespace R1
open Go.Proofs
variable {X:Cx ag}
def S8:dv:=λargs σ=>match args,σ with
 |[d,.e (.agg [.c (.str b0),.c (.str b1)])],[]=>match kY 2 d with
  |none=>af
  |some (b,a)=>aa (dV 0 (sR (cF.list b a) (b0,b1)) ,[ bV (sR (cF.list b a) (b0,b1))],[cF.fits b a,((cF.list b a)).length<=4000000])
 |_,_=>af
def t108:eb X 108 S8:=by
 intro args σ res σ' obs h a;unfold S8 at h;split at h
 .split at h
  .cases h
  rename_i d c b;cases h;exact(O7 _ _ (a.2)).args (λ_ vs=>ck.imp (λ_=>cF.jR b a.1) (ck.imp (λ_ r=>r) (λ_ r=>r)) vs)
 .cases h
def ct6:List (Nat×dv):=(108,S8)::ct5
def Iw:bF X ct6:=bF.cons t108 (Zo)
def ei(t:List bz)(p x:Bs):List bz×Bool :=
 if cz t=ab/\dD p=ab/\ee x=ab then(if cz (sR t (p,x))=ab then(sR t (p,x),ab)else(t,ae))else([],ae)
abbrev tVB(l:Nat)(t:List bz)(b:Bool):D:=.fa [.one (.vec l 2 t.length (cF.fn t)),.one (.c (.bool b))]
def me{t:List bz}(h:cz t=ab):t.length<=6:=by simp only[cz,bS,aZ]at h;exact h.2
def uB(t:List bz)(p x:Bs):Ev X 59 [cF.sl t,dS p,dS x] [] (tVB 0 (ei t p x).1 (ei t p x).2) [bV (ei t p x).1]:=by
 refine Ev.bQ Tryz.func59 rfl λi=>?_;have b:¬(cz t=ab/\dD p=ab/\ee x=ab)->ei t p x=([],ae):=λh=>aY h;cases a:cz t with
 |false =>
  rw[b (by grind)];refine aV Iw [(10,ae)] rfl ?_ ?_
  .simp[cF.list_fn,cF.aM,a]
  .refine AK.iB 6 82 2 rfl rfl (AK.norm [bV []] rfl ?_ (AK.cY [0] rfl ?_ rfl rfl rfl ?_))
   .simp[cy]
   .simp[cy]
   grind
 |true =>
  have g:=me a;cases c:dD p with
  |false =>
   rw[b (by grind)];refine aV Iw [(10,ab),(14,ae)] rfl ?_ ?_
   .simp[cF.list_fn,cF.aM,a,c]
   .refine AK.iB 6 82 2 rfl rfl (AK.norm [bV []] rfl ?_ (AK.cY [0] rfl ?_ rfl rfl rfl ?_))
    .simp[cy]
    .simp[cy]
    grind
  |true =>
   cases d:ee x with
   |false =>
    rw[b (by grind)];refine aV Iw [(10,ab),(14,ab),(19,ae)] rfl ?_ ?_
    .simp[cF.list_fn,cF.aM,a,c,d]
    .refine AK.iB 6 82 2 rfl rfl (AK.norm [bV []] rfl ?_ (AK.cY [0] rfl ?_ rfl rfl rfl ?_))
     .simp[cy]
     .simp[cy]
     grind
   |true =>
    have e:ei t p x=if cz (sR t (p,x))=ab then(sR t (p,x),ab)else(t,ae):=bl ⟨a,c,d⟩;cases f:cz (sR t (p,x))with
    |true =>
     rw[f,bl rfl]at e;rw[e];refine aV Iw [(10,ab),(14,ab),(19,ab),(29,ab)] rfl ?_ (AK.norm [bV (sR t (p,x))] rfl ?_ (AK.cY [0] rfl ?_ rfl rfl rfl ?_))
     .simp[cF.list_fn,cF.aM,a,c,d,f];omega
     .simp[cF.list_fn]
     .simp[cF.list_fn]
     grind
    |false =>
     rw[f,aY (by simp)]at e;rw[e];refine aV Iw [(10,ab),(14,ab),(19,ab),(29,ae)] rfl ?_ (AK.norm [bV (sR t (p,x)),bV t] rfl ?_ (AK.cY [1] rfl ?_ rfl rfl rfl ?_))
     .simp[cF.list_fn,cF.aM,a,c,d,f,i82];omega
     .simp[cF.list_fn,cy.app0]
     .simp[cy.app0]
     grind
def xC(t:List bz)(p x:Bs):Ev X 59 [cF.sl t,dS p,dS x] [] (Sj (ei t p x).1 (ei t p x).2) [] :=
 (uB t p x).forget rfl (by simp) rfl
def Zp:dv:=λargs σ=>match args,σ with
 |[f,.e (.one (.c (.str b))),.e (.one (.c (.str c)))],[]=>match kY 2 f with
  |none=>af
  |some (d,a)=>aa (Sj (ei (cF.list d a) b c).1 (ei (cF.list d a) b c).2,[],[cF.fits d a])
 |_,_=>af
def t59:eb X 59 Zp:=by
 intro args σ res σ' obs h a;unfold Zp at h;split at h
 .split at h
  .cases h
  rename_i d c b;cases h;exact(xC _ _ _ ).args (λ_ vs=>ck.imp (λ_=>cF.jR b a) (ck.imp (λ_ r=>r) (ck.imp (λ_ r=>r) (λ_ r=>r))) vs)
 .cases h
def ct7:List (Nat×dv):=(59,Zp)::ct6
def Zq:bF X ct7:=bF.cons t59 (Iw)
end R1
end Go.AM
namespace Go.AM.R1
def dl(s:Bs)(i:Nat):Int:=(cN s i-97) % 256
def ju(t:Bs)(e:Nat):Bool:=(dl t (e-1)+2*dl t (e-2)+3*dl t (e-3)) % 5==0
def tG(t:Bs)(f:Nat):Nat->Nat
 |0=>min (f+8) t.length
 |k+1=>if t.length<=f+(7-k)then t.length else if ju t (f+(7-k))then f+(7-k)else tG t f k
def cutAt(t:Bs)(f:Nat):Nat:=tG t f 5
def GL(t:Bs)(f:Nat)(a:f<t.length):∀k,k<=5->f<tG t f k/\tG t f k<=t.length/\tG t f k<=f+8
 |0,_=>by simp only[tG];omega
 |k+1,hk=>by
  simp only[tG];split
  .omega
  .split
   .omega
   .exact GL t f a k (by omega)
theorem nD(t:Bs)(f:Nat)(a:f<t.length):f<cutAt t f/\cutAt t f<=t.length/\cutAt t f<=f+8:=GL t f a 5 (by omega)
def mK(t:Bs):Nat->Nat->List Nat
 |0,_=>[]
 |k+1,f=>if f<t.length then cutAt t f::mK t k (cutAt t f)else[]
def Az(t:Bs):List Nat:=mK t t.length 0
def fz(t:Bs):Nat->Nat->List Bs
 |0,_=>[]
 |k+1,f=>if f<t.length then(t.drop f).take (cutAt t f-f)::fz t k (cutAt t f)else[]
def pieces(t:Bs):List Bs:=fz t t.length 0
def gx(l:List Bs):Option Bs:=if ee l.flatten&&(pieces l.flatten==l)then aa l.flatten else af
def bt(p:Bs):Bool:=decide (1<=p.length)&&decide (p.length<=8)&&b8 p
def codeOf(p:Bs):Int:=p.foldl (λn b=>27*n+((b.toNat:Int)-97) % 256+1) 0
def b6(k:Int):Bool:=decide (1<=k)&&decide (k<=99)
def ek(k:Int)(p:Bs):Int:=(codeOf p*(2*k+1)+k*7919) % 999999999989
def cK(n:Nat):Nat:=if n<1∨8<n then 0 else if n<=2 then 2 else if n<=4 then 4 else 8
def eT(p:Bs):Bs:=if bt p then p++List.replicate (cK p.length-p.length) 46 else[]
def strip(b:Bs):Bs:=(b.reverse.dropWhile (·==46)).reverse
def eX(b:Bs):Option Bs:=if bt (strip b)&&(eT (strip b)==b)then aa (strip b)else af
abbrev bm:=Int×Bs
abbrev bH:=Int×List bm
def right(k:Int)(x:bm):Bool:=match eX x.2 with|some p=>ek k p==x.1|none=>ae
def Aq(l:List Int):Bool:=(bd l.length).all λi=>i==0||decide (l.getD (i-1) 0<l.getD i 0)
def gk(k:Int)(p:bH):Bool :=
 decide (1<=p.1)&&decide (p.1<=99)&&b6 k&&decide (1<=p.2.length)&&decide (p.2.length<=4)&&p.2.all (right k)&&Aq (p.2.map (·.1))
def chunk(k:Int)(x:bm):Option Bs:=match eX x.2 with|some p=>if b6 k&&(ek k p==x.1)then aa p else af|none=>af
def eh(k:Int)(p:bH)(n:Int):Option Bs:=match p.2.find? (λx=>x.1==n)with|some x=>chunk k x|none=>af
def gI(l:List bm)(x:bm):List bm:=match l with
 |[]=>[x]
 |y::r=>if x.1<y.1 then x::y::r else y::gI r x
def eZ(no k:Int)(ps:List Bs):bH:=(no,ps.foldl (λl p=>gI l (ek k p,eT p)) [])
abbrev cu:=Int×Int
def eF(s:cu):Bool:=decide (0<=s.1)&&decide (s.1<999999999989)&&decide (1<=s.2)&&decide (s.2<=99)
def gv(l:List cu)(s:cu):List cu:=match l with
 |[]=>[s]
 |y::r=>if y.1<s.1 then y::gv r s else s::(y::r).filter (λz=>!(z.1==s.1))
def mH(l:List cu)(n:Int):Int:=match l.find? (λs=>s.1==n)with|some s=>s.2|none=>0
def c6(l:List bH):List cu:=l.flatMap λp=>p.2.map λx=>(x.1,p.1)
def indexOf(l:List bH):List cu:=if(c6 l).all eF then(c6 l).foldl gv []else[]
abbrev jS:=Bs×List Int
abbrev gG:=Int×List jS
def oN(k:Int)(f:bz):jS:=(f.1,(pieces f.2).map (ek k))
def fA(no k:Int)(t:List bz):gG:=(no,t.map (oN k))
def iF(k:Int)(l:List cu)(out:List Bs)(p:Bs):List Bs:=if mH l (ek k p)==0&&!out.contains p then out++[p]else out
def dg(k:Int)(t:List bz)(l:List cu):List Bs:=(t.flatMap λf=>pieces f.2).foldl (iF k l) []
def dK(k:Int)(ps:List bH)(n:Int):Option Bs:=ps.findSome? λp=>eh k p n
end Go.AM.R1
namespace Go.AM
def HH(cs:List C)(j:Nat):Nat×(Nat->List C):=match dw j cs with|some (.sl _ _ n es)=>(n,es)|_=>(0,λ_=>[])
def cI:kF Int:={k:=1,enc:=λn=>[.int .i64 n],dec:=λcs=>xb cs 0,b7:=0,inv:=λ_=>rfl,len:=λ_=>rfl}
def cS:kF Bs:={k:=1,enc:=λs=>[.str s],dec:=λcs=>Cf cs 0,b7:=[],inv:=λ_=>rfl,len:=λ_=>rfl}
namespace R1
def dM:kF bm:={k:=2,enc:=λx=>[.int .i64 x.1,.str x.2],dec:=λcs=>(xb cs 0,Cf cs 1),b7:=(0,[]),inv:=λ_=>rfl,len:=λ_=>rfl}
def nW:kF cu:={k:=2,enc:=λx=>[.int .i64 x.1,.int .i64 x.2],dec:=λcs=>(xb cs 0,xb cs 1),b7:=(0,0),inv:=λ_=>rfl,len:=λ_=>rfl}
abbrev sP(p:bH):C:=.sl ae 2 p.2.length (dM.fn p.2)
def cP:kF bH:={k:=2,enc:=λp=>[.int .i64 p.1,sP p],dec:=λcs=>(xb cs 0,dM.list (HH cs 1).1 (HH cs 1).2),b7:=(0,[]),inv:=λp=>by show(p.1,dM.list p.2.length (dM.fn p.2))=p;rw[dM.list_fn],len:=λ_=>rfl}
def cL:kF jS:={k:=2,enc:=λx=>[.str x.1,.sl ae 1 x.2.length (cI.fn x.2)],dec:=λcs=>(Cf cs 0,cI.list (HH cs 1).1 (HH cs 1).2),b7:=([],[]),inv:=λp=>by show(p.1,cI.list p.2.length (cI.fn p.2))=p;rw[cI.list_fn],len:=λ_=>rfl}
def fL:kF gG:={k:=2,enc:=λx=>[.int .i64 x.1,.sl ae 2 x.2.length (cL.fn x.2)],dec:=λcs=>(xb cs 0,cL.list (HH cs 1).1 (HH cs 1).2),b7:=(0,[]),inv:=λp=>by show(p.1,cL.list p.2.length (cL.fn p.2))=p;rw[cL.list_fn],len:=λ_=>rfl}
def cH:kF (Int×Int):=nW
abbrev HG(p:bH):D:=.e (.agg [.c (.int .i64 p.1),.c (sP p)])
abbrev Xi(r:Option Bs):D:=.e (.agg [.c (.str (r.getD [])),.c (.bool r.isSome)])
end R1
structure Arg(α:Type) where
 enc:α->D
 arg:D->Option (α×List Prop)
 ok:∀{d a o},arg d=aa (a,o)->ay o->∀{σ:List aP} {s:St} {v:ah},dn σ s v d->dn σ s v (enc a)
def aI:Arg Int:=⟨dI,λd=>match d with|.e (.one (.c (.int .i64 n)))=>aa (n,[])|_=>af,λ{d a o} h _ _ _ _ r=>by grind⟩
def aS:Arg Bs:=⟨dS,λd=>match d with|.e (.one (.c (.str n)))=>aa (n,[])|_=>af,λ{d a o} h _ _ _ _ r=>by grind⟩
def aL{α:Type}(c:kF α):Arg (List α):=⟨c.sl,λd=>match kY c.k d with|some (n,es)=>aa (c.list n es,[c.fits n es])|none=>af,λ{d a o} h b _ _ _ r=>by
 split at h
 .rename_i n es he;cases h;exact c.jR he b r
 .cases h⟩
def TU:Arg (Int×Bs):=⟨λx=>.e (.agg [.c (.int .i64 x.1),.c (.str x.2)]),λd=>match d with|.e (.agg [.c (.int .i64 a),.c (.str b)])=>aa ((a,b),[])|_=>af,λ{d a o} h _ _ _ _ r=>by grind⟩
def TV:Arg (Int×Int):=⟨λx=>.e (.agg [.c (.int .i64 x.1),.c (.int .i64 x.2)]),λd=>match d with|.e (.agg [.c (.int .i64 a),.c (.int .i64 b)])=>aa ((a,b),[])|_=>af,λ{d a o} h _ _ _ _ r=>by grind⟩
def Ey{α:Type}(c:kF α):Arg (Int×List α):=⟨λx=>.e (.agg [.c (.int .i64 x.1),.c (.sl ae c.k x.2.length (c.fn x.2))]),λd=>match d with
 |.e (.agg [.c (.int .i64 a),.c b])=>match kY c.k (.e (.one (.c b)))with|some (n,es)=>aa ((a,c.list n es),[c.fits n es])|none=>af
 |_=>af,λ{d a o} h m _ s _ r=>by
 split at h
 .split at h
  .rename_i n es he;cases h;obtain⟨vs,p,g⟩:=r
   match vs,g with
   |[],g=>exact g.elim
   |[_],g=>exact g.2.elim
   |_::_::_::_,g=>exact g.2.2.elim
   |[q,l],g=>exact⟨_,p,g.1,c.jR (σ:=[]) (s:=s) (v:=l) he m g.2.1,aw⟩
  .cases h
 .cases h⟩
def kq{α:Type}(A:Arg α)(res:α->D)(pre:α->List Prop):dv:=λargs σ=>match args,σ with
 |[d],[]=>match A.arg d with
  |some (a,o)=>aa (res a,[],kO o (pre a))
  |none=>af
 |_,_=>af
def oX{α i:Type}(A:Arg α)(B:Arg i)(res:α->i->D)(pre:α->i->List Prop):dv:=λargs σ=>match args,σ with
 |[d,e],[]=>match A.arg d with
  |some (a,o)=>match B.arg e with
   |some (b,p)=>aa (res a b,[],kO o (kO p (pre a b)))
   |none=>af
  |none=>af
 |_,_=>af
def Et{α i j:Type}(A:Arg α)(B:Arg i)(C:Arg j)(res:α->i->j->D)(pre:α->i->j->List Prop):dv:=λargs σ=>match args,σ with
 |[d,e,f],[]=>match A.arg d with
  |some (a,o)=>match B.arg e with
   |some (b,p)=>match C.arg f with
    |some (c,q)=>aa (res a b c,[],kO o (kO p (kO q (pre a b c))))
    |none=>af
   |none=>af
  |none=>af
 |_,_=>af
section
variable {P:aq}{X:Cx P}{f:aH}{α i j:Type}{A:Arg α}{B:Arg i}{C:Arg j}
def eb.pD{res:α->D}{pre:α->List Prop}(h:∀a,ay (pre a)->Ev X f [A.enc a] [] (res a) []):eb X f (kq A res pre):=by
 intro args σ r σ' obs h1 ho;unfold kq at h1;split at h1
 .split at h1
  .rename_i d a o b;cases h1;rw[ay.cat]at ho;exact(h a ho.2).args λs vs=>ck.imp (λ_ r=>A.ok b ho.1 r) (λ_ r=>r) vs
  .cases h1
 .cases h1
def eb.sC{res:α->i->D}{pre:α->i->List Prop}(h:∀a b,ay (pre a b)->Ev X f [A.enc a,B.enc b] [] (res a b) []):eb X f (oX A B res pre):=by
 intro args σ r σ' obs h1 ho;unfold oX at h1;split at h1
 .split at h1
  .rename_i d e a o g;split at h1
   .rename_i b p c;cases h1;rw[ay.cat,ay.cat]at ho;exact(h a b ho.2.2).args λs vs=>ck.imp (λ_ r=>A.ok g ho.1 r) (ck.imp (λ_ r=>B.ok c ho.2.1 r) (λ_ r=>r)) vs
   .cases h1
  .cases h1
 .cases h1
def eb.KA{res:α->i->j->D}{pre:α->i->j->List Prop}(h:∀a b c,ay (pre a b c)->Ev X f [A.enc a,B.enc b,C.enc c] [] (res a b c) []):eb X f (Et A B C res pre):=by
 intro args σ r σ' obs h1 ho;unfold Et at h1;split at h1
 .split at h1
  .rename_i d e g a o m;split at h1
   .rename_i b p l;split at h1
    .rename_i c q k;cases h1;rw[ay.cat,ay.cat,ay.cat]at ho;exact(h a b c ho.2.2.2).args λs vs=>ck.imp (λ_ r=>A.ok m ho.1 r) (ck.imp (λ_ r=>B.ok l ho.2.1 r) (ck.imp (λ_ r=>C.ok k ho.2.2.1 r) (λ_ r=>r))) vs
    .cases h1
   .cases h1
  .cases h1
 .cases h1
end
namespace R1
open Go.Proofs
def xc(a:List D)(res:D):dv:=λargs σ=>match σ with|[]=>aa (res,[],[args=a])|_=>af
def Ao{X:Cx ag}{f:aH}{a:List D}{res:D}(h:Ev X f a [] res []):eb X f (xc a res):=by
 intro args σ r σ' obs he ho;unfold xc at he;split at he
 .cases he;have:args=a:=ho;subst this;exact h
 .cases he
def yE(a:List D)(σ0:List aP)(res:D)(σ1:List aP):dv:=λargs σ=>aa (res,σ1,[args=a,σ=σ0])
def Cg{X:Cx ag}{f:aH}{a:List D}{σ0 σ1:List aP}{res:D}(h:Ev X f a σ0 res σ1):eb X f (yE a σ0 res σ1):=by intro args σ r σ' obs he ho;cases he;obtain⟨c,b⟩:args=a/\σ=σ0:=ho;subst c b;exact h
end R1
end Go.AM
namespace Go.AM.R1
def gO{p:Bs}(h:b8 p=ab):∀b∈p,97<=b.toNat/\b.toNat<=122:=by intro b a;have:=List.all_eq_true.1 h b a;simpa[eW]using this
def w7:∀(p:Bs) (n m:Int)(k:Nat),(∀b∈p,97<=b.toNat/\b.toNat<=122)->0<=n->n<m->1<=m ->
  0<=p.foldl (λn b=>27*n+((b.toNat:Int)-97) % 256+1) n/\p.foldl (λn b=>27*n+((b.toNat:Int)-97) % 256+1) n<m*27 ^ p.length
 |[],n,m,_,_,d,c,_=>by grind
 |b::p,n,m,k,a,d,c,e=>by obtain⟨f,q2⟩:=a b (by simp);have:=w7 p (27*n+((b.toNat:Int)-97) % 256+1) (m*27) k (λx g=>a x (by grind)) (by omega) (by omega) (by omega);grind[Int.mul_assoc]
def Qk:∀{n:Nat},n<=8->(27:Int) ^ n<=282429536481:=by
 intro n a
 match n,a with
 |0,_|1,_|2,_|3,_|4,_|5,_|6,_|7,_|8,_=>decide
def qv{p:Bs}(h:bt p=ab):0<=codeOf p/\codeOf p<282429536481:=by simp only[bt,bS,aZ]at h;obtain⟨a,q2⟩:=w7 p 0 1 0 (gO h.2) (by omega) (by omega) (by omega);have:=Qk h.1.2;rw[Int.one_mul]at q2;exact⟨a,Int.lt_of_lt_of_le q2 this⟩
def cop:∀d:Fin 200,d.val≠0->Nat.gcd 999999999989 d.val=1:=by decide +kernel
def S1{a:Nat}{P c d:Int}(e:P=(a:Int))(h:P ∣ c*d)(f:0<c)(k:c<P)(g:Nat.gcd a d.natAbs=1):False:=by
 subst e;have b:a ∣ c.natAbs*d.natAbs:=by have:=Int.natAbs_dvd_natAbs.2 h;grind[Int.natAbs_mul,Int.natAbs_natCast]
 have i:a ∣ c.natAbs:=Nat.Coprime.dvd_of_dvd_mul_right g b;have j:=Nat.le_of_dvd (by omega) i;omega
def O0{a b P:Int}(h:a % P=b % P):P ∣ a-b:=Int.dvd_of_emod_eq_zero (by rw[Int.sub_emod,h,Int.sub_self,Int.zero_emod])
def sM(l:Bs):Int:=l.foldr (λb n=>27*n+((b.toNat:Int)-97) % 256+1) 0
def CO:∀p:Bs,0<=sM p
 |[]=>by simp[sM]
 |b::p=>by have:=CO p;simp only[sM,List.foldr_cons]at *;omega
def y4:∀{p q:Bs},(∀b∈p,97<=b.toNat/\b.toNat<=122)->(∀b∈q,97<=b.toNat/\b.toNat<=122)->sM p=sM q->p=q
 |[],[],_,_,_=>rfl
 |[],c::q,_,a,h|c::q,[],a,_,h=>by have:=CO q;simp only[sM,List.foldr_cons,List.foldr_nil]at *;omega
 |b::p,c::q,d,a,h=>by have g:=d b (by simp);have i:=a c (by simp);have e:=y4 (p:=p) (q:=q) (λx f=>d x (by grind)) (λx f=>a x (by grind));simp only[sM,List.foldr_cons]at h e;grind[UInt8.toNat_inj]
def E4{p q:Bs}(c:bt p=ab)(b:bt q=ab)(h:codeOf p=codeOf q):p=q:=by
 have e:∀p,codeOf p=sM p.reverse:=λp=>by simp[codeOf,sM,List.foldr_reverse]
 simp only[bt,bS]at c b;rw[e,e]at h;exact List.reverse_inj.1 (y4 (λx a=>gO c.2 x (List.mem_reverse.1 a)) (λx a=>gO b.2 x (List.mem_reverse.1 a)) h)
def Io{k:Int}(hk:b6 k=ab){p q:Bs}(f:bt p=ab)(c:bt q=ab)(h:ek k p=ek k q):p=q:=by
 refine E4 f c ?_;simp only[b6,bS,aZ]at hk;obtain⟨e,c1⟩:=qv f;obtain⟨d,d1⟩:=qv c;have key:∀x y:Int,0<=x->0<=y->x<282429536481->x>y->(x*(2*k+1)+k*7919) % 999999999989=(y*(2*k+1)+k*7919) % 999999999989->False:=by
  intro x y m l i g h;have b:=O0 h;rw[show(x*(2*k+1)+k*7919)-(y*(2*k+1)+k*7919)=(x-y)*(2*k+1) by grind]at b;have j:(2*k+1).natAbs<200:=by omega
  exact S1 (a:=999999999989) rfl b (by omega) (by omega) (cop ⟨_,j⟩ (by grind))
 rcases Int.lt_trichotomy (codeOf p) (codeOf q)with b|b|b
 .exact(key _ _ d e d1 b h.symm).elim
 .exact b
 .exact(key _ _ e d c1 b h).elim
theorem Ip{p:Bs}(h:b8 p=ab)(n:Nat):strip (p++List.replicate n 46)=p:=by
 have e:∀n,List.dropWhile (·==46) ((List.replicate n (46:UInt8))++p.reverse)=p.reverse:=by
  intro n;induction n with
  |zero =>
   simp only[List.replicate_zero,ml];cases f:p.reverse with
   |nil=>rfl
   |cons b r =>
    have d:b∈p:=List.mem_reverse.1 (by grind);have:=gO h b d;have a:(b==46)=ae:=by simp only[eD];rintro rfl;grind
    simp[a]
  |succ n c=>simpa[List.replicate_succ]using c
 unfold strip;grind
def CP{p:Bs}(h:bt p=ab):eX (eT p)=aa p:=by
 have a:b8 p=ab:=by simp only[bt,bS]at h;exact h.2
 have e:eT p=p++List.replicate (cK p.length-p.length) 46:=by simp[eT,h]
 have s:strip (eT p)=p:=by grind[Ip]
 simp[eX,s,h]
section
open Go.Proofs
variable {X:Cx ag}
def Ky(k:Int):Ev X 40 [dI k] [] (dB (b6 k)) []:=by
 refine Ev.bQ Tryz.func40 rfl λc=>?_;by_cases a:1<=k
 .by_cases b:k<=99
  .refine aW [(4,ab),(7,ab)] rfl ?_ (AK.bx rfl ?_)
   .simp[a,b]
   .simp[b6,a,b]
  .refine aW [(4,ab),(7,ae)] rfl ?_ (AK.bx rfl ?_)
   .simp[a];omega
   .simp[b6,a,b]
 .refine aW [(4,ae)] rfl ?_ (AK.bx rfl ?_)
  .simp;omega
  .simp[b6,a]
def t40:eb X 40 (kq aI (λk=>dB (b6 k)) λ_=>[]):=.pD λk _=>Ky k
def Al{s:Bs}{i:Nat}(h:i<s.length):b8 (s.take (i+1))=(b8 (s.take i)&&eW (s.getD i 0)):=by unfold b8;grind[List.take_add_one]
def pE{b:UInt8}:eW b=ab↔97<=(b.toNat:Int)/\(b.toNat:Int)<=122:=by simp[eW];omega
def w5{s:Bs}{i:Nat}(h:i<s.length)(b:eW (s.getD i 0)=ae):b8 s=ae:=by
 cases a:b8 s with
 |false=>rfl
 |true =>
  have:=List.all_eq_true.1 a (s.getD i 0) (by grind);grind
def Cb(s:Bs):Ev X 121 [dS s] [] (dB (b8 s)) []:=by
 refine Ev.bQ Tryz.func121 rfl λg=>?_;have f:=g.str 0 rfl;refine bu rfl aw ?_;refine AK.wI (λi=>i<=s.length/\b8 (s.take i)=ab) (λi:Nat=>[(0,dS s),(5,dI s.length),(6,dI i)]) (λ_=>[]) (λi=>s.length-i) 0 rfl (by simp) ⟨by omega,by simp[b8]⟩ rfl ?_;rintro i ⟨hi,a⟩;by_cases h:i<s.length
 .by_cases b:cN s i<97
  .refine aW [(7,ab),(12,ab)] rfl ?_ (AK.iC (cw.zero rfl ?_))
   .simp[-an,h,cR,b]
   .have:eW (s.getD i 0)=ae:=by
     cases d:eW (s.getD i 0)with
     |false=>rfl
     |true=>have:=pE.1 d;unfold cN at b;omega
    simp[w5 h this]
  .by_cases c:cN s i<=122
   .refine aW [(7,ab),(12,ae),(17,ae)] rfl ?_ (AK.again (i+1) rfl ?_ ?_ ?_ rfl)
    .simp[-an,h,cR,b,c,bA];grind
    .simp
    .refine⟨by omega,?_⟩;rw[Al h,a,fH];exact pE.2 (by unfold cN at b c;omega)
    .omega
   .refine aW [(7,ab),(12,ae),(17,ab)] rfl ?_ (AK.iC (cw.zero rfl ?_))
    .simp[-an,h,cR,b];grind
    .have:eW (s.getD i 0)=ae:=by
      cases d:eW (s.getD i 0)with
      |false=>rfl
      |true=>have:=pE.1 d;unfold cN at c;omega
     simp[w5 h this]
 .have e:i=s.length:=by omega
  subst e;refine aW [(7,ae)] rfl (by simp) (AK.leave rfl rfl ?_);refine bu rfl aw (AK.bx rfl ?_);rw[dh]at a;simp[a]
def Vl:eb X 121 (kq aS (λs=>dB (b8 s)) λ_=>[]):=.pD λk _=>Cb k
abbrev tb1:List (Nat×dv):=[(40,kq aI (λk=>dB (b6 k)) λ_=>[]),(121,kq aS (λs=>dB (b8 s)) λ_=>[])]
def YK:bF X tb1:=.cons t40 (.cons Vl .nil)
def Cc(p:Bs):Ev X 139 [dS p] [] (dB (bt p)) []:=by
 refine Ev.bQ Tryz.func139 rfl λc=>?_;by_cases a:1<=p.length
 .by_cases b:p.length<=8
  .refine aV YK [(5,ab),(9,ab),(11,ab)] rfl ?_ (AK.bx rfl ?_)
   .simp;omega
   .simp[bt,a,b]
  .refine aV YK [(5,ab),(9,ae),(11,ae)] rfl ?_ (AK.bx rfl ?_)
   .simp;omega
   .simp[bt,a,b]
 .refine aV YK [(5,ae),(11,ae)] rfl ?_ (AK.bx rfl ?_)
  .simp;omega
  .simp[bt,a]
def t139:eb X 139 (kq aS (λs=>dB (bt s)) λ_=>[]):=.pD λk _=>Cc k
def Cd(n:Nat)(h:n<=4000000):Ev X 160 [dI n] [] (dI (cK n)) []:=by
 refine Ev.bQ Tryz.func160 rfl λe=>?_;by_cases c:n<1
 .refine aW [(5,ab),(9,ab)] rfl ?_ (AK.bx rfl ?_)
  .simp;omega
  .simp[cK,c]
 .by_cases b:8<n
  .refine aW [(5,ae),(8,ab)] rfl ?_ (AK.bx rfl ?_)
   .simp;omega
   .simp[cK,b]
  .refine aW [(5,ae),(8,ae)] rfl ?_ ?_
   .simp;omega
   have d:cK n=2∨cK n=4∨cK n=8:=by unfold cK;grind
   refine AK.wI (λi:Nat=>(i=2∨i=4∨i=8)/\i<=cK n) (λi:Nat=>[(0,dI n),(3,dI i)]) (λ_=>[]) (λi=>8-i) 2 rfl (by simp) ⟨by simp,by omega⟩ rfl ?_;rintro i ⟨hi,a⟩;by_cases h:i<n
   .refine aW [(12,ab)] rfl ?_ (AK.again (2*i) rfl ?_ ?_ ?_ rfl)
    .simp[bA];omega
    .simp;omega
    .unfold cK at a⊢;grind
    .omega
   .refine aW [(12,ae)] rfl (by simp;omega) (AK.leave rfl rfl ?_);refine bu rfl aw (AK.bx rfl ?_);have:i=cK n:=by unfold cK at a⊢;grind
    simp[this]
theorem Ep(s:Bs)(b:UInt8):strip (s++[b])=if b=46 then strip s else s++[b]:=by unfold strip;grind[List.dropWhile_cons]
def w6{s:Bs}{n:Nat}(h:n<s.length):strip (s.take (n+1))=if s.getD n 0=46 then strip (s.take n)else s.take (n+1):=by grind[List.take_add_one,Ep]
theorem Ce(s:Bs):Ev X 232 [dS s,dU 46] [] (dS (strip s)) []:=by
 refine Ev.bQ Tryz.func232 rfl λj=>?_;have h:=j.str 0 rfl;refine bu rfl aw ?_;refine AK.wI (λn=>n<=s.length/\strip (s.take n)=strip s) (λn:Nat=>[(0,dS (s.take n)),(1,dU 46)]) (λ_=>[]) (λn=>n) s.length rfl (by simp) ⟨by omega,by simp⟩ rfl ?_;rintro n ⟨k,a⟩;cases n with
 |zero =>
  refine aW [(7,ae),(16,ae)] rfl ?_ (AK.leave rfl rfl ?_)
  .simp
  refine bu rfl aw (AK.bx rfl ?_);have:strip s=[]:=by rw[<-a];rfl
  simp[this]
 |succ n =>
  have g:(s.take (n+1)).length=n+1:=by grind
  have f:cN (s.take (n+1)) n=cN s n:=by simp[cN,an,iN]
  have i:=w6 (s:=s) (n:=n) (by omega);have b:((n:Int)+1-1).toNat=n:=by omega
  by_cases d:s.getD n 0=46
  .refine aW [(7,ab),(15,ab),(16,ab)] rfl ?_ (AK.again n rfl ?_ ?_ ?_ rfl)
   .have c:cN s n=46:=by unfold cN;rw[d];rfl
    simp[-an,-List.length_take,g,cR,b,f,c,bA];omega
   .simp;show(s.take (n+1)).take _=_;grind
   .grind
   .omega
  .refine aW [(7,ab),(15,ae),(16,ae)] rfl ?_ (AK.leave rfl rfl ?_)
   .have c:cN s n≠46:=by unfold cN;intro e;exact d (od.1 (by grind))
    simp[-an,-List.length_take,g,cR,b,f,c,bA];omega
   refine bu rfl aw (AK.bx rfl ?_);rw[i,aY d]at a;simp[a]
def Vm:dv:=λargs σ=>match args,σ with
 |[.e (.one (.c (.str s))),.e (.one (.c (.int .u8 46)))],[]=>aa (dS (strip s),[],[])
 |_,_=>af
def t232:eb X 232 Vm:=by intro args σ res σ' obs h _;unfold Vm at h;grind[Ce]
theorem Om(s:Bs):Ev X 216 [dS s,dS [46]] [] (dS (strip s)) []:=by
 refine Ev.bQ Tryz.func216 rfl λb=>?_;by_cases h:s=[]
 .subst h;refine aV (bF.cons t232 .nil) [(8,ab),(12,ab)] rfl ?_ (AK.bx rfl ?_)
  .simp
  .simp[strip]
 .refine aV (bF.cons t232 .nil) [(8,ae),(11,ae),(12,ae),(16,ab),(20,ab),(21,ab)] rfl ?_ (AK.bx rfl)
  .cases s with
   |nil=>grind
   |cons a r=>simp;decide
def R8:dv:=λargs σ=>match args,σ with
 |[.e (.one (.c (.str s))),.e (.one (.c (.str [46])))],[]=>aa (dS (strip s),[],[])
 |_,_=>af
def t216:eb X 216 R8:=by intro args σ res σ' obs h _;unfold R8 at h;grind[Om]
def uv{p:Bs}{i:Nat}(h:i<p.length):codeOf (p.take (i+1))=27*codeOf (p.take i)+(cN p i-97) % 256+1:=by unfold codeOf;rw[lf,br h];simp only[List.foldl_append,Option.toList_some,lj,List.foldl_nil,cN,an,br h,ik]
def jQ{p:Bs}(h:bt p=ab){i:Nat}(hi:i<=p.length):0<=codeOf (p.take i)/\codeOf (p.take i)<282429536481:=by simp only[bt,bS,aZ]at h;obtain⟨a,q2⟩:=w7 (p.take i) 0 1 0 (λb c=>gO h.2 b (fP c)) (by omega) (by omega) (by omega);have:=Qk (n:=(p.take i).length) (by grind);rw[Int.one_mul]at q2;exact⟨a,Int.lt_of_lt_of_le q2 this⟩
def w8{p:Bs}{i:Nat}(h:i<p.length):p.getD i 0∈p:=by grind
abbrev tb2:List (Nat×dv):=[(40,kq aI (λk=>dB (b6 k)) λ_=>[]),(139,kq aS (λs=>dB (bt s)) λ_=>[])]
def sY:bF X tb2:=.cons t40 (.cons t139 .nil)
abbrev YL(n:Int):D:=.fa [.one (.c (.int .i64 n)),.one (.c .iw)]
def Kz(k:Int)(p:Bs)(hk:b6 k=ab)(b:bt p=ab):Ev X 92 [dI k,dS p] [] (YL (ek k p)) []:=by
 refine Ev.bQ Tryz.func92 rfl λq=>?_;have a:=b;simp only[bt,bS,aZ]at a;have c:=hk;simp only[b6,bS,aZ]at c;refine aV sY [(8,ae),(13,ae)] rfl (by simp[hk,b]) ?_;refine AK.wI (λi=>i<=p.length) (λi:Nat=>[(0,dI k),(1,dS p),(6,dI (codeOf (p.take i))),(19,dI p.length),(20,dI i)]) (λ_=>[]) (λi=>p.length-i) 0 rfl (by simp[codeOf]) (by omega) rfl ?_;intro i hi;by_cases h:i<p.length
 .have f:=jQ b hi;have o:=jQ b (i:=i+1) (by omega);have e:=uv h;refine aW [(21,ab)] rfl ?_ (AK.again (i+1) rfl ?_ ?_ ?_ rfl)
  .simp only[ay,cR,bA];simp[-an,h,cR];have l:=gO a.2 (p.getD i 0) (w8 h);have d:97<=cN p i/\cN p i<=122:=by unfold cN;omega
   omega
  .have l:=gO a.2 (p.getD i 0) (w8 h);have d:97<=cN p i/\cN p i<=122:=by unfold cN;omega
   have j:(cN p i-97) % 256=cN p i-97:=Int.emod_eq_of_lt (by omega) (by omega);rw[j]at e;simp[-an,cR,e]
  .grind
  grind
 .have e:i=p.length:=by omega
  subst e;have f:=qv b;refine aW [(21,ae)] rfl (by simp) (AK.leave rfl rfl ?_);refine bu rfl ?_ (AK.bx rfl ?_)
  .rw[dh];have n:0<=codeOf p*(2*k+1):=Int.mul_nonneg f.1 (by omega);have g:codeOf p*(2*k+1)<=282429536481*199:=Int.mul_le_mul (by omega) (by omega) (by omega) (by omega);generalize codeOf p*(2*k+1)=m at n g;simp only[ay,bA];simp;omega
  .rw[dh];refine ay.cat.2 ⟨?_,ay.cat.2 ⟨rfl,aw⟩⟩;show(_:Int)=_;rw[Int.mul_comm 7919 k];rfl
def t92:eb X 92 (oX aI aS (λk p=>YL (ek k p)) λk p=>[b6 k=ab,bt p=ab]):=.sC λk p h=>Kz k p h.1 h.2
def Er{P:aq}{o:ar}{j:ak->D}{σ:List aP}{op:BinOp}{t ty:aj}{x:ak}(h:o.op=.binOp op t x (.const .nilIface) ty){c:Bool}{q:Array (String×aj)}(n:P.underlying t=aa (.interface q))(r:j x=.e (.one (.c .iw)))(p:j (.const .nilIface)=.e (.one (.c .iw)))(k:ja op ab=aa c):bG P o j σ (.e (.one (.c (.bool c)))) σ:=by
 refine .quiet λs m u l=>?_;have g:=l x;have d:=l (.const .nilIface);rw[r]at g;rw[p]at d;replace g:=eY g;replace d:=eY d;generalize a:m x=vx at g;generalize b:m (.const .nilIface)=vy at d;cases g;cases d;have i:(Op.equal t .nilIface .nilIface).run P s.w=.ok ab s.w:=by show(aX (9999+1) t _ _).run P s.w=_;unfold aX;simp[underlying,n]
 have f:∀es,(Op.equal t .nilIface .nilIface).events P s.w es=es:=λes=>by show(aX (9999+1) t _ _).events P s.w es=es;unfold aX;simp[underlying,n]
 cases op<;>simp only[ja,reduceCtorEq,dr]at k
 .subst k;exact⟨.bool ab,by simp[av,h,a,b,eqGuard,binOp,i],Rd.bool,by simp[av,h,a,b,eqGuard,binOp,i,f]⟩
 .subst k;exact⟨.bool ae,by simp[av,h,a,b,eqGuard,binOp,i],Rd.bool,by simp[av,h,a,b,eqGuard,binOp,i,f]⟩
def HE(k:Int)(p:Bs)(n:Int)(hk:b6 k=ab)(a:bt p=ab):Ev X 190 [dI k,dS p,dI n] [] (dB (ek k p==n)) []:=by
 refine Ev.bQ Tryz.func190 rfl λb=>?_;refine aV (bF.cons t92 .nil) [(17,ab)] rfl ?_ ?_
 .simp[hk,a]
 refine AK.law (Er rfl Tryz.underlying57 rfl rfl rfl) rfl rfl ?_;refine aV (bF.cons t92 .nil) [(17,ab)] rfl ?_ (AK.bx rfl ?_)
 .rfl
 .rfl
def t190:eb X 190 (Et aI aS aI (λk p n=>dB (ek k p==n)) λk p _=>[b6 k=ab,bt p=ab]):=.KA λk p n h=>HE k p n h.1 h.2
abbrev nC:dv:=kq aS (λp=>dS (eT p)) λ_=>[]
abbrev Am(r:Option Bs):D:=.fa [.one (.c (.str (r.getD []))),.one (.c (.bool r.isSome))]
def Eu(c:eb X 126 nC)(b:Bs):Ev X 189 [dS b] [] (Am (eX b)) []:=by
 refine Ev.bQ Tryz.func189 rfl λf=>?_;have e:bF X [(216,R8),(139,kq aS (λs=>dB (bt s)) λ_=>[]),(126,nC)]:=.cons t216 (.cons t139 (.cons c .nil));by_cases a:bt (strip b)=ab
 .by_cases d:eT (strip b)=b
  .refine aV e [(10,ae),(15,ae)] rfl ?_ (AK.bx rfl ?_)
   .simp[a,d]
   .simp[eX,a,d]
  .refine aV e [(10,ae),(15,ab)] rfl ?_ (AK.bx rfl ?_)
   .simp[a,d]
   .simp[eX,a,d]
 .refine aV e [(10,ab),(15,ab)] rfl ?_ (AK.bx rfl ?_)
  .simp[a]
  .simp[eX,a]
def Vn(a:eb X 126 nC):eb X 189 (kq aS (λb=>Am (eX b)) λ_=>[]):=.pD λb _=>Eu a b
def w9{b p:Bs}(h:eX b=aa p):bt p=ab:=by unfold eX at h;grind
abbrev YM(x:bm):D:=TU.enc x
def KB(c:eb X 126 nC)(x:bm)(k:Int)(hk:b6 k=ab):Ev X 150 [YM x,dI k] [] (Am (chunk k x)) []:=by
 refine Ev.bQ Tryz.func150 rfl λg=>?_;have e:bF X [(189,kq aS (λb=>Am (eX b)) λ_=>[]),(190,Et aI aS aI (λk p n=>dB (ek k p==n)) λk p _=>[b6 k=ab,bt p=ab])]:=.cons (Vn c) (.cons t190 .nil);cases a:eX x.2 with
 |none =>
  refine aV e [(16,ab),(23,ab)] rfl ?_ (AK.bx rfl ?_)
  .simp[a]
  .simp[chunk,a]
 |some p =>
  have f:=w9 a;by_cases d:ek k p=x.1
  .refine aV e [(16,ae),(23,ae)] rfl ?_ (AK.bx rfl ?_)
   .simp[a,d,hk,f]
   .simp[chunk,a,d,hk]
  .refine aV e [(16,ae),(23,ab)] rfl ?_ (AK.bx rfl ?_)
   .simp[a,d,hk,f]
   .simp[chunk,a,d,hk]
def KC(a:eb X 126 nC):eb X 150 (oX TU aI (λx k=>Am (chunk k x)) λ_ k=>[b6 k=ab]):=.sC λx k h=>KB a x k h
end
end Go.AM.R1
namespace Go.AM
section
open Go.Conc (G)
section
variable {P:aq}{X:Cx P}
def Yields{ι:Type}(X:Cx P)(d:Nat)(ds:List D)(σ:List aP)(res:Bool)(σ':ι->List aP):Prop :=
 ∀s (vs:List ah) (l:Nat),ck σ s vs ds->aE σ s->(∃L,s.β[d]?=aa L/\L.v=.func (.yield l) #[] #[]) ->
  ∃fn tmps assign body,(Instr.yield l vs.toArray).run P s.w=.ok (.round l fn tmps assign body) s.w/\(Instr.yield l vs.toArray).events P s.w #[]=#[⟨.obj l,ae,ae⟩] /\
  ∀(S:au->St->Prop) (c:aR) (cs:List aR),(∀i s',aE (σ' i) s'->cU σ s (σ' i) s'->fE X S (G (c.finish (.bool res)) cs) s') ->
   fE X S (G (Frame.round l fn tmps assign body .normal) (c::cs)) s
def mD{w:az}{l:Nat}{r:Loop}(h:w.heap[l]?=aa (.loop r)):(Instr.getLoop l).run P w=.ok r w/\∀es,(Instr.getLoop l).events P w es=es.push ⟨.obj l,ae,ae⟩:=by
 have c:(getObj l).run P w=.ok (.loop r) w:=by simp only[getObj,Sem.run,h]
 have d:∀es,(getObj l).events P w es=es.push ⟨.obj l,ae,ae⟩:=λes=>by simp only[getObj,Sem.events,Sem.runT,h];rfl
 constructor
 .simp[Instr.getLoop,c]
 .intro es;simp[Instr.getLoop,c,d]
def pv{w:az}{l:Nat}{r r':Loop}(h:w.heap[l]?=aa (.loop r)):(setObj l (.loop r')).run P w=.ok () {w with heap:=w.heap.setIfInBounds l (.loop r')}/\∀es,(setObj l (.loop r')).events P w es=es.push ⟨.obj l,ab,ae⟩:=by
 constructor
 .simp only[setObj,Sem.run,h]
 .intro es;simp only[setObj,Sem.events,Sem.runT,h];rfl
def Ht{w:az}{l:Nat}{r:Loop}{args:Array ah}(h:w.heap[l]?=aa (.loop r))(c:args.size=r.params.size):
  (Instr.yield l args).run P w=.ok (.round l r.fn ((r.params.zip args).foldl (λtmps (t,a)=>tmps.setIfInBounds t a) r.tmps) r.assign r.body) w/\(Instr.yield l args).events P w #[]=#[⟨.obj l,ae,ae⟩]:=by
 obtain⟨d,e⟩:=mD (P:=P) h;constructor
 .simp[Instr.yield,d,c]
 .simp[Instr.yield,d,e,c]
def Hu{w:az}{l:Nat}{r:Loop}(h:w.heap[l]?=aa (.loop r))(d:r.state=.ready):
  (Instr.beginRound l).run P w=.ok () {w with heap:=w.heap.setIfInBounds l (.loop {r with state:=.busy})}/\(Instr.beginRound l).events P w #[]=#[⟨.obj l,ae,ae⟩,⟨.obj l,ab,ae⟩]:=by
 obtain⟨e,f⟩:=mD (P:=P) h;obtain⟨c,g⟩:=pv (P:=P) (r':={r with state:=.busy}) h;constructor
 .simp[Instr.beginRound,e,c,d]
 .simp[Instr.beginRound,e,f,c,g,d]
def zV{w:az}{l:Nat}{r:Loop}(h:w.heap[l]?=aa (.loop r))(j:Option Code):
  (Instr.endRound l j).run P w=.ok (.bool j.isNone) {w with heap:=w.heap.setIfInBounds l (.loop {r with state:=if j.isNone then .ready else .done,pending:=j})}/\(Instr.endRound l j).events P w #[]=#[⟨.obj l,ae,ae⟩,⟨.obj l,ab,ae⟩]:=by
 obtain⟨d,e⟩:=mD (P:=P) h;obtain⟨c,f⟩:=pv (P:=P) (r':={r with state:=if j.isNone then .ready else .done,pending:=j}) h;constructor
 .simp only[Instr.endRound,bO,d,c,bX,dt]
 .simp only[Instr.endRound,aK,d,e,c,f,aO,Sem.events_pure];rfl
def BK{w:az}{l:Nat}{r:Loop}(h:w.heap[l]?=aa (.loop r))(c:r.state≠.busy):
  (Instr.endLoop l).run P w=.ok r.pending {w with heap:=w.heap.setIfInBounds l (.loop {r with state:=.exhausted})}/\(Instr.endLoop l).events P w #[]=#[⟨.obj l,ae,ae⟩,⟨.obj l,ab,ae⟩]:=by
 obtain⟨d,e⟩:=mD (P:=P) h;obtain⟨f,g⟩:=pv (P:=P) (r':={r with state:=.exhausted}) h;have j:(r.state==.busy)=ae:=by cases i:r.state<;>simp_all
 constructor
 .simp[Instr.endLoop,d,f,c]
 .simp[Instr.endLoop,d,e,g,c]
section steps
variable {b:aR}{a:Act}{k:List Item}{cs:List aR}{w:az}{main:Bool}
def BL{o:ar}{g:ak}{xs:Array ak}{c:Array aj}{l:Nat}(e:o.op=.call {callee:=.value g,args:=xs,argTypes:=c})(d:a.eval g=.func (.yield l) #[] #[]):
  (av a.eval o).run P w=(Instr.yield l (xs.toList.map a.eval).toArray).run P w/\(av a.eval o).events P w #[]=(Instr.yield l (xs.toList.map a.eval).toArray).events P w #[]:=by
 have f:xs.map a.eval=(xs.toList.map a.eval).toArray:=by grind
 constructor
 .simp[av,e,resolve,d,Deferred.ofValue,invoke,f]
 .simp[av,e,resolve,d,Deferred.ofValue,invoke,f]
def JV{ops:Array ar}{i:Nat}{rest:List Nat}{o:ar}{l:Nat}{fn:aH}{tmps:Array ah}{assign body:Code}{w':az}(f:ops[i]?=aa o)(g:bc o (yielded ops a.tmps)=ab)(hk:b.kind≠.early)(e:(av a.eval o).run P w=.ok (.round l fn tmps assign body) w'):
  aG P main (G (b.aT a (.inRegion ops (i::rest)::k)) cs) w=.go (G (Frame.round l fn tmps assign body .normal) (b.aT a (.inRegion ops (i::rest)::k)::cs)) w' (Go.Conc.listed P b.fn a o w):=by
 have d:(b.kind==CallKind.early)=ae:=by grind
 rw[vd f g (λc h=>by grind[rU])];simp[stepG.apply,e,G,Frame.aT,d,GStep.after,Go.Conc.listed]
def JW{l:Nat}{r:Loop}(f:b.roundOf=aa l)(hk:b.kind≠.early)(h:w.heap[l]?=aa (.loop r))(e:r.state=.ready):
  aG P main (G (b.aT a (.beginRound::k)) cs) w=.go (G (b.aT a k) cs) {w with heap:=w.heap.setIfInBounds l (.loop {r with state:=.busy})} (seen P b.fn #[⟨.obj l,ae,ae⟩,⟨.obj l,ab,ae⟩]):=by
 obtain⟨g,d⟩:=Hu (P:=P) h e;have c:(b.kind==CallKind.early)=ae:=by grind
 simp[G,aG,stepG.exec,stepG.apply,Frame.aT,f,c,g,d,GStep.after,Frame.finish]
def BM{l:Nat}{r:Loop}{j:Option Code}{e:List Item}{c:aR}(g:b.roundOf=aa l)(hk:b.kind=.normal)(h:w.heap[l]?=aa (.loop r))(m:(j=af/\e=[])∨(j=aa .ret/\∃k1,e=.code .ret::k1)∨(∃id k1,j=aa (.exit id)/\e=.code (.exit id)::k1/\exitTo id k1=af)):
  aG P main (G (b.aT a e) (c::cs)) w=.go (G (c.finish (.bool j.isNone)) cs) {w with heap:=w.heap.setIfInBounds l (.loop {r with state:=if j.isNone then .ready else .done,pending:=j})} (seen P b.fn #[⟨.obj l,ae,ae⟩,⟨.obj l,ab,ae⟩]):=by
 obtain⟨d,f⟩:=zV (P:=P) h j;rcases m with⟨rfl,rfl⟩|⟨rfl,k1,rfl⟩|⟨id,k1,rfl,rfl,i⟩
 .simp only[Option.isNone_none,cn]at d;simp[G,aG,stepG.exec,Frame.aT,g,d,f,GStep.after,doReturn,hk]
 .simp only[Option.isNone_some,b9,jy]at d;simp[G,aG,stepG.exec,Frame.aT,g,d,f,GStep.after,doReturn,hk]
 .simp only[Option.isNone_some,b9,jy]at d;simp[G,aG,stepG.exec,Frame.aT,g,d,f,GStep.after,doReturn,hk,i]
def D3{l:Nat}{r:Loop}(h:w.heap[l]?=aa (.loop r))(d:r.state≠.busy):
  aG P main (G (b.aT a (.endRangeFunc l::k)) cs) w=.go (G (b.aT a ((r.pending.map Item.code).toList++k)) cs) {w with heap:=w.heap.setIfInBounds l (.loop {r with state:=.exhausted})} (seen P b.fn #[⟨.obj l,ae,ae⟩,⟨.obj l,ab,ae⟩]):=by obtain⟨e,c⟩:=BK (P:=P) h d;simp[G,aG,stepG.exec,Frame.aT,e,c,GStep.after]
def x5{fn:aH}{tmps:Array ah}{params:Array Tmp}{assign body:Code}:
  (Instr.enterLoop fn tmps params assign body af).run P w=.ok (w.heap.size+1,[{target:=.collected w.heap.size,args:=#[]}]) {w with heap:=(w.heap.push (.deferred (aa []))).push (.loop {state:=.ready,pending:=af,fn,tmps,params,assign,body,defers:=w.heap.size})} /\
  (Instr.enterLoop fn tmps params assign body af).events P w #[]=#[]:=by
 have c:∀(o:Obj) (w:az),(newObj o).run P w=.ok w.heap.size {w with heap:=w.heap.push o}:=λo w=>by simp only[newObj,Sem.run]
 have d:∀(o:Obj) (w:az) es,(newObj o).events P w es=es:=λo w es=>by simp only[newObj,Sem.events,Sem.runT]
 constructor
 .simp[Instr.enterLoop,c];rfl
 .simp[Instr.enterLoop,c,d]
def zW{f:ak}{ps:Array Tmp}{assign body:Code}{F:aH}{fn:Func}{c:List ah}(q:b.roundOf=af)(hk:b.kind≠.early)(h:P.funcs[F]?=aa fn)(l:(fn.name== "runtime.NumGoroutine")=ae)(j:fn.body.isNone=ae)(p:a.eval f=.func (.func F) #[] c.toArray):
  aG P main (G (b.aT a (.code (.rangeFunc f ps assign body)::k)) cs) w =
   .go (G (Frame.enter P F (Value.func (.yield (w.heap.size+1)) #[] #[]::c).toArray .normal) (b.aT {a with defers:={target:=.collected w.heap.size,args:=#[]}::a.defers} (.inRangeFunc (w.heap.size+1)::k)::cs))
    {w with heap:=(w.heap.push (.deferred (aa []))).push (.loop {state:=.ready,pending:=af,fn:=b.fn,tmps:=a.tmps,params:=ps,assign,body,defers:=w.heap.size})} #[]:=by
 obtain⟨r,o⟩:=x5 (P:=P) (w:=w) (fn:=b.fn) (tmps:=a.tmps) (params:=ps) (assign:=assign) (body:=body);have i:(b.kind==CallKind.early)=ae:=by grind
 have g:fn.name≠ "runtime.NumGoroutine":=by grind
 have e:fn.body≠af:=by grind
 have n:∀(d:List Deferred) (t:List Item) (m:FrameMode),({fn:=b.fn,tmps:=a.tmps,todo:=t,defers:=d,mode:=m,kind:=b.kind,roundOf:=b.roundOf}:aR).eval f=.func (.func F) #[] c.toArray:=by intro d t m;rw[<-p];cases f<;>rfl
 simp only[G,aG,stepG.exec,Frame.aT,q]at n⊢;simp[r,o,GStep.after,stepG.apply,resolve,n,Deferred.ofValue,invoke,callFunc,h,g,e,i,seen];rfl
end steps
end
section
variable {P:aq}{X:Cx P}
def aE.zX{σ:List aP}{s:St}(hh:aE σ s){a N:Nat}{φ0:Fr}{r:Loop}(hB:σ[a]?=aa (.loop N φ0 r)){l:Nat}(hl:∃L,s.β[a]?=aa L/\L.v=.func (.yield l) #[] #[]):
  ∃tmps fn df,s.β[a]?=aa ⟨.func (.yield l) #[] #[],[l]⟩/\s.w.heap[l]?=aa (.loop {r with tmps:=tmps,fn:=fn,defers:=df})/\tmps.size=N/\(∀t,dn σ s (tmps.getD t ai) (look φ0 t))/\(∀o,s.M l o=af):=by obtain⟨L,h1,h2⟩:=hl;obtain⟨l',tmps,fn,df,b,e,f,c,d⟩:=hh.box a _ L hB h1;grind
def aE.zY{σ:List aP}{s:St}(hh:aE σ s){a N:Nat}{φ0:Fr}{r r':Loop}{B':aP}(hB:σ[a]?=aa (.loop N φ0 r)){l:Nat}{tmps:Array ah}{fn df:Nat}(k:s.β[a]?=aa ⟨.func (.yield l) #[] #[],[l]⟩)(A:s.w.heap[l]?=aa (.loop {r with tmps:=tmps,fn:=fn,defers:=df}))(x:tmps.size=N)(f:∀t,dn σ s (tmps.getD t ai) (look φ0 t))(n:∀o,s.M l o=af)(c:B'=.dead∨B'=.loop N φ0 r'):
  aE (σ.set a B') {s with w:={s.w with heap:=s.w.heap.setIfInBounds l (.loop {r' with tmps:=tmps,fn:=fn,defers:=df})}}/\Step σ s (σ.set a B') {s with w:={s.w with heap:=s.w.heap.setIfInBounds l (.loop {r' with tmps:=tmps,fn:=fn,defers:=df})}}:=by
 have y:l<s.w.heap.size:=hh.lt _ (bJ k) l (by simp);have hk:∀b,b≠l->(s.w.heap.setIfInBounds l (.loop {r' with tmps:=tmps,fn:=fn,defers:=df}))[b]?=s.w.heap[b]?:=λb j=>by grind
 have u:s.β.set a ⟨.func (.yield l) #[] #[],[l]⟩=s.β:=by apply iO;grind
 have m:a<σ.length:=(bZ.1 hB).1;have d:gA (.loop N φ0 r) ⟨.func (.yield l) #[] #[],[l]⟩ B' ⟨.func (.yield l) #[] #[],[l]⟩:=by rcases c with rfl|rfl<;>rfl
 have ex:Ext σ s (σ.set a B') {s with w:={s.w with heap:=s.w.heap.setIfInBounds l (.loop {r' with tmps:=tmps,fn:=fn,defers:=df})}}:=by
  refine⟨λ_ _ _ h=>h,λi B L p g=>?_⟩;by_cases e:a=i
  .grind
  .exact⟨B,L,by grind,g,.refl _ _⟩
 have:=hh.gB (M':=s.M) (w':={s.w with heap:=s.w.heap.setIfInBounds l (.loop {r' with tmps:=tmps,fn:=fn,defers:=df})}) (B':=B') (L':=⟨.func (.yield l) #[] #[],[l]⟩) hB k d (by simp) (λb _ j=>hk b (by grind)) (λ_ _ _ _=>rfl) (λ_ _ _ h=>h)
  (λb o v q=>by
   have z:b≠l:=by grind
   rw[<-hh.mem b o v q];simp only[aU]
   grind) (λb j=>by grind) rfl rfl rfl (by
   rcases c with rfl|rfl
   .trivial
   .refine⟨l,tmps,fn,df,rfl,?_,x,λt=>?_,n⟩
    .grind
    .have:=(f t).mono ex hh.len
     grind)
 grind
def AK.yield{ι:Type}{N:Nat}{Qf:Post}{K:List It}{φ:Fr}{σ:List aP}{σ':ι->List aP}{all rest:List ar}{o:ar}{E:ak}{xs:Array ak}{A:Array aj}{h:Nat}{ds:List D}{res:Bool}(Q:Yields X h ds σ res σ')(O:o.guard=af)(Z:fW N o.dst=ab)(J:o.op=.call {callee:=.value E,args:=xs,argTypes:=A}){N0:Nat}{φ0:Fr}{r:Loop}(v:σ[h]?=aa (.loop N0 φ0 r))(V:bP φ E=.e (.one (.ref h)))(u:xs.toList.map (bP φ)=ds)(k:∀j,AK X N Qf (.ops all rest::K) .normal (kl o.dst (.e (.one (.c (.bool res)))) φ) (σ' j)):AK X N Qf (.ops all (o::rest)::K) .normal φ σ:=by
 intro s a f hh b kk cs S idx hb jk hQ;cases idx with
 |nil=>exact jk.elim
 |cons j idx =>
 refine .next rfl λi C=>?_;have x:=X.iv C;have d:=hh.rely x;have B:=f.rely x hh;have F:=c7 B E;rw[V]at F;obtain⟨_,L,y,n,_⟩:=(show gu _ i _ (.ref h)from F)
 obtain⟨l,tmps,fn,df,H,h4,h5,h6,h7⟩:=d.box h _ L v y;subst H;have p:ck σ i (xs.toList.map a.eval) ds:=by grind[lI,c7]
 obtain⟨fn2,z,assign,body,R,M,I⟩:=Q i (xs.toList.map a.eval) l p d ⟨_,y,rfl⟩;obtain⟨U,T⟩:=BL (P:=P) (w:=i.w) (a:=a) J n;refine⟨_,i,_,JV jk.1 (dC O) hb (U.trans R),⟨⟨σ,σ,d,d,.refl _ _⟩,fb.seen ?_⟩,I S _ _ λG s' iX st=>?_⟩
 .rw[T,M];exact .one (pf (L:=⟨.func (.yield l) #[] #[],[l]⟩) (bJ y) (by simp))
 have g:=kh (b:=b) (a:=a) (k:=kk) all.toArray j idx (.bool res);rw[jk.1]at g;simp only[n7]at g;rw[g];refine k G s' _ ?_ iX b kk cs S idx hb jk.2 λm σ2 s2 a2 q Y h2 nV=>hQ m σ2 s2 a2 q Y h2 ((x.stepW.trans st).trans nV);cases W:o.dst with
 |none=>exact B.mono st d.len
 |some t=>exact(B.mono st d.len).put (gC Z t W) (show dn (σ' G) s' (.bool res) (.e (.one (.c (.bool res))))from Rd.bool)
def rn:List Tmp->List D->Fr->Fr
 |t::ts,d::ds,φ=>rn ts ds ((t,d)::φ)
 |_,_,φ=>φ
def N1(N:Nat):List Tmp->Bool
 |[]=>ab
 |t::ts=>match bw (t+1) N with|true=>N1 N ts|false=>ae
def F4{N:Nat}{σ:List aP}{s:St}:∀{ps:List Tmp}{ds:List D}{vs:List ah}{φ:Fr}{a:Act},cq N σ s φ a->ck σ s vs ds->N1 N ps=ab->cq N σ s (rn ps ds φ) {a with tmps:=(ps.zip vs).foldl (λtmps (t,v)=>tmps.setIfInBounds t v) a.tmps}
 |[],ds,vs,φ,a,h,_,_=>by simpa[rn]using h
 |_::_,[],[],φ,a,h,_,_=>by simpa[rn]using h
 |_::_,[],_::_,φ,a,h,b,_=>b.elim
 |_::_,_::_,[],φ,a,h,b,_=>b.elim
 |t::ts,d::ds,v::vs,φ,a,h,b,c=>by
  simp only[N1]at c;split at c
  .rename_i e;have:=F4 (h.put (d:=t) (cZ e) b.1) b.2 c;simpa[rn,Act.put]using this
  grind
def RG:Exit->Option (Option Code)
 |.normal=>aa af
 |.ret=>aa (aa .ret)
 |.exit id=>aa (aa (.exit id))
 |_=>af
def Yields.intro{ι:Type}{f N:Nat}{φ0:Fr}{r:Loop}{ds:List D}{σ:List aP}{σ':ι->List aP}{j:Option Code}(o:σ[f]?=aa (.loop N φ0 r))(FZ:r.state=.ready)(hlen:ds.length=r.params.size)(R:N1 N r.params.toList=ab)(h:AW X N r.assign (λe I σ1=>e=.normal/\σ1[f]?=aa (.loop N φ0 r)/\AW X N r.body (λe φ2 σ2=>RG e=aa j/\σ2[f]?=aa (.loop N φ0 {r with state:=.busy}) /\
   ∃i,D4 (σ2.set f (.loop N φ0 {r with state:=if j.isNone then .ready else .done,pending:=j})) (σ' i)) I (σ1.set f (.loop N φ0 {r with state:=.busy}))) (rn r.params.toList ds φ0) σ):Yields X f ds σ j.isNone σ':=by
 intro s vs l O hh hl;obtain⟨tmps,fn,df,h1,h2,h3,h4,h5⟩:=hh.zX o hl;have PN:vs.length=r.params.size:=by grind[ck.get]
 obtain⟨y1,y2⟩:=Ht (P:=P) (args:=vs.toArray) h2 (by grind);refine⟨_,_,_,_,y1,y2,λS c cs hS=>?_⟩;let b:aR:={fn:=fn,tmps:=#[],todo:=[],defers:=[],mode:=.run,kind:=.normal,roundOf:=aa l}
 have M:b.kind≠.early:=by simp[b]
 have hf:cq N σ s (rn r.params.toList ds φ0) {tmps:=(r.params.zip vs.toArray).foldl (λtmps (t,a)=>tmps.setIfInBounds t a) tmps,defers:=[]}:=by
  have:=F4 (a:={tmps:=tmps,defers:=[]}) (φ:=φ0) ⟨h3,⟨[],aw⟩,h4⟩ O R;have e:(r.params.zip vs.toArray).foldl (λtmps (x:Tmp×ah)=>tmps.setIfInBounds x.1 x.2) tmps=(r.params.toList.zip vs).foldl (λtmps (x:Tmp×ah)=>tmps.setIfInBounds x.1 x.2) tmps:=by rw[<-Array.foldl_toList];simp
  grind
 show fE X S (G (b.aT {tmps:=(r.params.zip vs.toArray).foldl (λtmps (t,a)=>tmps.setIfInBounds t a) tmps,defers:=[]} [.code r.assign,.beginRound,.code r.body]) (c::cs)) s;refine h s _ hf hh b [.beginRound,.code r.body] (c::cs) S M ?_;rintro e I σ1 s1 a1 ⟨rfl,p,q⟩ f1 y B;refine .next rfl λs2 sX=>?_;have J:=X.iv sX;have g:=y.rely J;have f2:=f1.rely J y;have T:∃L,s2.β[f]?=aa L/\L.v=.func (.yield l) #[] #[]:=by obtain⟨B',L',k1,U,V⟩:=(B.trans J.stepW).box f _ _ o h1;rw[p]at k1;cases k1;exact⟨L',U,V⟩
 obtain⟨aag,fn2,Xb,g1,g2,g3,g4,g5⟩:=g.zX p T;have K:=g.zY (r':={r with state:=.busy}) p g1 g2 g3 g4 g5 (.inr rfl);have H:∀{s:St} {σ:List aP} {L:Loc},s.β[f]?=aa L->L.bs=[l]->fb s #[⟨.obj l,ae,ae⟩,⟨.obj l,ab,ae⟩]:=λ{s σ L} hL M =>
  .two (pf (bJ hL) (by grind)) (pf (bJ hL) (by grind))
 refine⟨_,_,_,JW (l:=l) rfl M g2 FZ,⟨⟨_,_,g,K.1,K.2⟩,fb.seen (H (σ:=σ1) g1 rfl)⟩,?_⟩;have C:=K.2.na g;have Z:=K.1;refine q _ a1 (f2.mono C g.len) Z b [] (c::cs) S M ?_;rintro e φ3 Q s3 a3 ⟨hj,n,ii,F⟩ f3 u W;have stA:=((B.trans J.stepW).trans C).trans W;have fin:∀E k,cp s3 k->((j=af/\E=[])∨(j=aa .ret/\∃k1,E=.code .ret::k1)∨(∃id k1,j=aa (.exit id)/\E=.code (.exit id)::k1/\exitTo id k1=af)) ->
   ∃g' s' es,aG P X.main (G (b.aT a3 E) (c::cs)) k.w=.go g' s'.w es/\qW k s' es/\fE X S g' s':=by
  intro E k d Y;have m:=u.rely d;have z:∃L,k.β[f]?=aa L/\L.v=.func (.yield l) #[] #[]:=by obtain⟨B',L',k1,U,V⟩:=(stA.trans d.stepW).box f _ _ o h1;rw[n]at k1;cases k1;exact⟨L',U,V⟩
  obtain⟨aah,fn5,df5,p1,p2,p3,p4,p5⟩:=m.zX n z;have A:=m.zY (r':={r with state:=if j.isNone then .ready else .done,pending:=j}) n p1 p2 p3 p4 p5 (.inr rfl);obtain⟨p7,p8,_⟩:=F _ A.1;exact⟨_,_,_,BM (l:=l) rfl rfl p2 Y,⟨⟨_,_,m,A.1,A.2⟩,fb.seen (H (σ:=Q) p1 rfl)⟩,hS ii _ p7 (((stA.trans d.stepW).trans (A.2.na m)).trans (p8.na A.1))⟩
 cases e with
 |normal =>
  cases hj;exact .next rfl λk d=>fin [] k (X.iv d) (.inl ⟨rfl,rfl⟩)
 |ret =>
  cases hj;intro pre;exact .next rfl λk d=>fin _ k (X.iv d) (.inr (.inl ⟨rfl,pre,rfl⟩))
 |exit id =>
  cases hj;intro pre hp;refine .next rfl λk d=>fin _ k (X.iv d) (.inr (.inr ⟨id,_,rfl,rfl,?_⟩));have:=hp [];simpa[exitTo]using this
 |_=>cases hj
end
def kV{P:aq}(X:Cx P)(N:Nat)(c:Code)(Q:Post)(φ:Fr)(σ:List aP):Prop :=
 ∀s a,cq N σ s φ a->aE σ s->∀(b:aR) (k:List Item) (cs:List aR) (S:au->St->Prop),b.kind≠.early->b.roundOf=af ->
  (∀e φ' σ' s' a',Q e φ' σ'->cq N σ' s' φ' a'->aE σ' s'->cU σ s σ' s'->ends X S b k cs e a' s')->fE X S (G (b.aT a (.code c::k)) cs) s
section
variable {P:aq}{X:Cx P}{N:Nat}{Q:Post}{φ:Fr}{σ:List aP}
def AW.top{c:Code}(h:AW X N c Q φ σ):kV X N c Q φ σ:=λs a f hh b k cs S e _ d=>h s a f hh b k cs S e d
theorem kV.seq{x y:Code}(h:kV X N x (BN (kV X N y Q) Q) φ σ):kV X N (.seq x y) Q φ σ:=by
 intro s a n hh b k cs S j d g;refine .ctl hh rfl (λ_=>oi) λm h1=>?_;refine h m a (n.rely h1 hh) (hh.rely h1) b (.code y::k) cs S j d ?_;intro e φ' σ' s' a' q i l st;have c:=h1.stepW.trans st;cases e with
 |normal=>exact q s' a' i l b k cs S j d λe f σ2 s2 a2 q2 f2 h2 nV=>g e f σ2 s2 a2 q2 f2 h2 (c.trans nV)
 |_=>exact ends.cons (λ_ _=>rfl) (by simp) (g _ _ _ _ _ q i l c)
theorem kV.block{id:Nat}{c:Code}(h:kV X N c (wG id Q) φ σ):kV X N (.block id c) Q φ σ:=by
 intro s a p hh b k cs S n j g;refine .ctl hh rfl (λ_=>rS) λm h1=>?_;refine h m a (p.rely h1 hh) (hh.rely h1) b (.inBlock id::k) cs S n j ?_;intro e φ' σ' s' a' q i f st;have d:=h1.stepW.trans st;cases e with
 |normal =>
  exact .ctl f rfl (λ_=>qY) λs2 h2=>g .normal φ' σ' s2 a' q (i.rely h2 f) (f.rely h2) (d.trans h2.stepW)
 |exit IV =>
  simp only[wG]at q;split at q
  .rename_i e;subst e;intro pre hp;refine .ctl f rfl (λ_=>zu (k':=k) (by rw[hp];simp[exitTo])) λs2 h2=>?_;exact g .normal φ' σ' s2 a' q (i.rely h2 f) (f.rely h2) (d.trans h2.stepW)
  .rename_i o
   intro pre hp;have:=g (.exit IV) φ' σ' s' a' q i f d (pre++[.inBlock id]) (λk'=>by
    rw[lR,hp];have:(id==IV)=ae:=by grind
    simp[exitTo,this])
   grind
 |ret=>exact g _ _ _ _ _ q i f d
 |panic ch=>exact g _ _ _ _ _ q i f d
 |goto l=>exact g _ _ _ _ _ q i f d
 |outgrown=>exact g _ _ _ _ _ q i f d
def aE.RH{s:St}(h:aE σ s){o:Nat->Prop}(a:∀b,o b->b<s.w.heap.size/\∀L∈s.β,b∉L.bs):aE σ {s with own:=o} :=
 ⟨h.mem,h.len,λl B L hB hL=>et.carry (σ:=σ) (s:=s) (σ':=σ) (s':={s with own:=o}) ⟨λ_ _ _ h=>h,λ_ B L h c=>⟨B,L,h,c,.refl _ _⟩⟩ h.len (λ_ _=>⟨rfl,λ_=>rfl⟩) (h.box l B L hB hL),h.eB,h.lt,a⟩
def aE.iB{s:St}(h:aE σ s){r:Nat}{o:Nat->Prop}(f:s.own r)(g:∀b,o b->s.own b)(j:¬o r)(e:∀i,s.M r i=af)(m:s.w.heap[r]?=aa (.deferred (aa []))):
  aE (σ++[.qX]) {s with β:=s.β++[⟨.int .i64 r,[r]⟩],own:=o}/\eu s {s with β:=s.β++[⟨.int .i64 r,[r]⟩],own:=o}:=by
 obtain⟨p,n⟩:=h.own r f;have ex:Ext σ s (σ++[.qX]) {s with β:=s.β++[⟨.int .i64 r,[r]⟩],own:=o}:=by
  refine⟨λ_ _ _ h=>h,λl B L hB hL=>⟨B,L,?_,?_,.refl _ _⟩⟩
  .grind
  grind
 refine⟨⟨h.mem,by simp[h.len],?_,?_,?_,?_⟩,⟨rfl,λ_ _ _ h=>h,λ_ _ _=>rfl,h.mem,?_⟩⟩
 .intro l B L hB hL;rcases gd hL with d|⟨hl,rfl⟩
  .have hl:l<σ.length:=by rw[<-h.len];grind
   rw[jw hl]at hB;exact(h.box l B L hB d).carry ex h.len λ_ _=>⟨rfl,λ_=>rfl⟩
  .rw[hl,h.len,gz (bg _)]at hB;simp at hB;subst hB;exact⟨r,rfl,m,e⟩
 .intro l l' L L' hL fj b a c;rcases gd hL with k1|⟨e1,rfl⟩<;>rcases gd fj with k|⟨e2,rfl⟩
  .exact h.eB l l' L L' k1 k b a c
  .grind
  .grind
  grind
 .intro L hL b a;simp only[gb,ga]at hL;rcases hL with hL|rfl
  .exact h.lt L hL b a
  grind
 .intro b a;obtain⟨q,p2⟩:=h.own b (g b a);grind
 grind
def F3:Option Code->Option Exit
 |none=>aa .normal
 |some .ret=>aa .ret
 |some (.exit id)=>aa (.exit id)
 |_=>af
def kV.rangeFunc{ι:Type}{f:ak}{ps:Array Tmp}{assign body:Code}{F:aH}{capD:List D}{res:ι->D}{σ':ι->List aP}{r':ι->Loop}(Dz:∀s a,cq N σ s φ a->aE σ s->∃n:List ah,a.eval f=.func (.func F) #[] n.toArray/\ck σ s n capD)(Ha:dZ X F (.e (.one (.ref σ.length))::capD) (σ++[.loop N φ {state:=.ready,pending:=af,fn:=0,tmps:=#[],params:=ps,assign:=assign,body:=body,defers:=0}]) res σ')(hl:∀i,(σ' i)[σ.length]?=aa (.loop N φ (r' i))/\(r' i).state≠.busy)(k:∀i,∃e,F3 (r' i).pending=aa e/\Q e φ ((σ' i).set σ.length .dead++[.qX])):kV X N (.rangeFunc f ps assign body) Q φ σ:=by
 intro s a fr hh b kk cs S m NY hQ;obtain⟨⟨fn,UT,Y,I⟩,H⟩:=Ha;refine .next rfl λd P9=>?_;have hr:=X.iv P9;have g:=hh.rely hr;have f1:=fr.rely hr hh;obtain⟨n,hv,C⟩:=Dz d a f1 g;generalize WQ:d.w.heap.size=r;have u:=λmain=>zW (P:=P) (main:=main) (k:=kk) (cs:=cs) (ps:=ps) (assign:=assign) (body:=body) (b:=b) (w:=d.w) NY m UT Y I hv;rw[WQ]at u;let w1:az:={d.w with heap:=d.w.heap.push (.deferred (aa []))}
 let lo:Loop:={state:=.ready,pending:=af,fn:=b.fn,tmps:=a.tmps,params:=ps,assign:=assign,body:=body,defers:=r}
 let w2:az:={d.w with heap:=(d.w.heap.push (.deferred (aa []))).push (.loop lo)}
 have DG:w2.heap.size=r+2:=by grind
 have acD:w1.heap.size=r+1:=by grind
 have hk1:∀b,b<d.w.heap.size->w1.heap[b]?=d.w.heap[b]?:=λb m=>by grind
 have U:∀b,b<w1.heap.size->w2.heap[b]?=w1.heap[b]?:=λb m=>by grind
 have hk2:∀b,b<d.w.heap.size->w2.heap[b]?=d.w.heap[b]?:=λb m=>by grind
 have T:w2.heap[r]?=aa (.deferred (aa [])):=by grind
 have R:w2.heap[r+1]?=aa (.loop lo):=by grind
 have nM:∀b,d.w.heap.size<=b->∀o,d.M b o=af:=λb m o=>by
  cases y:d.M b o with
  |none=>rfl
  |some v=>have:=g.block y;omega
 let L1:Loc:=⟨.func (.yield (r+1)) #[] #[],[r+1]⟩
 let L2:Loc:=⟨.int .i64 r,[r]⟩
 let rr:Loop:={state:=.ready,pending:=af,fn:=0,tmps:=#[],params:=ps,assign:=assign,body:=body,defers:=0}
 obtain⟨g1,g2⟩:=g.grow (M':=d.M) (w':=w2) (by omega) hk2 (λ_ _ _=>rfl) (λb m o v y=>by grind) rfl rfl rfl;have J:Ext σ d (σ++[.loop N φ rr]) ⟨d.β++[L1],d.M,w2,d.own⟩:=by
  refine⟨λ_ _ _ h=>h,λl B L hB hL=>⟨B,L,?_,?_,.refl _ _⟩⟩
  .grind
  grind
 obtain⟨a1,a2⟩:=g1.hO (B:=.loop N φ rr) (L:=L1) g2 rfl g ⟨r+1,a.tmps,b.fn,r,rfl,R,f1.size,λt=>(f1.slot t).mono J g.len,λo=>nM _ (by omega) o⟩ (λb m=>by grind)
 have hD:=a1.RH (o:=λb=>d.own b∨b=r) (by
  rintro b (m|rfl)
  .exact a1.own b m
  .refine⟨by grind,λL hL=>?_⟩;simp only[gb,ga]at hL;rcases hL with hL|rfl
   .intro V;have:=g.lt L hL b V;omega
   grind)
 have d1:=g.lH;obtain⟨e1,e2⟩:=d1.grow (M':=d.M) (w':=w1) (by omega) hk1 (λ_ _ _=>rfl) (λb m o v y=>by grind) rfl rfl rfl;obtain⟨e3,e4⟩:=e1.hO (B:=.dead) (L:=L2) e2 rfl d1 aw (λb m=>by grind)
 obtain⟨e5,e6⟩:=e3.grow (M':=d.M) (w':=w2) (by grind) U (λ_ _ _=>rfl) (λb m o v y=>by grind) rfl rfl rfl
 obtain⟨e7,e8⟩:=e5.hO (B:=.dead) (L:=L1) e6 rfl e3 aw (λb m=>by grind);have Xe:eu ⟨d.β++[L2]++[L1],d.M,w2,d.own⟩ ⟨d.β++[L1],d.M,w2,λb=>d.own b∨b=r⟩:=by
  refine⟨rfl,λ_ _ _ h=>h,λ_ _ _=>rfl,a1.mem,?_⟩;rintro b ((m|rfl)|⟨L,hL,m⟩)
  .grind
  .exact .inr ⟨L2,by simp,by grind⟩
  grind
 refine⟨_,⟨d.β++[L2]++[L1],d.M,w2,d.own⟩,_,u X.main,⟨⟨_,_,d1,e7,e4.trans e8⟩,.nil⟩,.ghost Xe (H _ (Value.func (.yield (r+1)) #[] #[]::n) ?_ hD S _ λi TN v s4 E mh TQ st4=>?_)⟩
 .refine⟨⟨λB p=>?_,L1,?_,rfl,rfl⟩,?_⟩
  .rw[gz (bg _)]at p;simp at p;subst p;rfl
  .show (d.β++[L1])[σ.length]?=_;rw[<-g.len,gz (bg _)];simp
  .exact C.mono (σ:=σ) (s:=d) (σ':=σ++[.loop N φ rr]) (s':=⟨d.β++[L1],d.M,w2,λb=>d.own b∨b=r⟩) ⟨J.mem,J.box⟩ g.len
 have Ym:(b.aT {a with defers:={target:=.collected r,args:=#[]}::a.defers} (.inRangeFunc (r+1)::kk)).finish v=b.aT {a with defers:={target:=.collected r,args:=#[]}::a.defers} (.endRangeFunc (r+1)::kk):=by simp[Frame.finish,Frame.aT]
 refine qf (cs:=cs) (c:=b.aT {a with defers:={target:=.collected r,args:=#[]}::a.defers} (.inRangeFunc (r+1)::kk)) TQ E λs5 hr5=>?_;rw[Ym];refine .next rfl λs6 Z=>?_;have W:=X.iv Z;have x:=(TQ.rely hr5).rely W;have O:=(st4.trans hr5.stepW).trans W.stepW;obtain⟨z,UU⟩:=hl i;have hLl:∃L,s6.β[σ.length]?=aa L/\L.v=.func (.yield (r+1)) #[] #[]:=by
  obtain⟨B',L',k1,k2,k3⟩:=O.box σ.length (.loop N φ rr) L1 (show(σ++[aP.loop N φ rr])[σ.length]?=_ from List.getElem?_concat_length) (by show(d.β++[L1])[σ.length]?=_;rw[<-g.len,gz (bg _)];simp)
  rw[z]at k1;cases k1;exact⟨L',k2,k3⟩
 obtain⟨K,fn6,df6,p1,p2,p3,p4,p5⟩:=x.zX z hLl;obtain⟨q1,q2⟩:=x.zY (r':={r' i with state:=.exhausted}) (B':=.dead) z p1 p2 p3 p4 p5 (.inl rfl);refine⟨_,_,_,D3 p2 UU,⟨⟨_,_,x,q1,q2⟩,fb.seen (.two (pf (bJ p1) (by simp)) (pf (bJ p1) (by simp)))⟩,?_⟩;have j:=O.trans (q2.na x);generalize hs7:({s6 with w:={s6.w with heap:=s6.w.heap.setIfInBounds (r+1) (.loop {{r' i with state:=.exhausted}with tmps:=K,fn:=fn6,defers:=df6})}}:St)=s7 at q1 q2 j;have h7r:s7.own r:=by rw[j.own];grind
 have h7d:s7.w.heap[r]?=aa (.deferred (aa [])):=by rw[j.fi r (.inr rfl)];exact T
 have h7M:∀o,s7.M r o=af:=λo=>by rw[j.iU r (by grind) (λL hL=>(hD.own r (.inr rfl)).2 L hL)];grind
 obtain⟨t1,t2⟩:=q1.iB (r:=r) (o:=d.own) h7r (λb m=>by rw[j.own];grind) (λV=>by have:=(g.own r V).1;omega) h7M h7d;refine .ghost t2 ?_;have A:cU σ d ((σ' i).set σ.length .dead++[.qX]) {s7 with β:=s7.β++[⟨.int .i64 r,[r]⟩],own:=d.own}:=by
  refine⟨?_,λb m=>?_,λb o v y=>j.mem b o v y,λb m hn o=>?_,λL hL b m=>?_,λl B L hB hL=>?_,j.os,j.tape,j.output,rfl⟩
  .grind
  .show s7.w.heap[b]?=_;rw[j.fi b (.inl m)];exact hk2 b (g.own b m).1
  .show s7.M b o=_;rw[j.iU b (by grind) (λL hL=>?_)];grind
  .simp only[gb,ga]at hL;rcases hL with hL|rfl
   .rcases j.vb L hL b m with h1|⟨L0,h1,h2⟩
    .grind
    grind
   grind
  .have QZ:=(bZ.1 hB).1;have Q0:=(bZ.1 hL).1;obtain⟨B',L',k1,k2,k3⟩:=j.box l B L (by grind) (by grind);grind
 have fF:cq N ((σ' i).set σ.length .dead++[.qX]) {s7 with β:=s7.β++[⟨.int .i64 r,[r]⟩],own:=d.own} φ {a with defers:={target:=.collected r,args:=#[]}::a.defers}:=by
  have y:=f1.mono A g.len;obtain⟨ls,RI⟩:=f1.defers;refine⟨y.size,⟨((σ' i).set σ.length .dead).length::ls,⟨⟨?_,⟨.int .i64 r,[r]⟩,r,?_,rfl,rfl⟩,λV=>?_,RI.mono A.ext⟩⟩,y.slot⟩
  .grind
  .show (s7.β++_)[_]?=_;rw[<-q1.len,gz (bg _)];simp
  .have h1:=RI.BO _ V;grind
 obtain⟨e,p,hq⟩:=k i;have q:=hQ e φ _ _ _ hq fF t1 (hr.stepW.trans A);revert p;show F3 (r' i).pending=aa e->fE X S (G (b.aT _ (((r' i).pending.map Item.code).toList++kk)) cs) _;intro p;cases hp:(r' i).pending with
 |none=>rw[hp]at p;cases p;exact q
 |some c =>
  rw[hp]at p;cases c<;>simp only[F3,reduceCtorEq,dr]at p
  .subst p;exact q [] (λ_=>rfl)
  .subst p;exact q kk
def cq.callee{t:Nat}{F:aH}{cap:List C}(hl:look φ t=.e (.one (.c (.fn (.func F) [] cap)))):∀s a,cq N σ s φ a->aE σ s->∃b:List ah,a.eval (.tmp t)=.func (.func F) #[] b.toArray/\ck σ s b (fN cap):=by
 intro s a d _;have h:=d.slot t;rw[hl]at h;have h:=eY h;show ∃b:List ah,a.tmps.getD t ai=.func (.func F) #[] b.toArray/\_;generalize a.tmps.getD t ai=v at h;cases h with
 |fn fs cs hl Dp f1 f2 h1 h2 r1 r2 =>
  grind[nk]
def dZ.D5{ι:Type}{f:aH}{fn:Func}{c:Code}{args:List D}{σ':ι->List aP}{res:ι->D}(l:P.funcs[f]?=aa fn)(d:(fn.name== "runtime.NumGoroutine")=ae)(m:fn.body=aa c)(g:bw args.length fn.ntmps=ab)(h:Fits args σ->kV X fn.ntmps c (λe φ σ1=>∃j,cw fn σ.length (res j) (σ' j) e φ σ1) (iY 0 args) σ):dZ X f args σ res σ':=by refine⟨⟨fn,l,d,by grind⟩,λs0 vs hr hh=>?_⟩;exact(dZ.Qa l d m (cZ g) λs a f i b k cs S hk NY hQ=>h ⟨s0,vs,hr,hh⟩ s a f i b k cs S hk NY hQ).2 s0 vs hr hh
def Yn(fn:Func)(res:D)(σ':List aP):Post:=λe φ σ1 =>
 (e=.ret∨e=.normal)/\σ1=σ'/\lB σ'=ab/\∃ds d ps,xV φ fn.results.toList=aa ds/\rW ds=aa d/\Dr d res=aa ps/\ay ps
def dZ.JX{ι:Type}{f:aH}{fn:Func}{c:Code}{args:List D}{σ':ι->List aP}{res:ι->D}(p:P.funcs[f]?=aa fn)(k:(fn.name== "runtime.NumGoroutine")=ae)(I:fn.body=aa c)(g:bw args.length fn.ntmps=ab)(h:AW X fn.ntmps c (λe φ σ1=>∃j,Yn fn (res j) (σ' j) e φ σ1) (iY 0 args) σ):dZ X f args σ res σ':=by
 refine⟨⟨fn,p,k,by grind⟩,λs vs hr hh S cs hS=>?_⟩;obtain⟨hl,x⟩:=ck.get hr;let b:aR:={fn:=f,tmps:=#[],todo:=[],defers:=[],mode:=.run,kind:=.normal,roundOf:=af}
 have a:Frame.enter P f vs.toArray .normal=b.aT {tmps:=vs.toArray++Array.replicate (fn.ntmps-vs.toArray.size) ai,defers:=[]} [.code c]:=by simp[Frame.enter,Frame.aT,p,I,b]
 rw[a];have g:=cZ g;refine h s {tmps:=vs.toArray++Array.replicate (fn.ntmps-vs.toArray.size) ai,defers:=[]} ⟨by grind,⟨[],aw⟩,λt=>?_⟩ hh b [] cs S (by simp[b]) ?_
 .rw[ot];simp only[ll,cn,lF];have:=x t;rcases cG t vs.length with u|F
  .have e:(vs.toArray++Array.replicate (fn.ntmps-vs.toArray.size) ai).getD t ai=(vs[t]?).getD ai:=by simp only[dN];grind
   grind
  .rw[rH (by omega)];trivial
 .rintro e φ' σ1 s1 a1 ⟨E,o,rfl,n,ds,d,ps,h1,h2,r,J⟩ H m st;have fin:∀(fr:aR) s2,cp s1 s2->fr.fn=f->fr.tmps=a1.tmps->fr.defers=a1.defers->fr.mode=.returning->fr.kind=.normal->fE X S (G fr cs) s2:=by
   intro fr s2 sX e1 e2 e3 e4 e5;have q:=H.rely sX m;obtain⟨v,B,A,y⟩:=uh (P:=P) q h1 h2;obtain⟨ls,i⟩:=q.defers;have z:a1.defers=[]:=by
    cases ls with
    |nil=>cases C:a1.defers with
     |nil=>rfl
     |cons d ds=>rw[C]at i;exact i.elim
    |cons l ls=>exact absurd rfl (nq n _ (bJ (i.BO l (by simp))))
   refine hS E fr v _ ⟨e1,e4,by grind,e5,fn,by grind,λw _=>?_⟩ (ou r J A) (m.rely sX) (st.trans sX.stepW);rw[e2];exact⟨B w,λe o=>by rw[y w #[]]at o;grind⟩
  rcases o with rfl|rfl
  .intro pre;exact .ctl m rfl (λ_=>DC rfl) λs2 sX=>fin _ s2 sX rfl rfl (iQ _) rfl rfl
  .exact .ctl m rfl (λ_=>DD rfl) λs2 sX=>fin _ s2 sX rfl rfl (iQ _) rfl rfl
end
end
end Go.AM
