/- Part 2. No condition. -/
import Derived.Test.YtbaopamghpnebaaGreatDoorA1
import Derived.MapKept
import Derived.Maps.RangeRun
import Derived.Laws.MakeOwn
import Derived.Lib.SliceRun
import Derived.Test.YtbaopamghpnebaaGreatDoorProg
import Derived.Lib.FrozenHead
import Derived.Lib.UnsafeStr
import Derived.Lib.MakeNoZero
import Derived.Laws.Externs
import Derived.Lib.Builder
set_option linter.all false
set_option maxHeartbeats 8000000
open Go.Proofs
open Go.Conc (G)
open Go renaming Value → ah, Program → ar, TypeId → aj, Oper → au, Operand → ak, undef → ai, execOp → aw, World → aA, Goroutine → av, stepG → aH, Frame → aR, FuncId → aJ
open Option renaming some → aa, none → ae
open Bool renaming true → ab, false → af
open Go.World renaming cell? → aV
open List renaming getD_eq_getElem?_getD → aq, range → bg
open Go.Sem renaming events_bind → aM
open Go.Result renaming evThen_ok → aO
open Go.Region renaming wanted → bd, ready → a9
open Go.Instr renaming sureAddr → bo
open Nat renaming beq → aB, ble → bu
open Go.Op renaming equalIn → aY
open Go.Proofs.Tryz renaming prog → ag
namespace Go.AM
section force
variable {p:Type}
def wv:C->(C->Option p)->Option p
 |.int k n,q=>q (.int k n)
 |.bool b,q=>q (.bool b)
 |.str s,q=>q (.str s)
 |.sl ab k n es,q=>q (.sl ab k n es)
 |.sl af k n es,q=>q (.sl af k n es)
 |.rp cs,q=>dv cs λcs=>q (.rp cs)
 |.FH t cs,q=>dv cs λcs=>q (.FH t cs)
 |.fn f a b,q=>dv a λa=>dv b λb=>q (.fn f a b)
 |c,q=>q c
def Hf(c:C)(q:C->Option p):wv c q=q c:=by
 cases c with
 |sl t=>cases t<;>rfl
 |rp cs=>simp[wv,cZ]
 |FH t cs=>simp[wv,cZ]
 |fn f a b=>simp[wv,cZ]
 |_=>rfl
def wx:A->(A->Option p)->Option p
 |.c x,q=>wv x λx=>q (.c x)
 |.ptr l o,q=>q (.ptr l o)
 |.vec l k n es,q=>q (.vec l k n es)
 |.ref l,q=>q (.ref l)
 |.bp l (.sl g k o n),q=>q (.bp l (.sl g k o n))
 |.bp l (.el g k i f),q=>q (.bp l (.el g k i f))
 |.any,q=>q .any
def yv(a:A)(q:A->Option p):wx a q=q a:=by
 cases a with
 |bp l w=>cases w<;>simp[wx]
 |_=>simp[wx,Hf]
def vl:List A->(List A->Option p)->Option p
 |[],q=>q []
 |a::r,q=>wx a λa=>vl r λr=>q (a::r)
def DO(l:List A)(q:List A->Option p):vl l q=q l:=by
 induction l generalizing q with
 |nil=>rfl
 |cons a r b=>simp[vl,yv,b]
def zR:E1->(E1->Option p)->Option p
 |.one a,q=>wx a λa=>q (.one a)
 |.agg cs,q=>vl cs λcs=>q (.agg cs)
def yw(a:E1)(q:E1->Option p):zR a q=q a:=by cases a<;>simp[zR,yv,DO]
def vm:List E1->(List E1->Option p)->Option p
 |[],q=>q []
 |a::r,q=>zR a λa=>vm r λr=>q (a::r)
def DQ(l:List E1)(q:List E1->Option p):vm l q=q l:=by
 induction l generalizing q with
 |nil=>rfl
 |cons a r b=>simp[vm,yw,b]
def ou:D->(D->Option p)->Option p
 |.e x,q=>zR x λx=>q (.e x)
 |.eX xs,q=>vm xs λxs=>q (.eX xs)
 |.any,q=>q .any
theorem nt(a:D)(q:D->Option p):ou a q=q a:=by cases a<;>simp[ou,yw,DQ]
end force
def ya:D->Option (Bool×Nat×Nat×(Nat->List C))
 |.e (.one (.c (.sl t k n es)))=>aa (t,k,n,es)
 |.e (.one (.vec _ k n es))=>aa (af,k,n,es)
 |_=>ae
theorem mD{d:D}{t:Bool}{k n:Nat}{es:Nat->List C}(h:ya d=aa (t,k,n,es))(σ:List aP)(s:St)(v:ah)(r:dk σ s v d):Rd s.M v (.sl t k n es):=by
 unfold ya at h;split at h
 .cases h;exact r
 .cases h;exact r.1
 grind
def iS(l:List UInt8)(j:Int):UInt8:=l.getD j.toNat 0
def Re(T:List (Nat×TI))(t:aj)(d:D):Option D :=
 match bD T t with
 |none=>ae
 |some i=>match i.desc with
  |.slice _=>match ya d with
   |some (_,_,n,_)=>aa (.e (.one (.c (.int .i64 n))))
   |none=>ae
  |.string=>match d with
   |.e (.one (.c (.str s)))=>aa (.e (.one (.c (.int .i64 s.length))))
   |_=>ae
  |_=>ae
def Jy(T:List (Nat×TI))(b a:aj)(d:D):Option (D×List Prop) :=
 match bD T b with
 |none=>ae
 |some i1=>match bD T a with
  |none=>ae
  |some i2=>match i2.desc with
   |.int k'=>match d with
    |.e (.one (.c (.int _ j)))=>aa (.e (.one (.c (.int k' j))),[bA k' j])
    |_=>ae
   |.string=>match d with
    |.e (.one (.c (.str s)))=>aa (.e (.one (.c (.str s))),[])
    |d=>match i1.desc with
     |.slice E=>match bD T E with
      |some ie=>match ie.desc with
       |.int .u8=>match ya d with
        |some (_,k,n,es)=>match aB k 1 with
         |true=>match wy es 0 n with
          |some r=>aa (.e (.one (.c (.str r))),[])
          |none=>ae
         |false=>ae
        |none=>ae
       |_=>ae
      |none=>ae
     |_=>ae
   |_=>ae
def DR(T:List (Nat×TI))(a:ak->D)(t:aj)(x:ak)(lo hi:Option ak):Option (D×List Prop) :=
 match bD T t with
 |none=>ae
 |some i=>match rf a lo with
  |none=>ae
  |some l=>match rf a hi with
   |none=>ae
   |some u=>match i.desc with
    |.string=>match a x with
     |.e (.one (.c (.str s)))=>aa (.e (.one (.c (.str (sd s l u)))),fM s.length l u)
     |_=>ae
    |.slice E=>match bD T E with
     |none=>ae
     |some ie=>match ya (a x)with
      |some (tt,k,n,es)=>match aB k ie.size with
       |true=>aa (.e (.one (.c (.sl (Rf tt u) ie.size (dc n u-dc 0 l) (lZ (dc 0 l) es)))),fM n l u)
       |false=>ae
      |none=>ae
    |_=>ae
def yx(op:BinOp)(k:IntKind)(a:Int)(k':IntKind)(b:Int):Option (D×List Prop) :=
 match Bq op k a k' b with
 |some (c,obs)=>aa (.e (.one (.c (.int k c))),obs)
 |none=>ae
theorem se{op:BinOp}{k k':IntKind}{a b:Int}{d:D}{obs:List Prop}(h:yx op k a k' b=aa (d,obs)):∃c,d=.e (.one (.c (.int k c)))/\Bq op k a k' b=aa (c,obs):=by unfold yx at h;grind
def PX(T:List (Nat×TI))(op:BinOp)(t:aj)(x y:D):Option (D×List Prop) :=
 match x,y with
 |.e (.one (.c (.bool a))),.e (.one (.c (.bool b)))=>match bD T t with
  |some i=>match i.desc with
   |.bool=>match jb op (a==b)with
    |some c=>aa (.e (.one (.c (.bool c))),[])
    |none=>ae
   |_=>ae
  |none=>ae
 |.e (.one (.c a)),.e (.one (.c b))=>match op with
  |.xor=>match a,b with
   |.int .i64 a,.int .i64 b=>aa (.e (.one (.c (.int .i64 ((a.toNat ^^^ b.toNat:Nat):Int)))),[0<=a,0<=b])
   |.int .u64 a,.int k' b=>yx .xor .u64 a k' b
   |_,_=>ae
  |.shl=>match a,b with
   |.int k a,.int k' b=>yx .shl k a k' b
   |_,_=>ae
  |.shr=>match a,b with
   |.int k a,.int k' b=>yx .shr k a k' b
   |_,_=>ae
  |.and=>match a,b with
   |.int k a,.int k' b=>yx .and k a k' b
   |_,_=>ae
  |_=>match ND op a b with
   |some (c,obs)=>aa (.e (.one (.c c)),obs)
   |none=>ae
 |.e (.agg cs),.e (.agg es)=>match bD T t with
  |some i=>match i.eq with
   |[]=>ae
   |d::ds=>match PY (d::ds) cs es with
    |some b=>match jb op b with
     |some c=>aa (.e (.one (.c (.bool c))),[])
     |none=>ae
    |none=>ae
  |none=>ae
 |_,_=>ae
def W4(T:List (Nat×TI))(CT:List (Nat×dt))(φ:Fr)(o:au):Option (D×List Prop) :=
 match o.op with
 |.move x|.assign x=>aa (bM φ x,[])
 |.index t x y=>match bD T t with
  |some i=>match i.desc with
   |.string=>match bM φ x,bM φ y with
    |.e (.one (.c (.str l))),.e (.one (.c (.int _ j)))=>aa (.e (.one (.c (.int .u8 (iS l j).toNat))),[0<=j,j<l.length])
    |_,_=>ae
   |_=>ae
  |none=>ae
 |.indexAddr t x y=>match bD T t with
  |some i=>match i.desc with
   |.slice E=>match bD T E with
    |some ie=>match ya (bM φ x),bM φ y with
     |some (_,k,n,es),.e (.one (.c (.int _ j)))=>match aB k ie.size with
      |true=>aa (.e (.one (.c (.rp (es j.toNat)))),[0<=j,j<n])
      |false=>ae
     |_,_=>ae
    |none=>ae
   |_=>ae
  |none=>ae
 |.slice t x lo hi ae=>DR T (bM φ) t x lo hi
 |.convert src dst x=>Jy T src dst (bM φ x)
 |.call c=>match c.callee with
  |.builtin .len=>match c.args.toList,c.argTypes[0]? with
   |[x],aa t=>match Re T t (bM φ x)with
    |some d=>aa (d,[])
    |none=>ae
   |_,_=>ae
  |.value fo=>BG CT φ fo c.args.toList
  |_=>ae
 |.pick c a b=>match bM φ c with
  |.e (.one (.c (.bool ab)))=>aa (bM φ a,[])
  |.e (.one (.c (.bool af)))=>aa (bM φ b,[])
  |_=>ae
 |.binOp op t x y _=>PX T op t (bM φ x) (bM φ y)
 |.unOp op _ x=>match bM φ x with
  |.e (.one (.c a))=>match W6 op a with
   |some c=>aa (.e (.one (.c c)),[])
   |none=>ae
  |_=>ae
 |.extract x j=>match bM φ x with
  |.eX xs=>match du j xs with
   |some e=>aa (.e e,[])
   |none=>ae
  |_=>ae
 |.fieldAddr t x f=>match jM T t f with
  |some (k,_)=>match bM φ x with
   |.e (.one (.ptr l off))=>aa (.e (.one (.ptr l (off+k))),[])
   |.e (.one (.c (.rp cs)))=>aa (.e (.one (.c (.rp (fK k cs)))),[])
   |_=>ae
  |none=>ae
 |.field t x f=>match jM T t f with
  |some (k,j)=>match bM φ x with
   |.e (.agg cs)=>match kN j (fK k cs)with
    |some e=>aa (.e e,[])
    |none=>ae
   |_=>ae
  |none=>ae
 |.nilCheck x=>match bM φ x with
  |.e (.one (.ptr l off))=>aa (.e (.one (.ptr l off)),[])
  |.e (.one (.c (.rp cs)))=>aa (.e (.one (.c (.rp cs))),[])
  |_=>ae
 |.build t parts=>match zT T (bM φ) t parts.toList with
  |some cs=>aa (.e (.agg cs),[])
  |none=>ae
 |.buildSlice t n parts=>match NF T (bM φ) t n parts.toList with
  |some (k,es)=>aa (.e (.one (.c (.sl ab k n λi=>es.getD i []))),[])
  |none=>ae
 |.makeFunc fn a b=>match wz (bM φ) a.toList with
  |some ca=>match wz (bM φ) b.toList with
   |some cb=>aa (.e (.one (.c (.fn fn ca cb))),[])
   |none=>ae
  |none=>ae
 |.makeInterface t x=>match bD T t with
  |some i=>match ph i.desc with
   |false=>match vn t (bM φ x)with
    |some c=>aa (.e (.one (.c c)),[])
    |none=>ae
   |true=>ae
  |none=>ae
 |.typeAssert x _ t ab=>match bD T t with
  |some i=>match ph i.desc with
   |false=>match bM φ x with
    |.e (.one (.c c))=>match qh t i c with
     |some (e,b)=>aa (.eX [e,.one (.c (.bool b))],[])
     |none=>ae
    |_=>ae
   |true=>ae
  |none=>ae
 |_=>ae
def Jr(T:List (Nat×TI))(φ:Fr)(σ:List aP)(t:aj)(x:ak):Option D :=
 match bD T t with
 |some i=>match bM φ x with
  |.e (.one (.ptr l off))=>match du l σ with
   |some (.cells _ cs)=>match kN i (fK off cs)with
    |some e=>aa (.e e)
    |none=>ae
   |_=>ae
  |.e (.one (.c (.rp cs)))=>match kN i (cs.map A.c)with
   |some e=>aa (.e e)
   |none=>ae
  |_=>ae
 |none=>ae
def XS(T:List (Nat×TI))(φ:Fr)(o:au):Option (D×List Prop) :=
 match o.op with
 |.indexAddr t x y=>match bD T t with
  |some i=>match i.desc with
   |.slice E=>match bD T E with
    |some ie=>match bM φ x,bM φ y with
     |.e (.one (.bp l (.sl g k q m))),.e (.one (.c (.int _ j)))=>match aB k ie.size with
      |true=>aa (.e (.one (.bp l (.el g ie.size (q+j.toNat) 0))),[0<=j,j<m])
      |false=>ae
     |.e (.one (.c (.val (.slice (aa ⟨b,off,ae⟩) n _)))),.e (.one (.c (.int _ j)))=>aa (.e (.one (.c (.val (.pointer (aa ⟨b,off+j.toNat*ie.size,ae⟩))))),[0<=j,j<n])
     |_,_=>ae
    |none=>ae
   |_=>ae
  |none=>ae
 |.fieldAddr t x f=>match jM T t f with
  |some (k,_)=>match bM φ x with
   |.e (.one (.bp l (.el g a i q)))=>aa (.e (.one (.bp l (.el g a i (q+k)))),[])
   |.e (.one (.c (.val (.pointer (aa ⟨b,off,ae⟩)))))=>aa (.e (.one (.c (.val (.pointer (aa ⟨b,off+k,ae⟩))))),[])
   |_=>ae
  |none=>ae
 |.nilCheck x=>match bM φ x with
  |.e (.one (.bp l (.el g a i q)))=>aa (.e (.one (.bp l (.el g a i q))),[])
  |_=>ae
 |.slice t x lo hi ae=>match bD T t with
  |none=>ae
  |some i=>match rf (bM φ) lo with
   |none=>ae
   |some lw=>match rf (bM φ) hi with
    |none=>ae
    |some u=>match i.desc with
     |.slice E=>match bD T E with
      |none=>ae
      |some ie=>match bM φ x with
       |.e (.one (.bp l (.sl g k q m)))=>match aB k ie.size with
        |true=>aa (.e (.one (.bp l (.sl g ie.size (q+dc 0 lw) (dc m u-dc 0 lw)))),fM m lw u)
        |false=>ae
       |_=>ae
     |_=>ae
 |.slice t x ae (aa y) (aa z)=>match bD T t with
  |none=>ae
  |some i=>match i.desc with
   |.slice E=>match bD T E with
    |none=>ae
    |some _=>match ya (bM φ x),bM φ y,bM φ z with
     |some (_,k,n,es),.e (.one (.c (.int _ j))),.e (.one (.c (.int _ m)))=>aa (.e (.one (.c (.sl af k j.toNat es))),[0<=j,j<=m,m<=n])
     |_,_,_=>ae
   |_=>ae
 |.slice t x (aa w) (aa y) (aa z)=>match bD T t with
  |none=>ae
  |some i=>match i.desc with
   |.slice E=>match bD T E with
    |none=>ae
    |some _=>match bM φ x,bM φ w,bM φ y,bM φ z with
     |.e (.one (.bp _ (.sl _ _ _ n))),.e (.one (.c (.int _ i))),.e (.one (.c (.int _ j))),.e (.one (.c (.int _ m)))=>aa (.e (.one .any),[0<=i,i<=j,j<=m,m<=n])
     |_,_,_,_=>ae
   |_=>ae
 |.call c=>match c.callee with
  |.builtin .len=>match c.args.toList,c.argTypes[0]? with
   |[x],aa t=>match bD T t with
    |some i=>match i.desc with
     |.slice _=>match bM φ x with
      |.e (.one (.bp _ (.sl _ _ _ m)))=>aa (.e (.one (.c (.int .i64 m))),[])
      |.e (.one (.c (.val (.slice _ n _))))=>aa (.e (.one (.c (.int .i64 n))),[n<=9223372036854775807])
      |_=>ae
     |_=>ae
    |none=>ae
   |_,_=>ae
  |_=>ae
 |_=>ae
def zN(T:List (Nat×TI))(φ:Fr)(σ:List aP)(t:aj)(x:ak):Option (D×List Prop) :=
 match bD T t with
 |some it=>match bM φ x with
  |.e (.one (.bp l (.el g k i f)))=>match du l σ with
   |some (.buf _ k' n es)=>match aB k' k with
    |true=>match kN it ((fK f (es i)).map A.c)with
     |some e=>aa (.e e,[g=n,i<n])
     |none=>ae
    |false=>ae
   |_=>ae
  |_=>ae
 |none=>ae
def Jz:Nat->List C->Nat->Bool
 |0,cc,k=>aB cc.length k
 |_+1,_,_=>af
def zU(T:List (Nat×TI))(φ:Fr)(σ:List aP)(t:aj)(x y:ak):Option (D×List aP×List Prop) :=
 match bD T t with
 |some it=>match bM φ x with
  |.e (.one (.bp l (.el g k i f)))=>match du l σ with
   |some (.buf E k' n es)=>match aB k' k with
    |true=>match kn (bM φ y)with
     |some new=>match aB new.length it.size with
      |true=>match gC new with
       |some cc=>match Jz f cc k with
        |true=>dv (dH.qB l (.buf E k' n (pj i cc es)) σ) λσ'=>aa (.any,σ',[g=n,i<n])
        |false=>match fi f cc (es i)with
         |some ci=>dv (dH.qB l (.buf E k' n (pj i ci es)) σ) λσ'=>aa (.any,σ',[g=n,i<n])
         |none=>ae
       |none=>ae
      |false=>ae
     |none=>ae
    |false=>ae
   |_=>ae
  |_=>ae
 |none=>ae
def NA(T:List (Nat×TI))(CT:List (Nat×dt))(φ:Fr)(σ:List aP)(o:au):Option (D×List Prop) :=
 match o.op with
 |.load t x=>match Jr T φ σ t x with
  |some d=>aa (d,[])
  |none=>zN T φ σ t x
 |_=>match W4 T CT φ o with
  |some r=>aa r
  |none=>XS T φ o
def Rg(T:List (Nat×TI))(a:ak->D)(σ:List aP)(x y:ak)(t b:aj):Option (D×List aP×List Prop) :=
 match bD T t with
 |none=>ae
 |some i=>match bD T b with
  |none=>ae
  |some i2=>match i.desc with
   |.slice E=>match i2.desc with
    |.slice E2=>match aB E2 E with
     |false=>ae
     |true=>match bD T E with
      |none=>ae
      |some ie=>match bu 1 ie.bytes,bu 1 ie.size with
       |true,ab=>match ya (a y)with
        |none=>ae
        |some (_,k',m,es')=>match aB k' ie.size with
         |false=>ae
         |true=>match a x with
          |.e (.one (.c (.sl ab k n es)))=>match aB k ie.size with
           |true=>dv (σ++[.vec E ie.size (n+m) (cA n es es')]) λσ'=>aa (.e (.one (.vec σ.length ie.size (n+m) (cA n es es'))),σ',[(n+m)*ie.bytes<=140737488355328,n=0∨0<m])
           |false=>match aB n 0 with
            |true=>dv (σ++[.vec E ie.size (n+m) (cA n es es')]) λσ'=>aa (.e (.one (.vec σ.length ie.size (n+m) (cA n es es'))),σ',[(n+m)*ie.bytes<=140737488355328,n=0∨0<m])
            |false=>ae
          |.e (.one (.vec l k n es))=>match du l σ with
           |some (.vec E' k2 n2 zv)=>match aB E' E,aB k ie.size,aB k2 ie.size with
            |true,ab,ab=>dv (dH.qB l (.vec E ie.size (n+m) (cA n es es')) σ) λσ'=>aa (.e (.one (.vec l ie.size (n+m) (cA n es es'))),σ',[n2=n,zv=es,(n+m)*ie.bytes<=140737488355328])
            |_,_,_=>ae
           |_=>ae
          |.e (.one (.bp l (.sl g k 0 n)))=>match du l σ with
           |some (.buf E' k2 n2 zv)=>match aB E' E,aB k ie.size,aB k2 ie.size with
            |true,ab,ab=>dv (dH.qB l (.buf E ie.size (n2+m) (cA n2 zv es')) σ) λσ'=>aa (.e (.one (.bp l (.sl (n2+m) ie.size 0 (n2+m)))),σ',[g=n2,n=n2,(n2+m)*ie.bytes<=140737488355328])
            |_,_,_=>ae
           |_=>ae
          |_=>ae
       |_,_=>ae
    |_=>ae
   |_=>ae
def XT(T:List (Nat×TI))(CT:List (Nat×dt))(φ:Fr)(σ:List aP)(o:au):Option (D×List aP×List Prop) :=
 match o.op with
 |.alloc _|.box _ _=>W7 T φ σ o
 |.store t x y=>match W7 T φ σ o with
  |some r=>aa r
  |none=>zU T φ σ t x y
 |.call c=>match c.callee with
  |.builtin .append=>match c.args.toList,c.argTypes.toList with
   |[x,y],[t,a]=>Rg T (bM φ) σ x y t a
   |_,_=>ae
  |.value fo=>JA CT φ σ fo c.args.toList
  |_=>ae
 |_=>ae
def Rh(T:List (Nat×TI))(a:ak->D)(x y:ak)(t b:aj):Option (D×List Prop) :=
 match bD T t with
 |none=>ae
 |some i=>match bD T b with
  |none=>ae
  |some i2=>match i.desc with
   |.slice E=>match i2.desc with
    |.slice E2=>match aB E2 E with
     |false=>ae
     |true=>match bD T E with
      |none=>ae
      |some ie=>match bu 1 ie.bytes,bu 1 ie.size with
       |true,ab=>match ya (a y)with
        |none=>ae
        |some (_,k',m,es')=>match aB k' ie.size with
         |false=>ae
         |true=>match a x with
          |.e (.one (.c (.sl ab k n es)))=>match aB n 0 with
           |true=>aa (.e (.one (.c (.sl af ie.size (n+m) (cA n es es')))),[(n+m)*ie.bytes<=140737488355328,n=0∨0<m])
           |false=>ae
          |_=>ae
       |_,_=>ae
    |_=>ae
   |_=>ae
def XU(T:List (Nat×TI))(φ:Fr)(o:au):Option (D×List Prop) :=
 match o.op with
 |.call c=>match c.callee with
  |.builtin .append=>match c.args.toList,c.argTypes.toList with
   |[x,y],[t,a]=>Rh T (bM φ) x y t a
   |_,_=>ae
  |_=>ae
 |_=>ae
def BH:List (Nat×Bool)->Nat->Option Bool
 |[],_=>ae
 |(i,b)::r,t=>match aB i t with|true=>aa b|false=>BH r t
def XJ(ds:List (Nat×Bool)):Option Nat->Bool
 |none=>af
 |some t=>match BH ds (2000000+t)with
  |some ab=>ab
  |_=>af
def isW(ds:List (Nat×Bool)):Option Nat->Bool
 |none=>af
 |some t=>match BH ds (3000000+t)with
  |some ab=>ab
  |_=>af
def appW(w:Bool)(T:List (Nat×TI))(a:ak->D)(σ:List aP)(x y:ak)(t b:aj):Option (D×List aP×List Prop) :=
 match bD T t with
 |none=>ae
 |some i=>match bD T b with
  |none=>ae
  |some i2=>match i.desc with
   |.slice E=>match i2.desc with
    |.slice E2=>match aB E2 E with
     |false=>ae
     |true=>match bD T E with
      |none=>ae
      |some ie=>match bu 1 ie.bytes,bu 1 ie.size with
       |true,ab=>match w with
        |true=>match ya (a y)with
         |none=>ae
         |some (_,k',m,es')=>match aB k' ie.size with
          |false=>ae
          |true=>match a x with
           |.e (.one (.c (.sl ab k n es)))=>match aB n 0 with
            |true=>dv (σ++[.buf E ie.size (0+m) (cA 0 es es')]) λσ'=>aa (.e (.one (.bp σ.length (.sl (0+m) ie.size 0 (0+m)))),σ',[(0+m)*ie.bytes<=140737488355328])
            |false=>ae
           |_=>ae
        |false=>match a x,a y with
         |.e (.one (.bp l (.sl g k 0 i))),.e (.one (.bp l' (.sl g' k' j m)))=>match aB l' l with
          |false=>ae
          |true=>match du l σ with
           |some (.buf E' k2 n es)=>match aB E' E,aB k ie.size,aB k' ie.size,aB k2 ie.size with
            |true,ab,ab,ab=>dv (dH.qB l (.buf E ie.size n (G6 i j m es)) σ) λσ'=>aa (.e (.one (.bp l (.sl n ie.size 0 (i+m)))),σ',[g=n,g'=n,i+m<=n,j+m<=n])
            |_,_,_,_=>ae
           |_=>ae
         |_,_=>ae
       |_,_=>ae
    |_=>ae
   |_=>ae
def W8(w:Bool)(T:List (Nat×TI))(φ:Fr)(σ:List aP)(o:au):Option (D×List aP×List Prop) :=
 match o.op with
 |.call c=>match c.callee with
  |.builtin .append=>match c.args.toList,c.argTypes.toList with
   |[x,y],[t,a]=>appW w T (bM φ) σ x y t a
   |_,_=>ae
  |_=>ae
 |_=>ae
def Up(ds:List (Nat×Bool))(T:List (Nat×TI))(CT:List (Nat×dt))(φ:Fr)(σ:List aP)(o:au):Option (D×List aP×List Prop) :=
 match isW ds o.dst with
 |true=>W8 ab T φ σ o
 |false=>match XT T CT φ σ o with
  |some r=>aa r
  |none=>W8 af T φ σ o
def Jw(ds:List (Nat×Bool))(d:Option Nat)(x:D)(obs:List Prop):Option (D×List Prop) :=
 match d with
 |none=>aa (x,obs)
 |some t=>match BH ds t with
  |none=>aa (x,obs)
  |some b=>match x with
   |.e (.one (.c (.bool e)))=>aa (.e (.one (.c (.bool b))),kM obs [e=b])
   |_=>ae
def NG{ds:List (Nat×Bool)}{d:Option Nat}{x y:D}{obs DS:List Prop}(h:Jw ds d x obs=aa (y,DS))(a:az DS):y=x/\az obs:=by
 unfold Jw at h;split at h
 .grind
 .split at h
  .grind
  .split at h
   .cases h;rw[az.cat]at a;have:_=_:=a.2;grind
   grind
def wm(T:List (Nat×TI))(CT:List (Nat×dt))(ds:List (Nat×Bool))(all:List au)(φ:Fr)(σ:List aP)(o:au):Option (D×Option (List aP)×List Prop) :=
 let go:Option (D×Option (List aP)×List Prop):=match NA T CT φ σ o with
  |some (x,obs)=>match Jw ds o.dst x obs with
   |some (y,a)=>ou y λy=>aa (y,ae,a)
   |none=>ae
  |none=>match XJ ds o.dst with
   |true=>match XU T φ o with
    |some (x,obs)=>ou x λx=>aa (x,ae,obs)
    |none=>ae
   |false=>match Up ds T CT φ σ o with
    |some (x,σ',obs)=>ou x λx=>aa (x,aa σ',obs)
    |none=>ae
 match o.guard with
 |none=>go
 |some (j,b)=>match zV φ all j with
  |some (aa b')=>match b,b' with
   |true,ab=>go
   |false,af=>go
   |_,_=>aa (.eX [],ae,[])
  |some ae=>aa (.eX [],ae,[])
  |none=>ae
section
variable {P:ar}{X:Cx P}{T:List (Nat×TI)}{CT:List (Nat×dt)}{N:Nat}{all:List au}{φ:Fr}{σ:List aP}{o:au}
theorem NH(hT:cO P T)(u:∀σ s a,cm N σ s φ a->bd o (yielded all.toArray a.tmps)=ab){x y:ak}{t e:aj}{d:D}{obs:List Prop}(B:o.op=.call {callee:=.builtin .append,args:=#[x,y],argTypes:=#[t,e]})(h:Rh T (bM φ) x y t e=aa (d,obs))(b:az obs):OA X N all o φ σ d σ:=by
 unfold Rh at h;split at h
 .cases h
 rename_i i hi;split at h
 .cases h
 rename_i i2 M5;split at h
 case h_2=>cases h
 rename_i E A;split at h
 case h_2=>cases h
 rename_i E2 Ux;split at h
 .cases h
 rename_i j;have z:=bP j;subst z;split at h
 .cases h
 rename_i F l;split at h
 case h_2=>cases h
 rename_i f r;have c:lz P o x y E2 F:=⟨⟨t,e,i,i2,B,hT t i hi,A,hT e i2 M5,Ux⟩,hT _ _ l,by have:=cV f;omega,by have:=cV r;omega⟩
 split at h
 .cases h
 rename_i tx k' m es' hy;split at h
 .cases h
 rename_i q;have C:=bP q;subst C;have g:=λs v=>mD hy σ s v;split at h
 .rename_i k n es hx;split at h
  .rename_i w;cases h;exact(OA.kQ u (bF.oZ c hx (.inr (bP w)) g b.1 b.2)).BE
  grind
 grind
theorem NI(hT:cO P T){K:ak->D}{x y:ak}{t f:aj}{d:D}{σ':List aP}{obs:List Prop}(Q:o.op=.call {callee:=.builtin .append,args:=#[x,y],argTypes:=#[t,f]})(h:Rg T K σ x y t f=aa (d,σ',obs))(a:az obs):bF P o K σ d σ':=by
 unfold Rg at h;split at h
 .cases h
 rename_i i hi;split at h
 .cases h
 rename_i i2 M5;split at h
 case h_2=>cases h
 rename_i E M;split at h
 case h_2=>cases h
 rename_i E2 Ux;split at h
 .cases h
 rename_i C;have S:=bP C;subst S;split at h
 .cases h
 rename_i V G;split at h
 case h_2=>cases h
 rename_i z J;have b:lz P o x y E2 V:=⟨⟨t,f,i,i2,Q,hT t i hi,M,hT f i2 M5,Ux⟩,hT _ _ G,by have:=cV z;omega,by have:=cV J;omega⟩
 split at h
 .cases h
 rename_i tx k' m es' hy;split at h
 .cases h
 rename_i F;have U:=bP F;subst U;have c:=λs v=>mD hy σ s v;split at h
 .rename_i k n es hx;split at h
  .rename_i hk;rw[cZ]at h;cases h;exact bF.oZ b hx (.inl (bP hk)) c a.1 a.2
  .split at h
   .rename_i O;rw[cZ]at h;cases h;exact bF.oZ b hx (.inr (bP O)) c a.1 a.2
   grind
 .rename_i l k n es hx;split at h
  .rename_i L R e zv hl;split at h
   .rename_i H q j;rw[cZ,jd]at h;cases h;obtain⟨B,I,u⟩:e=n/\zv=es/\_:=a;subst B;subst I;have A:=bP H;subst A;have w:=bP q;have r:=bP j;subst r;subst w;exact bF.G8 b hx (bZ hl) c u
   grind
  grind
 .rename_i l g k n hx;split at h
  .rename_i L R e zv hl;split at h
   .rename_i H q j;rw[cZ,jd]at h;cases h;obtain⟨B,I,u⟩:g=e/\n=e/\_:=a;subst B;subst I;have A:=bP H;subst A;have w:=bP q;have r:=bP j;subst r;subst w;exact bF.NJ b hx (bZ hl) c u
   grind
  grind
 grind
theorem NK(hT:cO P T){b:ak->D}{x:ak}{a:Array aj}{t:aj}{d:D}(e:o.op=.call {callee:=.builtin .len,args:=#[x],argTypes:=a})(f:a[0]?=aa t)(h:Re T t (b x)=aa d):bF P o b σ d σ:=by
 unfold Re at h;split at h
 .cases h
 rename_i i hi;split at h
 .rename_i E c;split at h
  .rename_i tt k n es hs;cases h;exact bF.Uy hT e f hi c (λs v=>mD hs σ s v)
  grind
 .grind [bF.Ri]
 grind
theorem JB(hT:cO P T){m:ak->D}{c b:aj}{x:ak}{d:D}{obs:List Prop}(l:o.op=.convert c b x)(h:Jy T c b (m x)=aa (d,obs))(a:az obs):bF P o m σ d σ:=by
 unfold Jy at h;split at h
 .cases h
 rename_i i hi;split at h
 .cases h
 rename_i i2 M5;split at h
 .rename_i k' hd;split at h
  .rename_i k j t;cases h;exact bF.NL hT l hi M5 hd t a
  grind
 .rename_i hd;split at h
  .grind [bF.NM]
  .split at h
   .rename_i E f;split at h
    .rename_i w u;split at h
     .rename_i g;split at h
      .rename_i tt k n es hs;split at h
       .rename_i hk;have e:=bP hk;subst e;split at h
        .rename_i r q;cases h;exact bF.Hg hT l hi M5 f hd u g (λs v=>mD hs σ s v) q
        grind
       grind
      grind
     grind
    grind
   grind
 grind
theorem Hh(hT:cO P T){b:ak->D}{t:aj}{x:ak}{lo hi:Option ak}{d:D}{obs:List Prop}(g:o.op=.slice t x lo hi ae)(h:DR T b t x lo hi=aa (d,obs))(a:az obs):bF P o b σ d σ:=by
 unfold DR at h;split at h
 .cases h
 rename_i i c;split at h
 .cases h
 rename_i l e;split at h
 .cases h
 rename_i u f;split at h
 .grind [bF.JC]
 .grind [Nat.eq_of_beq_eq_true,bF.NN,mD]
 grind
theorem wA{α:Type}{xs:Array α}{x:α}(h:xs.toList=[x]):xs=#[x]:=Array.ext' h
theorem wB{α:Type}{xs:Array α}{x y:α}(h:xs.toList=[x,y]):xs=#[x,y]:=Array.ext' h
theorem Rj(hT:cO P T)(O:bE X CT){d:D}{obs:List Prop}(h:W4 T CT φ o=aa (d,obs))(g:az obs)(r:∀σ s a,cm N σ s φ a->bd o (yielded all.toArray a.tmps)=ab):OA X N all o φ σ d σ:=by
 unfold W4 at h;split at h
 .grind [OA.kQ,bF.move]
 .grind [OA.kQ,bF.assign]
 .rename_i t x y w;split at h
  .rename_i i hi;split at h
   .rename_i A;split at h
    .rename_i l k j u B;cases h;obtain⟨I,J⟩:0<=j/\j<(l.length:Int):=g;have:=bF.JD (σ:=σ) (m:=j.toNat) hT w hi A u B (by omega) (by omega);have e:iS l j=l[j.toNat]'(by omega):=by simp[iS,aq,br (by omega:j.toNat<l.length)]
     grind[OA.kQ]
    grind
   grind
  grind
 .rename_i t x y w;split at h
  .rename_i i hi;split at h
   .rename_i E A;split at h
    .rename_i Q K;split at h
     .rename_i tt k n es k2 j u B;split at h
      .rename_i hk;cases h;obtain⟨I,J⟩:0<=j/\j<(n:Int):=g;have e:=bP hk;subst e;exact OA.kQ r (bF.indexAddr (m:=j.toNat) hT w hi A K (λs v=>mD u σ s v) B (by omega) (by omega))
      grind
     grind
    grind
   grind
  grind
 .grind [OA.kQ,Hh]
 .grind [OA.kQ,JB]
 .rename_i c w;obtain⟨L,args,H⟩:=c;grind[wA,OA.kQ,NK,OA.BG]
 .rename_i c a b q;split at h
  .rename_i C;cases h;exact OA.kQ r (bF.pick q C)
  .rename_i C;cases h;exact OA.kQ r (bF.pick q C)
  grind
 .rename_i op t y z ty q;unfold PX at h;split at h
  .grind [OA.kQ,bF.Rl]
  .rename_i a b _ G F;split at h
   .split at h
    .rename_i _ _ a' b' _ _;cases h;exact OA.kQ r (bF.Uz q G F g.1 g.2)
    .grind [se,OA.kQ,bF.bits]
    grind
   .grind [se,OA.kQ,bF.bits]
   .grind [se,OA.kQ,bF.bits]
   .grind [se,OA.kQ,bF.bits]
   grind[OA.kQ,bF.binOp]
  .rename_i cs es G F;split at h
   .grind [OA.kQ,bF.structEq]
   grind
  grind
 .grind [OA.kQ,bF.unOp]
 .grind [OA.kQ,bF.extract,bZ]
 .rename_i t y f q;split at h
  .rename_i k j M;split at h
   .rename_i l off u;cases h;exact OA.kQ r (bF.sh hT q u M)
   .grind [OA.kQ,bF.ug]
   grind
  grind
 .grind [OA.kQ,bF.field]
 .grind [OA.kQ,bF.uh,bF.wC]
 .grind [OA.kQ,bF.build]
 .grind [OA.kQ,bF.buildSlice]
 .grind [OA.kQ,bF.makeFunc]
 .grind [OA.kQ,bF.makeInterface]
 .grind [OA.kQ,bF.typeAssert]
 grind
theorem Rm(hT:cO P T){d:D}{obs:List Prop}(h:XS T φ o=aa (d,obs))(e:az obs):bF P o (bM φ) σ d σ:=by
 unfold XS at h;split at h
 .rename_i t x y u;split at h
  .rename_i i hi;split at h
   .rename_i E B;split at h
    .rename_i L H;split at h
     .rename_i l g k q m kk j r G;split at h
      .rename_i hk;cases h;obtain⟨F,C⟩:0<=j/\j<(m:Int):=e;grind[Nat.eq_of_beq_eq_true,bF.XV]
      grind
     .rename_i b off n cap kk j r G;cases h;obtain⟨F,C⟩:0<=j/\j<(n:Int):=e;grind[bF.BI]
     grind
    grind
   grind
  grind
 .rename_i t x f u;split at h
  .rename_i k j K;split at h
   .rename_i l g W i q r;cases h;exact bF.Rn hT u r K
   .rename_i b off r;cases h;exact bF.Ro hT u r K
   grind
  grind
 .grind [bF.XW]
 .rename_i t x lo hi u;split at h
  .cases h
  rename_i i A;split at h
  .cases h
  rename_i V Y;split at h
  .cases h
  grind[Nat.eq_of_beq_eq_true,bF.sliceB]
 .rename_i t x y z u;split at h
  .cases h
  rename_i i A;split at h
  .rename_i E B;split at h
   .cases h
   rename_i L H;split at h
   .rename_i tt k n es kj j Q m r G J;cases h;obtain⟨F,C,I⟩:0<=j/\j<=m/\m<=(n:Int):=e;exact bF.slice3 hT u A B H (λs v=>mD r σ s v) G J F C I
   grind
  grind
 .rename_i t x w y z u;split at h
  .cases h
  rename_i i A;split at h
  .rename_i E B;split at h
   .cases h
   rename_i L H;split at h
   .rename_i l g k q n S i kj j Q m r Z G J;cases h;obtain⟨F,C,I,U⟩:0<=i/\i<=j/\j<=m/\m<=(n:Int):=e;grind[bF.slice3B]
   grind
  grind
 .rename_i c u;obtain⟨M,args,R⟩:=c;simp only at h;split at h
  .split at h
   .rename_i x t r O;split at h
    .rename_i i hi;split at h
     .rename_i E B;split at h
      .grind [wA,bF.XX]
      .rename_i a n cap hxx;cases h;have:=wA r;subst this;exact bF.XY hT u O hi B hxx e
      grind
     grind
    grind
   grind
  grind
 grind
theorem Hi(hT:cO P T){t:aj}{x:ak}(c:o.op=.load t x){d:D}{obs:List Prop}(h:zN T φ σ t x=aa (d,obs))(a:az obs):bF P o (bM φ) σ d σ:=by
 unfold zN at h;split at h
 .rename_i m hi;split at h
  .rename_i l g k i f j;split at h
   .rename_i E k' n es hB;split at h
    .rename_i hk;have e:=bP hk;subst e;split at h
     .rename_i e b;cases h;exact bF.UA hT c j a.1 (bZ hB) hi b a.2
     grind
    grind
   grind
  grind
 grind
theorem DT(hT:cO P T){t:aj}{x y:ak}(j:o.op=.store t x y){d:D}{σ':List aP}{obs:List Prop}(h:zU T φ σ t x y=aa (d,σ',obs))(a:az obs):bF P o (bM φ) σ d σ':=by
 unfold zU at h;split at h
 .rename_i r hi;split at h
  .rename_i l g k i f q;split at h
   .rename_i E k' n es hB;split at h
    .rename_i hk;have e:=bP hk;subst e;split at h
     .rename_i new hy;split at h
      .rename_i c;split at h
       .rename_i cc PN;split at h
        .rename_i m;rw[cZ,jd]at h;cases h;have b:f=0/\cc.length=k':=by
          cases f with
          |zero=>exact⟨rfl,bP m⟩
          |succ f=>simp[Jz]at m
         obtain⟨rfl,b⟩:=b;exact bF.JE hT j q a.1 (bZ hB) hi hy (bP c) PN (λs=>si (by grind)) a.2
        .split at h
         .rename_i ci XZ;rw[cZ,jd]at h;cases h;exact bF.JE hT j q a.1 (bZ hB) hi hy (bP c) PN (λ_=>XZ) a.2
         grind
       grind
      grind
     grind
    grind
   grind
  grind
 grind
theorem Rp(hT:cO P T)(g:bE X CT){d:D}{obs:List Prop}(h:NA T CT φ σ o=aa (d,obs))(c:az obs)(f:∀σ s a,cm N σ s φ a->bd o (yielded all.toArray a.tmps)=ab):OA X N all o φ σ d σ:=by
 unfold NA at h;split at h
 .rename_i t y e;split at h
  .rename_i i b;cases h;unfold Jr at b;split at b
   .grind [OA.kQ,bF.FN,bZ,bF.JF]
   grind
  grind[OA.kQ,Hi]
 grind[Rj,OA.kQ,Rm]
theorem Rq(hT:cO P T)(i:bE X CT){d:D}{σ':List aP}{obs:List Prop}(h:XT T CT φ σ o=aa (d,σ',obs))(b:az obs)(g:∀σ s a,cm N σ s φ a->bd o (yielded all.toArray a.tmps)=ab):OA X N all o φ σ d σ':=by
 unfold XT at h;split at h
 .grind [OA.kQ,DU]
 .grind [OA.kQ,DU]
 .grind [OA.kQ,DU,DT]
 .rename_i c j;obtain⟨f,args,e⟩:=c;grind[wB,OA.kQ,NI,OA.call]
 grind
theorem NO(hT:cO P T){w:Bool}{A:ak->D}{x y:ak}{t c:aj}{d:D}{σ':List aP}{obs:List Prop}(Q:o.op=.call {callee:=.builtin .append,args:=#[x,y],argTypes:=#[t,c]})(h:appW w T A σ x y t c=aa (d,σ',obs))(b:az obs):bF P o A σ d σ':=by
 unfold appW at h;split at h
 .cases h
 rename_i i hi;split at h
 .cases h
 rename_i i2 M5;split at h
 case h_2=>cases h
 rename_i E B;split at h
 case h_2=>cases h
 rename_i E2 Ux;split at h
 .cases h
 rename_i q;have S:=bP q;subst S;split at h
 .cases h
 rename_i V u;split at h
 case h_2=>cases h
 rename_i e z;have a:lz P o x y E2 V:=⟨⟨t,c,i,i2,Q,hT t i hi,B,hT c i2 M5,Ux⟩,hT _ _ u,by have:=cV e;omega,by have:=cV z;omega⟩
 split at h
 .split at h
  .cases h
  rename_i tx k' m es' hy;split at h
  .cases h
  rename_i r;have U:=bP r;subst U;split at h
  .rename_i k n es hx;split at h
   .rename_i F;have H:=bP F;subst H;rw[cZ]at h;cases h;exact bF.G5 a hx (λs v=>mD hy _ s v) b
   grind
  grind
 .split at h
  .rename_i l g k i l' g' k' j m hx hy;split at h
   .cases h
   rename_i f;have el:=bP f;subst el;split at h
   .rename_i W Y n es hl;split at h
    .rename_i L q2 q3 q4;have O:=bP L;have R:=bP q2;have M:=bP q3;have J:=bP q4;rw[cZ]at h;cases h;obtain⟨G,K,C,I⟩:=b;subst G K O R M J;have:=bF.I4 (σ:=σ) a hx hy (bZ hl) C I;grind[jd]
    grind
   grind
  grind
theorem Rr(hT:cO P T)(i:bE X CT){ds:List (Nat×Bool)}{d:D}{σ':List aP}{obs:List Prop}(h:Up ds T CT φ σ o=aa (d,σ',obs))(b:az obs)(g:∀σ s a,cm N σ s φ a->bd o (yielded all.toArray a.tmps)=ab):OA X N all o φ σ d σ':=by
 have key:∀w,W8 w T φ σ o=aa (d,σ',obs)->OA X N all o φ σ d σ':=by
  intro w h;unfold W8 at h;split at h
  .rename_i c j;obtain⟨f,args,e⟩:=c;grind[wB,OA.kQ,NO]
  grind
 unfold Up at h;grind[Rq]
def gB(hT:cO P T)(z:bE X CT){ds:List (Nat×Bool)}{d:D}{σ':Option (List aP)}{obs:List Prop}(h:wm T CT ds all φ σ o=aa (d,σ',obs))(g:az obs):OA X N all o φ σ d (σ'.getD σ):=by
 have go:(∀σ s a,cm N σ s φ a->bd o (yielded all.toArray a.tmps)=ab)->(match NA T CT φ σ o with
  |some (x,obs)=>match Jw ds o.dst x obs with
   |some (y,l)=>ou y λy=>aa (y,ae,l)
   |none=>ae
  |none=>match XJ ds o.dst with
   |true=>match XU T φ o with
    |some (x,obs)=>ou x λx=>aa (x,ae,obs)
    |none=>ae
   |false=>match Up ds T CT φ σ o with
    |some (x,σ',obs)=>ou x λx=>aa (x,aa σ',obs)
    |none=>ae)=aa (d,σ',obs)->OA X N all o φ σ d (σ'.getD σ):=by
  intro w h;split at h
  .rename_i x k A;split at h
   .rename_i y q r;rw[nt]at h;cases h;obtain⟨rfl,B⟩:=NG r g;grind[Rp]
   grind
  .split at h
   .split at h
    .rename_i x k n;rw[nt]at h;cases h;unfold XU at n;split at n
     .rename_i c C;obtain⟨u,args,t⟩:=c;grind[wB,NH]
     grind
    grind
   grind[nt,Rr]
 unfold wm at h;simp only at h;split at h
 .grind [dC]
 .rename_i j b i;split at h
  .rename_i m e;have v:∀σ s a,cm N σ s φ a->bd o (yielded all.toArray a.tmps)=(aa m==aa b):=λσ s a f=>by simp only[bd,i,qi e f]
   split at h
   .grind
   .grind
   .cases h;refine OA.pass (λσ s a f=>(v σ s a f).trans ?_);cases b<;>cases m<;>simp_all
  .rename_i e;cases h;exact OA.pass (λσ s a f=>by simp only[bd,i,qi e f];rfl)
  grind
end
def IS(φ:Fr)(o:au):Bool:=match o.op with
 |.load _ x=>match bM φ x with
  |.e (.one (.c (.rp _)))=>af
  |_=>ab
 |_=>af
def Jq{T:List (Nat×TI)}{CT:List (Nat×dt)}{φ:Fr}{σ σ2:List aP}{o:au}(h:IS φ o=af):NA T CT φ σ o=NA T CT φ σ2 o:=by
 unfold NA;split
 .rename_i t x a;simp only[IS,a]at h;split at h
  .rename_i cs hx;simp only[Jr,zN,hx]
  grind
 .rfl
def Js{T:List (Nat×TI)}{CT:List (Nat×dt)}{ds:List (Nat×Bool)}{all:List au}{φ:Fr}{σ:List aP}{o:au}{d:D}{obs:List Prop}(h:IS φ o=af)(a:wm T CT ds all φ σ o=aa (d,ae,obs))(σ2:List aP):
  wm T CT ds all φ σ2 o=aa (d,ae,obs):=by
 unfold wm at a⊢;simp only at a⊢;rw[Jq (σ2:=σ) h];cases b:NA T CT φ σ o with
 |some r=>grind
 |none =>
  simp only[b]at a⊢;cases c:XJ ds o.dst with
  |true=>grind
  |false =>
   simp only[c]at a⊢;have key:∀{y:Option (D×Option (List aP)×List Prop)},(match Up ds T CT φ σ o with|some (x,σ',obs)=>ou x λx=>aa (x,aa σ',obs)|none=>ae)=y->y≠aa (d,ae,obs):=by grind[nt]
   split at a
   .grind
   grind
def pf(t:Nat):List au->Bool
 |[]=>af
 |o::r=>match o.dst with
  |some d=>match aB d t with|true=>ab|false=>pf t r
  |none=>pf t r
theorem r6{t:Nat}:∀{l:List au}{i:Nat}{o:au},l[i]?=aa o->o.dst=aa t->pf t l=ab
 |[],_,_,h,_=>by grind
 |p::r,0,o,h,a=>by simp at h;subst h;simp[pf,a,iR]
 |p::r,i+1,o,h,a=>by have:=r6 (l:=r) (by simpa using h) a;simp only[pf];grind
theorem qf{t:Nat}:∀{l:List au},pf t l=ab->∃(i:Nat)(o:au),l[i]?=aa o/\o.dst=aa t
 |[],h=>by cases h
 |p::r,h=>by
  simp only[pf]at h;split at h
  .rename_i d e;split at h
   .rename_i c;exact⟨0,p,rfl,by grind[Nat.eq_of_beq_eq_true]⟩
   .obtain⟨i,o,b,a⟩:=qf h;exact⟨i+1,o,by grind,a⟩
  .obtain⟨i,o,b,a⟩:=qf h;exact⟨i+1,o,by grind,a⟩
def my:List au->Bool
 |[]=>ab
 |o::r=>match o.dst with
  |some d=>match pf d r with|true=>af|false=>my r
  |none=>my r
theorem tk{t:Nat}:∀{l:List au}{i j:Nat}{o p:au},my l=ab->l[i]?=aa o->l[j]?=aa p->o.dst=aa t->p.dst=aa t->i=j
 |[],_,_,_,_,_,h,_,_,_=>by grind
 |q::r,0,0,_,_,_,_,_,_,_=>rfl
 |q::r,0,j+1,o,p,a,b,c,d1,d2=>by simp at b;subst b;simp only[my,d1]at a;grind[r6]
 |q::r,i+1,0,o,p,a,b,c,d1,d2=>by simp at c;subst c;simp only[my,d2]at a;grind[r6]
 |q::r,i+1,j+1,o,p,a,b,c,d1,d2=>by
  have:my r=ab:=by simp only[my]at a;grind
  have d:r[i]?=aa o:=by grind
  have f:r[j]?=aa p:=by grind
  have e:=tk this d f d1 d2;omega
def uM(all:List au):Fr->Fr
 |[]=>[]
 |(t,d)::r=>match pf t all with|true=>uM all r|false=>(t,d)::uM all r
def lP{all:List au}{t:Nat}:∀{φ:Fr},look (uM all φ) t=if pf t all=ab then .any else look φ t
 |[]=>by simp[uM,look]
 |(u,d)::r=>by
  simp only[uM];by_cases b:aB u t=ab
  .have e:=bP b;subst e;cases c:pf u all with
   |true=>simp only;rw[lP];grind
   |false=>simp[look]
  .have a:aB u t=af:=by grind
   cases c:pf u all with
   |true=>simp only;rw[lP];simp[look,a]
   |false=>simp only[look,a,cond];rw[lP]
def bT:List Edge->List Nat
 |[]=>[]
 |e::r=>match e.ground with
  |.textOnly _=>bT r
  |.gcOnly _=>bT r
  |_=>e.on::bT r
theorem eN{j:Nat}:∀{l:List Edge},j∈bT l↔∃e∈l,dj e=ab/\e.on=j
 |[]=>by simp[bT]
 |e::r=>by
  have c:=eN (j:=j) (l:=r);have yes:bT (e::r)=e.on::bT r->dj e=ab->(j∈bT (e::r)↔∃a∈e::r,dj a=ab/\a.on=j):=by grind
  have no:bT (e::r)=bT r->dj e=af->(j∈bT (e::r)↔∃a∈e::r,dj a=ab/\a.on=j):=by grind
  cases b:e.ground with
  |textOnly w=>exact no (by simp only[bT,b]) (by unfold dj Region.binds;grind)
  |gcOnly w=>exact no (by simp only[bT,b]) (by unfold dj Region.binds;grind)
  |_=>exact yes (by simp only[bT,b]) (by unfold dj Region.binds;rw[b])
def wo(i t:Nat):List au->Bool
 |[]=>af
 |o::r=>match o.dst with
  |some d=>match aB d t with
   |true=>match ia i (bT o.after.toList)with
    |true=>wo i t r
    |false=>ab
   |false=>wo i t r
  |none=>wo i t r
def wq{i t:Nat}:∀{l:List au},wo i t l=af->∀(j:Nat)(o:au),l[j]?=aa o->o.dst=aa t->ia i (bT o.after.toList)=ab
 |[],_,j,o,h,_=>by grind
 |p::r,h,0,o,a,b=>by simp at a;subst a;simp only[wo,b,iR]at h;grind
 |p::r,h,j+1,o,a,b=>by
  have:wo i t r=af:=by simp only[wo]at h;grind
  exact wq this j o (by grind) b
def pg(all:List au):Fr->List (Nat×D×Bool)
 |[]=>[]
 |(t,d)::r=>match pf t all with
  |true=>(t,d,ab)::pg all r
  |false=>(t,d,af)::pg all r
def kP(i:Nat)(all:List au):List (Nat×D×Bool)->Fr
 |[]=>[]
 |(t,d,b)::r=>match b with
  |false=>(t,d)::kP i all r
  |true=>match wo i t all with
   |true=>kP i all r
   |false=>(t,d)::kP i all r
def yu{i:Nat}{all:List au}{t:Nat}:∀{φ:Fr},look (kP i all (pg all φ)) t=if pf t all=ab/\wo i t all=ab then .any else look φ t
 |[]=>by simp[pg,kP,look]
 |(u,d)::r=>by
  have f:=yu (i:=i) (all:=all) (t:=t) (φ:=r);have e:look ((u,d)::kP i all (pg all r)) t=if aB u t=ab then d else look (kP i all (pg all r)) t:=by simp only[look];cases aB u t<;>rfl
  have a:look ((u,d)::r) t=if aB u t=ab then d else look r t:=by simp only[look];cases aB u t<;>rfl
  cases b:pf u all with
  |false =>
   simp only[pg,b,kP];grind[Nat.eq_of_beq_eq_true]
  |true =>
   cases c:wo i u all with
   |true =>
    simp only[pg,b,kP,c];grind[Nat.eq_of_beq_eq_true]
   |false =>
    simp only[pg,b,kP,c];grind[Nat.eq_of_beq_eq_true]
def jo(m:Nat->Bool):Nat->List (Option Nat×D)->Fr->Fr
 |_,[],φ=>φ
 |i,(d,x)::r,φ=>match m i with
  |true=>match d with
   |some t=>(t,x)::jo m (i+1) r φ
   |none=>jo m (i+1) r φ
  |false=>jo m (i+1) r φ
def nv{m:Nat->Bool}{φ:Fr}{t:Nat}:∀{l:List (Option Nat×D)}{i:Nat},(∃j x,l[j]?=aa (aa t,x)/\m (i+j)=ab/\look (jo m i l φ) t=x)∨look (jo m i l φ) t=look φ t
 |[],i=>.inr rfl
 |(d,x)::r,i=>by
  have k:=nv (m:=m) (φ:=φ) (t:=t) (l:=r) (i:=i+1);have step:look (jo m i ((d,x)::r) φ) t=look (jo m (i+1) r φ) t->((∃j a,((d,x)::r)[j]?=aa (aa t,a)/\m (i+j)=ab/\look (jo m i ((d,x)::r) φ) t=a)∨look (jo m i ((d,x)::r) φ) t=look φ t):=by
   intro e;rw[e];rcases k with⟨j,a,o,n,g⟩|h
   .exact .inl ⟨j+1,a,by grind,by grind,g⟩
   grind
  cases b:m i with
  |false=>exact step (by simp[jo,b])
  |true =>
   cases d with
   |none=>exact step (by simp[jo,b])
   |some u =>
    by_cases f:aB u t=ab
    .have e:=bP f;subst e;exact .inl ⟨0,x,rfl,by grind,by simp[jo,b,look]⟩
    .have c:aB u t=af:=by grind
     exact step (by simp[jo,b,look,c])
structure Du where
 i:Nat
 pre:List (Option Nat×D)
 σ:List aP
 cls:List (List Bool)
 zO:List Bool
 NB:List Bool
 obs:List Prop
def TJ(i:Nat):List Nat->Bool
 |[]=>ab
 |k::r=>match Nat.blt k i with|true=>TJ i r|false=>af
def DM{i:Nat}:∀{l:List Nat},TJ i l=ab->∀k∈l,k<i
 |[],_,k,h=>by grind
 |x::r,h,k,hk=>by
  simp only[TJ]at h;cases a:Nat.blt x i with
  |false=>grind
  |true =>
   simp only[a]at h;rcases eE.1 hk with rfl|hk
   .exact cV a
   .exact DM h k hk
def bit:List Bool->Nat->Bool
 |[],_=>af
 |b::_,0=>b
 |_::r,n+1=>bit r n
def x8:List Bool->List Bool->List Bool
 |[],b=>b
 |true::a,[]=>ab::a
 |false::a,[]=>af::a
 |true::a,_::b=>ab::x8 a b
 |false::a,ab::b=>ab::x8 a b
 |false::a,af::b=>af::x8 a b
def mz:∀{a b:List Bool}{j:Nat},bit (x8 a b) j=(bit a j||bit b j)
 |[],b,j=>by simp[x8,bit]
 |true::a,[],j=>by simp[x8,bit]
 |false::a,[],j=>by simp[x8,bit]
 |true::a,c::b,0=>by simp[x8,bit]
 |true::a,c::b,j+1=>by simp only[x8,bit];exact mz
 |false::a,ab::b,0=>by simp[x8,bit]
 |false::a,ab::b,j+1=>by simp only[x8,bit];exact mz
 |false::a,af::b,0=>by simp[x8,bit]
 |false::a,af::b,j+1=>by simp only[x8,bit];exact mz
def tm:Nat->List Bool
 |0=>[ab]
 |n+1=>af::tm n
theorem r7:∀{n j:Nat},bit (tm n) j=decide (n=j)
 |0,0=>rfl
 |0,j+1=>by simp[tm,bit]
 |n+1,0=>by simp[tm,bit]
 |n+1,j+1=>by simp only[tm,bit,r7];simp
def FI(a:List (List Bool)):List Nat->List Bool
 |[]=>[]
 |e::r=>match du e a with
  |some c=>x8 (x8 c (tm e)) (FI a r)
  |none=>x8 (tm e) (FI a r)
theorem zQ{b:List (List Bool)}{j:Nat}:∀{l:List Nat},bit (FI b l) j=ab->∃e∈l,e=j∨∃c,b[e]?=aa c/\bit c j=ab
 |[],h=>by simp[FI,bit]at h
 |e::r,h=>by
  simp only[FI,ff]at h;have two:∀{a:Nat},bit (tm e) a=ab->e=a:=by grind[r7]
  have rest:bit (FI b r) j=ab->∃d∈e::r,d=j∨∃c,b[d]?=aa c/\bit c j=ab:=by intro h;obtain⟨d,f,g⟩:=zQ h;grind
  split at h
  .rename_i c i;rw[mz,mz,jC,jC]at h;grind
  .rw[mz,jC]at h;grind
def tn:List Bool->List Bool->Bool
 |[],_=>ab
 |true::a,ab::b=>tn a b
 |true::_,_=>af
 |false::a,_::b=>tn a b
 |false::a,[]=>tn a []
theorem qg:∀{a b:List Bool}{j:Nat},tn a b=ab->bit a j=ab->bit b j=ab
 |[],b,j,_,d=>by simp[bit]at d
 |true::a,ab::b,0,_,_=>rfl
 |true::a,ab::b,j+1,h,d=>by simp only[bit]at d⊢;exact qg (by simpa[tn]using h) d
 |true::a,af::b,j,h,_=>by simp[tn]at h
 |true::a,[],j,h,_=>by simp[tn]at h
 |false::a,c::b,0,_,d=>by simp[bit]at d
 |false::a,c::b,j+1,h,d=>by simp only[bit]at d⊢;exact qg (by simpa[tn]using h) d
 |false::a,[],0,_,d=>by simp[bit]at d
 |false::a,[],j+1,h,d=>by simp only[bit]at d;have:=qg (j:=j) (by simpa[tn]using h) d;simp[bit]at this
def r8(T:List (Nat×TI))(CT:List (Nat×dt))(N:Nat)(ds:List (Nat×Bool))(all:List au)(φm:List (Nat×D×Bool))(st:Du)(o:au):Option Du :=
 match fR N o.dst with
 |false=>ae
 |true =>
  dv (bT o.after.toList) λes =>
  match TJ st.i es with
  |false=>ae
  |true=>match wm T CT ds all (jo (λj=>ia j es) 0 st.pre (kP st.i all φm)) st.σ o with
   |none=>ae
   |some (x,σ',obs) =>
    dv (FI st.cls es) λcl =>
    match σ',IS (jo (λj=>ia j es) 0 st.pre (kP st.i all φm)) o with
    |none,af=>dv (st.pre++[(o.dst,x)]) λpre=>dv (st.cls++[cl]) λcls=>dv (kM obs st.obs) λobs=>aa ⟨st.i+1,pre,st.σ,cls,st.zO,st.NB,obs⟩
    |none,ab=>match tn st.zO cl with
     |true=>dv (st.pre++[(o.dst,x)]) λpre=>dv (st.cls++[cl]) λcls=>dv (kM obs st.obs) λobs=>dv (x8 st.NB (tm st.i)) λa=>aa ⟨st.i+1,pre,st.σ,cls,st.zO,a,obs⟩
     |false=>ae
    |some σ',_=>match tn st.NB cl with
     |true=>dv (st.pre++[(o.dst,x)]) λpre=>dv (st.cls++[cl]) λcls=>dv (kM obs st.obs) λobs=>dv (x8 st.NB (tm st.i)) λa=>dv (x8 st.zO (tm st.i)) λb=>aa ⟨st.i+1,pre,σ',cls,b,a,obs⟩
     |false=>ae
def NC(T:List (Nat×TI))(CT:List (Nat×dt))(N:Nat)(ds:List (Nat×Bool))(all:List au)(φm:List (Nat×D×Bool)):List au->Du->Option Du
 |[],st=>aa st
 |o::r,st=>match r8 T CT N ds all φm st o with
  |some qC=>NC T CT N ds all φm r qC
  |none=>ae
def FJ(T:List (Nat×TI))(CT:List (Nat×dt))(N:Nat)(ds:List (Nat×Bool))(all:List au)(φ:Fr)(σ:List aP):Option (Fr×List aP×List Prop) :=
 match my all with
 |false=>ae
 |true=>dv (pg all φ) λφm=>match NC T CT N ds all φm all ⟨0,[],σ,[],[],[],[]⟩with
  |some st=>dv (jo (λ_=>ab) 0 st.pre (uM all φ)) λφ'=>aa (φ',st.σ,st.obs)
  |none=>ae
def jy:au:=⟨ae,.move (.tmp 0),0,"",#[],ae⟩
section
variable (T:List (Nat×TI))(CT:List (Nat×dt))(N:Nat)(ds:List (Nat×Bool))(all:List au)(φm:List (Nat×D×Bool))
def x9(st:Du):Nat->Du
 |0=>st
 |i+1=>(r8 T CT N ds all φm (x9 st i) (all.getD i jy)).getD (x9 st i)
def PT(st:Du)(i:Nat):Fr:=jo (λj=>ia j (bT (all.getD i jy).after.toList)) 0 (x9 T CT N ds all φm st i).pre (kP (x9 T CT N ds all φm st i).i all φm)
def FK(st:Du)(i:Nat):Option (D×Option (List aP)×List Prop):=wm T CT ds all (PT T CT N ds all φm st i) (x9 T CT N ds all φm st i).σ (all.getD i jy)
def xD(st:Du)(i:Nat):D:=match FK T CT N ds all φm st i with|some (x,_,_)=>x|none=>.any
def oP(st:Du)(i:Nat):Bool:=match FK T CT N ds all φm st i with|some (_,aa _,_)=>ab|_=>af
def uf(st:Du)(i:Nat):Bool:=!IS (PT T CT N ds all φm st i) (all.getD i jy)&&!oP T CT N ds all φm st i
def PU(st:Du)(i:Nat):List Bool:=FI (x9 T CT N ds all φm st i).cls (bT (all.getD i jy).after.toList)
end
section
variable {T:List (Nat×TI)}{CT:List (Nat×dt)}{N:Nat}{ds:List (Nat×Bool)}{all:List au}{φm:List (Nat×D×Bool)}
structure Jt(T:List (Nat×TI))(CT:List (Nat×dt))(N:Nat)(ds:List (Nat×Bool))(all:List au)(φm:List (Nat×D×Bool))(st qC:Du)(o:au)(x:D)(σ':Option (List aP))(obs:List Prop):Prop where
 dst:fR N o.dst=ab
 lt:TJ st.i (bT o.after.toList)=ab
 op:wm T CT ds all (jo (λj=>ia j (bT o.after.toList)) 0 st.pre (kP st.i all φm)) st.σ o=aa (x,σ',obs)
 i:qC.i=st.i+1
 pre:qC.pre=st.pre++[(o.dst,x)]
 cls:qC.cls=st.cls++[FI st.cls (bT o.after.toList)]
 σ:qC.σ=σ'.getD st.σ
 obs:qC.obs=kM obs st.obs
 eff:qC.zO=if σ'.isSome=ab then x8 st.zO (tm st.i)else st.zO
 nf:qC.NB=if(IS (jo (λj=>ia j (bT o.after.toList)) 0 st.pre (kP st.i all φm)) o||σ'.isSome)=ab then x8 st.NB (tm st.i)else st.NB
 load:IS (jo (λj=>ia j (bT o.after.toList)) 0 st.pre (kP st.i all φm)) o=ab->σ'.isSome=af->tn st.zO (FI st.cls (bT o.after.toList))=ab
 jw:σ'.isSome=ab->tn st.NB (FI st.cls (bT o.after.toList))=ab
def BF{st qC:Du}{o:au}(h:r8 T CT N ds all φm st o=aa qC):∃x σ' obs,Jt T CT N ds all φm st qC o x σ' obs:=by
 unfold r8 at h;split at h
 .cases h
 rename_i c;simp only[cZ]at h;split at h
 .cases h
 rename_i a;split at h
 .cases h
 rename_i x σ' obs mr;refine⟨x,σ',obs,?_⟩;cases σ' with
 |none =>
  cases d:IS (jo (λj=>ia j (bT o.after.toList)) 0 st.pre (kP st.i all φm)) o with
  |false =>
   simp only[d,cZ]at h;cases h;exact⟨c,a,mr,rfl,rfl,rfl,rfl,rfl,by simp,by grind,by grind,by simp⟩
  |true =>
   simp only[d,cZ]at h;split at h
   .rename_i b;cases h;exact⟨c,a,mr,rfl,rfl,rfl,rfl,rfl,by simp,by grind,λ_ _=>b,by simp⟩
   grind
 |some σ' =>
  simp only[cZ]at h;split at h
  .rename_i b;cases h;exact⟨c,a,mr,rfl,rfl,rfl,rfl,rfl,by simp,by simp,by simp,λ_=>b⟩
  grind
def FL{st sf:Du}:∀{rest:List au}{k:Nat},(∀i,rest[i]?=all[k+i]?)->NC T CT N ds all φm rest (x9 T CT N ds all φm st k)=aa sf ->
  (∀i o,rest[i]?=aa o->r8 T CT N ds all φm (x9 T CT N ds all φm st (k+i)) o=aa (x9 T CT N ds all φm st (k+i+1)))/\x9 T CT N ds all φm st (k+rest.length)=sf
 |[],k,_,h=>by cases h;grind
 |p::r,k,c,h=>by
  simp only[NC]at h;have d:all[k]?=aa p:=by have:=c 0;grind
  split at h
  .rename_i a b;have e:x9 T CT N ds all φm st (k+1)=a:=by simp only[x9,aq,d,im,b]
   rw[<-e]at h;obtain⟨f,g⟩:=FL (rest:=r) (k:=k+1) (λi=>by have:=c (i+1);grind) h;grind
  grind
theorem Ju{j:Nat}:∀{l:List Nat},ia j l=ab->j∈l:=by
 intro l;induction l with
 |nil=>intro h;cases h
 |cons a r b =>
  intro h;simp only[ia]at h;grind[Nat.eq_of_beq_eq_true]
def Jv{P:ar}{X:Cx P}(hf:P.follows Departure.mixedOrders=ab)(hT:cO P T)(hC:bE X CT){ops:Array au}{φ φ':Fr}{σ σ':List aP}{obs:List Prop}(h:FJ T CT N ds ops.toList φ σ=aa (φ',σ',obs))(acd:az obs){Q:Post}(hQ:Q .normal φ' σ')(id:Nat):
  AW X N (.region id ops ab) Q φ σ:=by
 unfold FJ at h;split at h
 .cases h
 rename_i Uq;rw[cZ]at h;split at h
 case h_2=>cases h
 rename_i sf wu;rw[cZ]at h;cases h;generalize Rb:ops.toList=all at *;generalize XK:pg all φ=φm at *;have R:∀i:Nat,ops[i]?=all[i]?:=λi=>by grind
 have IM:ops.size=all.length:=by grind
 let g:Du:=⟨0,[],σ,[],[],[],[]⟩
 obtain⟨I,J⟩:=FL (T:=T) (CT:=CT) (N:=N) (ds:=ds) (φm:=φm) (st:=g) (rest:=all) (k:=0) (λi=>by simp) wu;simp only[bC]at I J;let F:=x9 T CT N ds all φm g;have r:∀i o,all[i]?=aa o->all.getD i jy=o:=λi o h=>by grind
 have Z1:∀i o,all[i]?=aa o->PT T CT N ds all φm g i=(jo (λj=>ia j (bT (o).after.toList)) 0 (F i).pre (kP (F i).i all φm)):=λi o h=>by unfold PT;grind
 have facts:∀i o,all[i]?=aa o->∃O,Jt T CT N ds all φm (F i) (F (i+1)) o (xD T CT N ds all φm g i) (if oP T CT N ds all φm g i=ab then aa (F (i+1)).σ else ae) O:=by
  intro i o q;obtain⟨x,σ1,O,n⟩:=BF (I i o q);have z:=n.op;have hR:FK T CT N ds all φm g i=aa (x,σ1,O):=by unfold FK PT;grind
  have hx:xD T CT N ds all φm g i=x:=by unfold xD;rw[hR]
  cases σ1 with
  |none =>
   have B:oP T CT N ds all φm g i=af:=by unfold oP;rw[hR]
   grind
  |some σ2 =>
   have B:oP T CT N ds all φm g i=ab:=by unfold oP;rw[hR]
   have hσ2:(F (i+1)).σ=σ2:=n.σ;grind
 have H:∀i,i<=all.length->(F i).i=i:=by
  intro i;induction i with
  |zero=>intro _;rfl
  |succ i C =>
   intro hi;obtain⟨_,n⟩:=facts i _ (br (by omega));rw[n.i,C (by omega)]
 have Ur:∀i,i<=all.length->∀j,(F i).pre[j]?=if j<i then(all[j]?).map (λo=>(o.dst,xD T CT N ds all φm g j))else ae:=by
  intro i;induction i with
  |zero=>intro _ j;simp[F,x9,g]
  |succ i C =>
   intro hi j;obtain⟨_,n⟩:=facts i _ (br (by omega));have hlen:(F i).pre.length=i:=by
    apply Nat.le_antisymm
    .grind
    grind
   rw[n.pre];grind
 have XL:∀i,i<=all.length->∀j,(F i).cls[j]?=if j<i then aa (PU T CT N ds all φm g j)else ae:=by
  intro i;induction i with
  |zero=>intro _ j;simp[F,x9,g]
  |succ i C =>
   intro hi j;obtain⟨_,n⟩:=facts i _ (br (by omega));have hlen:(F i).cls.length=i:=by
    apply Nat.le_antisymm
    .apply Nat.le_of_not_lt;intro u;have:=C (by omega) i;grind
    grind
   rw[n.cls];by_cases XM:j<i
   .grind
   .rw[fT (by omega)];by_cases e:j=i
    .subst e;rw[bl (by omega),hlen,Nat.sub_self];simp only[la,PU,r j _ (br (by omega:j<all.length))];rfl
    grind
 have acf:∀i,i<=all.length->∀j,bit (F i).zO j=(decide (j<i)&&oP T CT N ds all φm g j):=by
  intro i;induction i with
  |zero=>intro _ j;simp[F,x9,g,bit]
  |succ i C =>
   intro hi j;obtain⟨_,n⟩:=facts i _ (br (by omega));rw[n.eff];cases B:oP T CT N ds all φm g i with
   |false =>
    grind
   |true =>
    simp only[cj,Option.isSome_some];rw[mz,C (by omega) j,r7,H i (by omega)];by_cases e:j=i
    .grind
    grind
 have nfI:∀i,i<=all.length->∀j,bit (F i).NB j=(decide (j<i)&&!uf T CT N ds all φm g j):=by
  intro i;induction i with
  |zero=>intro _ j;simp[F,x9,g,bit]
  |succ i C =>
   intro hi j;obtain⟨_,n⟩:=facts i _ (br (by omega));have Us:(if oP T CT N ds all φm g i=ab then aa (F (i+1)).σ else ae).isSome=oP T CT N ds all φm g i:=by cases oP T CT N ds all φm g i<;>rfl
   have Dt:uf T CT N ds all φm g i=!(IS (jo (λj=>ia j (bT (all[i]'(by omega)).after.toList)) 0 (F i).pre (kP (F i).i all φm)) (all[i]'(by omega))||oP T CT N ds all φm g i):=by unfold uf;rw[Z1 i _ (br (by omega)),r i _ (br (by omega))];simp
   rw[n.nf,Us];cases B:(IS (jo (λj=>ia j (bT (all[i]'(by omega)).after.toList)) 0 (F i).pre (kP (F i).i all φm)) (all[i]'(by omega))||oP T CT N ds all φm g i)with
   |false =>
    grind
   |true =>
    simp only[cj];rw[mz,C (by omega) j,r7,H i (by omega)];by_cases e:j=i
    .grind
    grind
 have Z:∀i,i<=all.length->az (F i).obs:=by
  have back:∀k i,i+k=all.length->az (F i).obs:=by
   intro k;induction k with
   |zero =>
    grind
   |succ k C =>
    intro i hi;obtain⟨_,n⟩:=facts i _ (br (by omega));have:=C (i+1) (by omega);rw[n.obs,az.cat]at this;exact this.2
  intro i hi;exact back (all.length-i) i (by omega)
 have oaI:∀i o,all[i]?=aa o->OA X N all o (PT T CT N ds all φm g i) (F i).σ (xD T CT N ds all φm g i) (F (i+1)).σ:=by intro i o q;have hi:i<all.length:=(bY.1 q).1;obtain⟨_,n⟩:=facts i o q;have M4:=Z (i+1) (by omega);rw[n.obs,az.cat]at M4;have:=gB (P:=P) (N:=N) hT hC n.op M4.1;rw[n.σ];grind
 let idx:Nat->Option Nat:=λt=>(bg all.length).find? (λi=>decide ((all.getD i jy).dst=aa t));have M:∀t j,idx t=aa j->∃o,all[j]?=aa o/\o.dst=aa t:=by grind
 have K:∀i o d,all[i]?=aa o->o.dst=aa d->idx d=aa i:=by
  intro i o d q hd;have hi:i<all.length:=(bY.1 q).1;cases hx:idx d with
  |none =>
   grind
  |some j =>
   grind[tk]
 have W:∀t,pf t all=ab↔∃j,idx t=aa j:=by grind[qf,r6]
 have V:∀i o,all[i]?=aa o->∀e∈o.after,dj e=ab->e.on<i:=by intro i o q e B S;have hi:i<all.length:=(bY.1 q).1;obtain⟨_,n⟩:=facts i o q;have:=DM n.lt e.on (eN.2 ⟨e,by grind,S,rfl⟩);grind
 have Z2:=V;have hd:wi X N ops φ (λi=>(F i).σ) (xD T CT N ds all φm g) (PT T CT N ds all φm g) (uf T CT N ds all φm g) (λi=>decide (i<all.length)&&oP T CT N ds all φm g i) (λi j=>i<all.length/\bit (PU T CT N ds all φm g i) j=ab) idx (jo (λ_=>ab) 0 sf.pre (uM all φ)):=by
  refine⟨hf,?_,?_,?_,?_,?_,?_,?_,?_,?_,?_⟩
  .grind
  .intro i o d q hd;rw[R]at q;obtain⟨_,n⟩:=facts i o q;exact⟨K i o d q hd,gA n.dst d hd⟩
  .grind
  .intro i B;rcases cC i all.length with hi|hi
   .obtain⟨_,n⟩:=facts i _ (br hi);have:oP T CT N ds all φm g i=af:=by grind
    have hσ:=n.σ;grind
   .have h0:all.getD i jy=jy:=by grind
    show(F (i+1)).σ=(F i).σ;have:r8 T CT N ds all φm (F i) jy=ae∨∃s',r8 T CT N ds all φm (F i) jy=aa s':=by
     cases r8 T CT N ds all φm (F i) jy with
     |none=>grind
     |some s'=>grind
    show((r8 T CT N ds all φm (F i) (all.getD i jy)).getD (F i)).σ=(F i).σ;rw[h0];rcases this with h|⟨s',h⟩
    .grind
    .rw[h];obtain⟨x,σ1,ob,n⟩:=BF h;have z:=n.op;have:σ1=ae:=by unfold wm at z;simp only[jy,NA,W4,Jw,nt]at z;grind
     rw[im,n.σ,this];rfl
  .grind
  .intro i o q FM;rw[R]at q;have hi:i<all.length:=(bY.1 q).1;have p:IS (jo (λj=>ia j (bT (o).after.toList)) 0 (F i).pre (kP (F i).i all φm)) o=af/\oP T CT N ds all φm g i=af:=by unfold uf at FM;grind
   refine⟨by grind,λk=>?_⟩;obtain⟨ob,n⟩:=facts i o q;have z:=n.op;rw[p.2]at z;have XN:=Js p.1 (by simpa using z) (F k).σ;have M4:=Z (i+1) (by omega);rw[n.obs,az.cat]at M4;have:=gB (P:=P) (N:=N) hT hC XN M4.1;grind
  .intro L hL i j ⟨hi,S⟩;have fe:∀i,i<all.length->L i->∀e,e∈bT (all.getD i jy).after.toList->L e:=by intro i hi Z3 e B;rw[r i _ (br hi)]at B;obtain⟨e',Y,h2,rfl⟩:=eN.1 B;grind
   have key:∀i,i<all.length->∀j,bit (PU T CT N ds all φm g i) j=ab->(∀e∈bT (all.getD i jy).after.toList,L e)->L j:=by
    intro i;induction i using Nat.strongRecOn with
    |_ i C =>
     intro hi j S Ut;obtain⟨e,B,h⟩:=zQ S;have u:e<i:=by have Uu:=B;rw[r i _ (br hi)]at Uu;obtain⟨e',Y,h2,rfl⟩:=eN.1 Uu;grind
     rcases h with rfl|⟨c,hc,I6⟩
     .grind
     .have:=XL i (by omega) e;rw[bl u]at this;have Xw:(F i).cls[e]?=aa c:=hc;rw[Xw]at this;cases this;exact C e u (by omega) j I6 (fe e (by omega) (Ut e B))
   refine⟨λZ3=>key i hi j S (fe i hi Z3),all[i],by grind,λQ9=>key i hi j S ?_⟩;grind[List.getElem?_eq_getElem,eN]
  .intro i f hi TH B Bp Z4;rw[IM]at hi TH;have Uu:oP T CT N ds all φm g f=ab:=by grind
   rcases cC f i with u|TK
   .refine .inl ⟨u,hi,?_⟩;obtain⟨_,n⟩:=facts i _ (br hi);have G9:PU T CT N ds all φm g i=FI (F i).cls (bT (all[i]).after.toList):=by unfold PU;grind
    rw[G9];cases hei:oP T CT N ds all φm g i with
    |true =>
     have Y:=n.jw (by grind);refine qg Y ?_;rw[nfI i (by omega) f];have:uf T CT N ds all φm g f=af:=by unfold uf;grind
     grind
    |false =>
     have W5:IS (jo (λj=>ia j (bT (all[i]).after.toList)) 0 (F i).pre (kP (F i).i all φm)) all[i]=ab:=by unfold uf at Z4;rw[Z1 i _ (br hi),r i _ (br hi),hei]at Z4;grind
     have Y:=n.load W5 (by grind);grind[qg]
   .have u:i<f:=by omega
    refine .inr ⟨u,TH,?_⟩;obtain⟨_,n⟩:=facts f _ (br TH);have G9:PU T CT N ds all φm g f=FI (F f).cls (bT (all[f]).after.toList):=by unfold PU;grind
    rw[G9];have Y:=n.jw (by grind);grind[qg]
  .intro i o q t σ s v U;rw[R]at q;have hi:i<all.length:=(bY.1 q).1;unfold PT;rw[r i o q];rcases nv (m:=λj=>ia j (bT o.after.toList)) (φ:=kP (F i).i all φm) (t:=t) (l:=(F i).pre) (i:=0)with⟨j,x,Y,h2,h3⟩|h3
   .have XO:look (jo (λj=>ia j (bT o.after.toList)) 0 (x9 T CT N ds all φm g i).pre (kP (x9 T CT N ds all φm g i).i all φm)) t=x:=h3;rw[XO];have hp:=Ur i (by omega) j;rw[Y]at hp;have XM:j<i:=by grind
    rw[bl XM,br (by omega:j<all.length)]at hp;simp only[n5,dn,lT]at hp;obtain⟨hp1,hp2⟩:=hp;have y:=K j _ t (br (by omega:j<all.length)) hp1.symm;rw[y]at U;simp only at U;rw[bl]at U
    .grind
    .have XP:j∈bT o.after.toList:=by simp only[bC]at h2;exact Ju h2
     obtain⟨e,a,b,c⟩:=eN.1 XP;grind
   .have XO:look (jo (λj=>ia j (bT o.after.toList)) 0 (x9 T CT N ds all φm g i).pre (kP (x9 T CT N ds all φm g i).i all φm)) t=look (kP (F i).i all φm) t:=h3;rw[XO,H i (by omega),<-XK,yu];split
    .trivial
    .rename_i Z5;cases y:idx t with
     |some j =>
      have hD:=(W t).2 ⟨j,y⟩;have hN:wo i t all=af:=by grind
      obtain⟨oj,XF,XG⟩:=M t j y;have hm:=Ju (wq hN j oj XF XG);obtain⟨e,B,S,heq⟩:=eN.1 hm;rw[y]at U;simp only at U;split at U
      ·
       rename_i hex;obtain⟨e2,WQ,Z6,ack⟩:=hex;grind
      .rw[bl ⟨oj,by grind,e,by grind,S,heq⟩]at U;exact U
     |none=>grind
  .intro t σ s v U;have hF:F all.length=sf:=J;rcases nv (m:=λ_=>ab) (φ:=uM all φ) (t:=t) (l:=sf.pre) (i:=0)with⟨j,x,Y,_,h3⟩|h3
   .rw[h3];have hp:=Ur all.length (bh _) j;rw[hF,Y]at hp;have XM:j<all.length:=by grind
    grind
   .rw[h3,lP];split
    .trivial
    grind
 intro s a Dt hh b kk cs SS S XQ;have MY:F ops.size=sf:=by grind
 refine .next rfl λA E=>?_;have E:=X.iw E;have G:=hh.rely E;have XR:=Dt.rely E hh;have Rc:Step σ A σ {A with w:={A.w with drawn:=A.w.drawn+1}}:=Step.same rfl rfl rfl rfl;have IP:aF σ {A with w:={A.w with drawn:=A.w.drawn+1}}:=G.same rfl;have Z7:=E.stepW.trans (Rc.na G);refine⟨_,{A with w:={A.w with drawn:=A.w.drawn+1}},#[],lV,⟨⟨σ,σ,G,IP,Rc⟩,.nil⟩,?_⟩;simp only[Region.schedule,hf,Bool.true_or,cj];refine hd.arr S (s0:={A with w:={A.w with drawn:=A.w.drawn+1}}) (λs2 a2 f2 h2 mg=>?_) ops.size _ (by simp) ?_ ?_ 0 _ a (by omega) ?_ ?_ IP (.refl _ _) _
 .simp only[MY]at f2 h2 mg;exact XQ .normal _ _ s2 a2 hQ f2 h2 (Z7.trans mg)
 .simp
 .intro i o q hi;simp[dM,mS]at hi;split at hi<;>simp at hi
 .intro f TH W3;simp[dM,mS];split<;>simp
 .have p:=XR.mono (Rc.na G) G.len;refine⟨p.size,p.defers,λt=>?_⟩;unfold gj;cases y:idx t with
  |none=>exact p.slot t
  |some j =>
   simp only;rw[aZ]
   .exact p.slot t
   .simp[dM,mS];split<;>simp
end
section
variable {P:ar}{X:Cx P}{N:Nat}{Qf:Post}{K:List It}{φ:Fr}{σ:List aP}
theorem AK.draw{T:List (Nat×TI)}{CT:List (Nat×dt)}(b:P.follows Departure.mixedOrders=ab)(hT:cO P T)(hC:bE X CT){ds:List (Nat×Bool)}{ops:Array au}{φ':Fr}{σ':List aP}{obs:List Prop}{id:Nat}(h:FJ T CT N ds ops.toList φ σ=aa (φ',σ',obs))(a:az obs)(k:AK X N Qf K .normal φ' σ'):AK X N Qf (.code (.region id ops ab)::K) .normal φ σ :=
 Jv b hT hC h a k id
end
def we(T:List (Nat×TI))(CT:List (Nat×dt))(ds:List (Nat×Bool))(N:Nat)(K:List It)(φ:Fr)(σ:List aP):Option (List It×Fr×List aP×List Prop) :=
 match K with
 |[]=>ae
 |.blk _::K=>aa (K,φ,σ,[])
 |.ops _ []::K=>aa (K,φ,σ,[])
 |.ops all (o::rest)::K=>match fR N o.dst with
  |true=>match wm T CT ds all φ σ o with
   |some (x,ae,obs)=>dv (km o.dst x φ) λφ=>aa (.ops all rest::K,φ,σ,obs)
   |some (x,aa σ',obs)=>dv (km o.dst x φ) λφ=>aa (.ops all rest::K,φ,σ',obs)
   |none=>ae
  |false=>ae
 |.code c::K=>match c with
  |.skip=>aa (K,φ,σ,[])
  |.seq x y=>aa (.code x::.code y::K,φ,σ,[])
  |.block id c=>aa (.code c::.blk id::K,φ,σ,[])
  |.region id ops d=>match BH ds (id+1000000)with
   |some _=>ae
   |none=>match d with
    |false=>aa (.ops ops.toList ops.toList::K,φ,σ,[])
    |true=>match FJ T CT N ds ops.toList φ σ with
     |some (φ',σ',obs)=>aa (K,φ',σ',obs)
     |none=>ae
  |.exit id=>match jQ id K with
   |some K'=>aa (K',φ,σ,[])
   |none=>ae
  |.cond (.tmp t) x y=>match look φ t with
   |.e (.one (.c (.bool ab)))=>aa (.code x::K,φ,σ,[])
   |.e (.one (.c (.bool af)))=>aa (.code y::K,φ,σ,[])
   |_=>ae
  |_=>ae
theorem Ko{P:ar}{X:Cx P}(j:P.follows Departure.mixedOrders=ab){T:List (Nat×TI)}(hT:cO P T){CT:List (Nat×dt)}(e:bE X CT){ds:List (Nat×Bool)}{N:Nat}{Qf:Post}{K i:List It}{φ φ':Fr}{σ σ':List aP}{obs:List Prop}(h:we T CT ds N K φ σ=aa (i,φ',σ',obs))(f:az obs)(k:AK X N Qf i .normal φ' σ'):AK X N Qf K .normal φ σ:=by
 unfold we at h;split at h
 .cases h
 .grind [AK.RV]
 .grind [AK.Kn]
 .rename_i all o rest K0;cases d:fR N o.dst with
  |false=>grind
  |true =>
   simp only[d]at h;have g:=gA d;split at h
   .rename_i x a b;rw[cZ]at h;cases h;exact ib.Aa (gB hT e b f) g k
   .rename_i x σ1 a b;rw[cZ]at h;cases h;exact ib.Aa (gB hT e b f) g k
   grind
 .rename_i c K0;split at h
  .grind [AK.skip]
  .grind [AK.seq]
  .grind [AK.block]
  .grind [AK.region,AK.draw]
  .grind [AK.exit]
  .grind [AK.cond]
  grind
def kW(T:List (Nat×TI))(CT:List (Nat×dt))(ds:List (Nat×Bool))(N:Nat):Nat->List It->Fr->List aP->List Prop->Option (List It×Fr×List aP×List Prop)
 |0,K,φ,σ,obs=>dv obs λobs=>aa (K,φ,σ,obs)
 |n+1,K,φ,σ,obs=>match we T CT ds N K φ σ with
  |some (a,φ',σ',o)=>kW T CT ds N n a φ' σ' (kM o obs)
  |none=>dv obs λobs=>aa (K,φ,σ,obs)
def Gb{P:ar}{X:Cx P}(e:P.follows Departure.mixedOrders=ab){T:List (Nat×TI)}(hT:cO P T){CT:List (Nat×dt)}(c:bE X CT){ds:List (Nat×Bool)}{N:Nat}{Qf:Post}:∀{n:Nat}{K a:List It}{φ φ':Fr}{σ σ':List aP}{obs DS:List Prop},
  kW T CT ds N n K φ σ obs=aa (a,φ',σ',DS)->az DS->AK X N Qf a .normal φ' σ'->AK X N Qf K .normal φ σ/\az obs
 |0,K,a,φ,φ',σ,σ',obs,DS,h,b,k=>by simp only[kW,cZ]at h;grind
 |n+1,K,a,φ,φ',σ,σ',obs,DS,h,b,k=>by
  simp only[kW]at h;cases f:we T CT ds N K φ σ with
  |none =>
   grind[cZ]
  |some r =>
   obtain⟨g,d,σ1,i⟩:=r;simp only[f]at h;obtain⟨j,l⟩:=Gb e hT c h b k;grind[az.cat,Ko]
def AK.kW{P:ar}{X:Cx P}(c:P.follows Departure.mixedOrders=ab){T:List (Nat×TI)}(hT:cO P T){CT:List (Nat×dt)}(hC:bE X CT)(ds:List (Nat×Bool)){N:Nat}{Qf:Post}(n:Nat){K b:List It}{φ φ':Fr}{σ σ':List aP}{a:List Prop}(h:AM.kW T CT ds N n K φ σ []=aa (b,φ',σ',a))(d:az a)(k:AK X N Qf b .normal φ' σ'):AK X N Qf K .normal φ σ:=(Gb c hT hC h d k).1
section
variable {P:ar}{X:Cx P}{N:Nat}{Qf:Post}{K:List It}{φ:Fr}{σ:List aP}
def zL(rs:List ResultVar)(ks:List Nat)(φ:Fr)(res:D):Option (List Prop) :=
 match x6 φ rs with
 |some ds=>match rX ds with
  |some d=>match vS ks.length res with
   |true=>Ds d (hZ ks res)
   |false=>ae
  |none=>ae
 |none=>ae
def AK.de{fn:Func}{a:Nat}{res:D}{σ':List aP}(ks:List Nat){ps:List Prop}(h:zL fn.results.toList ks φ res=aa ps)(d:az ps)(e:jK ks σ=aa σ')(b:ko σ'=ab)(c:dx ks=ab)(hk:∀j,j<a->ks[j]?=aa j):
  AK X N (cp fn a res σ') (.code .ret::K) .normal φ σ:=by refine AK.ret ⟨.inl rfl,ks,?_⟩;unfold zL at h;grind
def AK.bw{fn:Func}{res:D}{ps:List Prop}(h:zL fn.results.toList [] φ res=aa ps)(a:az ps:=by simp):AK X N (cp fn 0 res []) (.code .ret::K) .normal φ σ :=
 AK.de [] h a rfl rfl rfl (λj h=>by omega)
def cp.zero{fn:Func}{res:D}{ps:List Prop}(h:zL fn.results.toList [] φ res=aa ps)(b:az ps:=by simp):cp fn 0 res [] .ret φ σ:=by
 refine⟨.inl rfl,[],?_⟩;unfold zL at h;split at h
 .rename_i ds Yv;split at h
  .rename_i d c;split at h
   .rename_i a;exact⟨ds,d,ps,Yv,c,h,b,a,rfl,rfl,rfl,λj h=>by omega⟩
   grind
  grind
 grind
def AK.leave{id:Nat}{φ:Fr}{σ:List aP}{A:Fr->List aP->Prop}{Qr:Post}{K f g:List It}(h1:jQ id K=ae)(h2:jQ id f=aa g)(k:AK X N Qr g .normal φ σ):
  AK X N (λe φ' σ'=>match e with
   |.normal=>A φ' σ'
   |e=>AK X N Qr f e φ' σ') (.code (.exit id)::K) .normal φ σ:=by
 have key:∀{K:List It},jQ id K=ae->∀{Q:Post},Q (.exit id) φ σ->AK X N Q K (.exit id) φ σ:=by
  intro K;induction K with
  |nil=>intro _ Q h;exact h
  |cons i r l =>
   intro hk Q h;cases i with
   |code c=>exact l (by simpa[jQ]using hk) h
   |ops a b=>exact l (by simpa[jQ]using hk) h
   |blk j =>
    simp only[jQ]at hk;cases m:aB id j with
    |true=>grind
    |false =>
     simp[m]at hk;have d:id≠j:=λe=>by grind[Nat.beq_refl]
     simp only[AK,d,b7];grind
 exact AW.exit (key h1 (AK.wL h2 k))
def AK.iD{φ:Fr}{σ:List aP}{A:Fr->List aP->Prop}{Qr:Post}{K a:List It}(k:Qr .ret φ σ):
  AK X N (λe φ' σ'=>match e with
   |.normal=>A φ' σ'
   |e=>AK X N Qr a e φ' σ') (.code .ret::K) .normal φ σ:=AK.ret (AK.sr (Qf:=Qr) k)
def AK.again{S:Type}{I:S->Prop}{fr:S->Fr}{st:S->List aP}{a:S->Nat}{x:S}{Qr:Post}(y:S){ps:List Prop}(b:nA φ (fr y)=aa ps)(g:az ps)(f:I y)(c:a y<a x)(d:σ=st y):
  AK X N (λe φ' σ'=>match e with
   |.normal=>∃y,I y/\a y<a x/\oi φ' (fr y)/\σ'=st y
   |e=>Qr e φ' σ') [] .normal φ σ:=⟨y,f,c,cE b g,d⟩
def AK.wM{S:Type}{c:Code}(I:S->Prop)(fr:S->Fr)(st:S->List aP)(b:S->Nat)(x:S){ps:List Prop}(a:nA φ (fr x)=aa ps)(g:az ps)(f:I x)(d:st x=σ)(round:∀x,I x->AK X N (λe φ' σ'=>match e with
   |.normal=>∃y,I y/\b y<b x/\oi φ' (fr y)/\σ'=st y
   |e=>AK X N Qf K e φ' σ') [.code c] .normal (fr x) (st x)):AK X N Qf (.code (.loop c)::K) .normal φ σ :=
 AK.loop I fr st b x f (cE a g) d round
def Fits(args:List D)(σ:List aP):Prop:=∃s vs,cg σ s vs args/\aF σ s
def Fits.at{args:List D}{σ:List aP}(h:Fits args σ){j:Nat}{d:D}(hj:args[j]?=aa d):∃s v,dk σ s v d:=by obtain⟨s,vs,a,_⟩:=h;obtain⟨_,b⟩:=cg.get a;grind
def Fits.str{args:List D}{σ:List aP}(h:Fits args σ)(j:Nat){l:List UInt8}(hj:args[j]?=aa (.e (.one (.c (.str l))))):l.length<=9223372036854775807:=by
 obtain⟨s,v,a⟩:=h.at hj;cases eT a with
 |str h hl=>exact hl
def Fits.sl{args:List D}{σ:List aP}(h:Fits args σ)(j:Nat){t:Bool}{k n:Nat}{es:Nat->List C}(hj:args[j]?=aa (.e (.one (.c (.sl t k n es))))):n<=9223372036854775807:=by
 obtain⟨s,v,d⟩:=h.at hj;cases eT d with
 |sl b off f a g=>omega
def Ev.body{f:aJ}{fn:Func}{c:Code}{args:List D}{σ σ':List aP}{res:D}(d:P.funcs[f]?=aa fn)(a:(fn.name== "runtime.NumGoroutine")=af)(e:fn.body=aa c)(b:bu args.length fn.ntmps=ab)(h:Fits args σ->AK X fn.ntmps (cp fn σ.length res σ') [.code c] .normal (iZ 0 args) σ):Ev X f args σ res σ':=by refine⟨⟨fn,d,a,by grind⟩,λs vs hr hh=>?_⟩;exact(Ev.intro d a e (cV b) (AK.of_code (h ⟨s,vs,hr,hh⟩))).2 s vs hr hh
def Ev.bQ{f:aJ}{fn:Func}{c:Code}{args:List D}{σ σ':List aP}{res:D}(b:P.funcs[f]?=aa fn)(a:(fn.name== "runtime.NumGoroutine",fn.body,bu args.length fn.ntmps)=(af,aa c,ab))(h:Fits args σ->AK X fn.ntmps (cp fn σ.length res σ') [.code c] .normal (iZ 0 args) σ):Ev X f args σ res σ':=by simp only[lT]at a;exact Ev.body b a.1 a.2.1 a.2.2 h
def AK.join{c:Code}{b:List It}(φ':Fr)(σ':List aP)(h:(∀(a:Fr)(ps:List Prop),nA a φ'=aa ps->az ps->AK X N Qf (.code c::b) .normal a σ')->AK X N Qf K .normal φ σ)(k:AK X N Qf (.code c::b) .normal φ' σ'):AK X N Qf K .normal φ σ :=
 h λ_ _ h1 h2=>AW.le k (cE h1 h2)
end
def D3(σ σ':List aP):Prop:=∀(s:St),aF σ s->aF σ' s/\Step σ s σ' s/\∀(v:ah)(d:D),dk σ s v d->dk σ' s v d
def Yw:aP->aP->Option (List Prop)
 |.vec E k n es,.vec E' k' n' es'=>match aB E E',aB k k' with
  |true,ab=>aa [n=n',cv n es es']
  |_,_=>ae
 |.cells E cs,.cells E' nb=>match aB E E' with
  |true=>Qb cs nb
  |false=>ae
 |.dead,.dead=>aa []
 |.b8 H,.b8 H'=>aa [H=H']
 |.loop N φ r,.loop N' φ' r'=>aa [aP.loop N φ r=aP.loop N' φ' r']
 |.qT,.qT=>aa []
 |.buf E k n es,.buf E' k' n' es'=>match aB E E',aB k k' with
  |true,ab=>aa [n=n',cv n es es']
  |_,_=>ae
 |_,_=>ae
def oS:List aP->List aP->Option (List Prop)
 |[],[]=>aa []
 |a::r,b::q=>match Yw a b with
  |some p=>match oS r q with
   |some ps=>aa (kM p ps)
   |none=>ae
  |none=>ae
 |_,_=>ae
def N4(B B':aP):Prop :=
 (∀E k n es,B=.vec E k n es->∃es',B'=.vec E k n es'/\cv n es es')/\((∀E k n es,B≠.vec E k n es)->(∀E k n es,B'≠.vec E k n es)/\(B=B'∨(∃E cs nb,B=.cells E cs/\B'=.cells E nb/\∀σ s vs,dX σ s vs cs->dX σ s vs nb)∨∃E k n es es',B=.buf E k n es/\B'=.buf E k n es'/\cv n es es'))
theorem RF{B B':aP}{ps:List Prop}(h:Yw B B'=aa ps)(b:az ps):N4 B B':=by
 unfold Yw at h;split at h
 .rename_i E k n es E' k' n' es';split at h
  .rename_i d i;cases h;have a:=bP d;have g:=bP i;obtain⟨f,j⟩:n=n'/\cv n es es':=b;subst a g f;refine⟨λE0 k0 n0 WL he=>?_,λl=>absurd rfl (l _ _ _ _)⟩;grind
  grind
 .rename_i E cs E' nb;split at h
  .rename_i d;have a:=bP d;subst a;exact⟨λ_ _ _ _ he=>(by cases he),λ_=>⟨λ_ _ _ _ he=>(by cases he),.inr (.inl ⟨E,cs,nb,rfl,rfl,λσ s vs r=>D5 h b r⟩)⟩⟩
  grind
 .exact⟨λ_ _ _ _ he=>(by cases he),λ_=>⟨λ_ _ _ _ he=>(by cases he),.inl rfl⟩⟩
 .cases h;rename_i H H';have e:H=H':=b;subst e;exact⟨λ_ _ _ _ he=>(by cases he),λ_=>⟨λ_ _ _ _ he=>(by cases he),.inl rfl⟩⟩
 .cases h;rename_i N φ r m φ' r';have e:aP.loop N φ r=aP.loop m φ' r':=b;exact⟨λ_ _ _ _ he=>(by cases he),λ_=>⟨λ_ _ _ _ he=>(by cases he),.inl e⟩⟩
 .exact⟨λ_ _ _ _ he=>(by cases he),λ_=>⟨λ_ _ _ _ he=>(by cases he),.inl rfl⟩⟩
 .rename_i E k n es E' k' n' es';split at h
  .rename_i d i;cases h;have a:=bP d;have g:=bP i;obtain⟨f,j⟩:n=n'/\cv n es es':=b;subst a g f;exact⟨λ_ _ _ _ he=>(by cases he),λ_=>⟨λ_ _ _ _ he=>(by cases he),.inr (.inr ⟨E,k,n,es,es',rfl,rfl,j⟩)⟩⟩
  grind
 grind
def BV:∀{σ σ':List aP}{ps:List Prop},oS σ σ'=aa ps->az ps->σ'.length=σ.length/\∀(l:Nat)(B B':aP),σ[l]?=aa B->σ'[l]?=aa B'->N4 B B'
 |[],[],_,_,_=>⟨rfl,λl B B' h=>by grind⟩
 |[],_::_,_,h,_=>by cases h
 |_::_,[],_,h,_=>by cases h
 |a::r,b::q,ps,h,d=>by
  simp only[oS]at h;split at h
  .rename_i p g;split at h
   .rename_i p2 h2;cases h;rw[az.cat]at d;obtain⟨e,f⟩:=BV h2 d.2;grind[RF]
   grind
  grind
def gU{σ σ':List aP}{ps:List Prop}(h:oS σ σ'=aa ps)(hp:az ps):D3 σ σ':=by
 obtain⟨W,hg⟩:=BV h hp;intro s I;have Q:∀(l:Nat) (B:aP),σ[l]?=aa B->∃B',σ'[l]?=aa B'/\N4 B B':=by grind
 have get:∀(l:Nat) (B':aP),σ'[l]?=aa B'->∃B,σ[l]?=aa B/\N4 B B':=by grind
 have i:∀(l:Nat),(∀B,σ[l]?=aa B->B.gr=af)->∀B,σ'[l]?=aa B->B.gr=af:=by
  intro l Z B' he;obtain⟨B,hB,j⟩:=get l _ he;have q:=Z B hB;rcases(j.2 (λE k n es e=>by rw[e]at q;cases q)).2 with rfl|⟨E,cs,G,rfl,rfl,_⟩|⟨E,k,n,es,es',rfl,rfl,_⟩
  .exact q
  .rfl
  .cases q
 have T:∀(l:Nat) E k n es,σ'[l]?=aa (aP.buf E k n es)->∃es',σ[l]?=aa (aP.buf E k n es'):=by
  intro l E k n es he;obtain⟨B,hB,j⟩:=get l _ he;by_cases p:∃E k n es,B=aP.vec E k n es
  .obtain⟨E1,k1,n1,D6,rfl⟩:=p;obtain⟨es',f,_⟩:=j.1 _ _ _ _ rfl;cases f
  .rcases(j.2 (λE k n es e=>p ⟨E,k,n,es,e⟩)).2 with rfl|⟨E,cs,G,rfl,h,_⟩|⟨E,k,n,es,es',rfl,h,_⟩
   .grind
   .cases h
   grind
 have z:∀(l:Nat) E k n es,σ'[l]?=aa (aP.vec E k n es)->∃es',σ[l]?=aa (aP.vec E k n es'):=by
  intro l E k n es he;obtain⟨B,hB,j⟩:=get l _ he;by_cases p:∃E k n es,B=aP.vec E k n es
  .obtain⟨E1,k1,n1,D6,rfl⟩:=p;obtain⟨es',f,_⟩:=j.1 _ _ _ _ rfl;grind
  .exact absurd rfl ((j.2 (λE k n es e=>p ⟨E,k,n,es,e⟩)).1 E k n es)
 have M:∀(v:ah) (a:A),gn σ s v a->gn σ' s v a:=by
  intro v a r;cases a with
  |c x=>exact r
  |ptr l o=>exact⟨i l r.1,r.2⟩
  |vec l k n es =>
   refine⟨r.1,by rw[W];exact r.2.1,λE k' n' es' he=>?_⟩;obtain⟨zv,g⟩:=z l E k' n' es' he;exact r.2.2 E k' n' zv g
  |ref l=>exact⟨i l r.1,r.2⟩
  |bp l w =>
   obtain⟨lv,Y,r2,r3⟩:=r;refine⟨lv,Y,by grind,λE k' n' es' he=>?_⟩;grind
  |any=>exact r
 have F:∀(vs:List ah) (cs:List A),dX σ s vs cs->dX σ' s vs cs:=by
  intro vs;induction vs with
  |nil=>intro cs r;cases cs with|nil=>trivial|cons _ _=>exact r.elim
  |cons v vs ih=>intro cs r;cases cs with|nil=>exact r.elim|cons c cs=>exact⟨M _ _ r.1,ih _ r.2⟩
 have R:∀(v:ah) (e:E1),m8 σ s v e->m8 σ' s v e:=by
  intro v e r;cases e with
  |one a=>exact M _ _ r
  |agg cs=>obtain⟨vs,f,g⟩:=r;exact⟨vs,f,F _ _ g⟩
 have J:∀(vs:List ah) (cs:List E1),g6 σ s vs cs->g6 σ' s vs cs:=by
  intro vs;induction vs with
  |nil=>intro cs r;cases cs with|nil=>trivial|cons _ _=>exact r.elim
  |cons v vs ih=>intro cs r;cases cs with|nil=>exact r.elim|cons c cs=>exact⟨R _ _ r.1,ih _ r.2⟩
 have O:∀(v:ah) (d:D),dk σ s v d->dk σ' s v d:=by
  intro v d r;cases d with
  |e x=>exact R _ _ r
  |eX xs=>obtain⟨vs,f,g⟩:=r;exact⟨vs,f,J _ _ g⟩
  |any=>trivial
 refine⟨⟨I.mem,by rw[I.len,W],?_,I.eB,I.lt,I.own⟩,⟨bh _,λ_ _ _=>rfl,λ_ _ _ h=>h,λ_ _ _ _=>rfl,λL h b m=>.inr ⟨L,h,m⟩,?_,rfl,rfl,rfl,rfl⟩,O⟩
 .intro l B' L y U;obtain⟨B,hB,j⟩:=get l B' y;have m:=I.box l B L hB U;by_cases p:∃E k n es,B=aP.vec E k n es
  .obtain⟨E,k,n,es,rfl⟩:=p;obtain⟨es',rfl,he⟩:=j.1 _ _ _ _ rfl;refine⟨m.1.Dx he,?_⟩;rcases m.2 with⟨f,g⟩|f
   .exact .inl ⟨f,g.Dx he⟩
   grind
  .rcases(j.2 (λE k n es e=>p ⟨E,k,n,es,e⟩)).2 with rfl|⟨E,cs,G,rfl,rfl,S⟩|⟨E,k,n,es,es',rfl,rfl,S⟩
   .cases B with
    |cells E cs=>obtain⟨b,vs,f,g,u,C⟩:=m;exact⟨b,vs,f,g,F _ _ u,C⟩
    |vec E k n es=>grind
    |b8 H=>exact m
    |dead=>trivial
    |loop N φ r=>obtain⟨l,tmps,fn,df,f,g,u,C,V⟩:=m;exact⟨l,tmps,fn,df,f,g,u,λt=>O _ _ (C t),V⟩
    |qT=>exact m
    |buf E k n es=>exact m
   .obtain⟨b,vs,f,g,u,C⟩:=m;exact⟨b,vs,f,g,F _ _ (S _ _ _ u),C⟩
   .rcases m with m|⟨b,c0,vs,zs,f,g,u,C,V,h6,h7⟩
    .exact .inl m
    .exact .inr ⟨b,c0,vs,zs,f,g,u,C,V,h6.Dx S,h7⟩
 .intro l B L hB U;obtain⟨B',y,j⟩:=Q l B hB;refine⟨B',L,y,U,?_⟩;by_cases p:∃E k n es,B=aP.vec E k n es
  .obtain⟨E,k,n,es,rfl⟩:=p;obtain⟨es',rfl,he⟩:=j.1 _ _ _ _ rfl;exact⟨λ_=>rfl,bh _⟩
  .rcases(j.2 (λE k n es e=>p ⟨E,k,n,es,e⟩)).2 with rfl|⟨E,cs,G,rfl,rfl,S⟩|⟨E,k,n,es,es',rfl,rfl,_⟩
   .exact gy.refl _ _
   .exact rfl
   .exact⟨λ_=>rfl,bh _⟩
section
variable {P:ar}{X:Cx P}{N:Nat}{Qf:Post}{K:List It}{φ:Fr}{σ:List aP}{c:Code}
theorem AW.ghost{Q:Post}{φ':Fr}{σ':List aP}(h:∀s a,cm N σ s φ a->aF σ s->∃s':St,s'.w=s.w/\cm N σ' s' φ' a/\aF σ' s'/\Step σ s σ' s')(k:AW X N c Q φ' σ'):AW X N c Q φ σ:=by intro s a m hh b kk cs S j l;obtain⟨s',n,g,d,st⟩:=h s a m hh;have f:=st.na hh;refine .ghost (.of hh d n f) ?_;exact k s' a g d b kk cs S j λe i σ2 s2 a2 q o h2 mg=>l e i σ2 s2 a2 q o h2 (f.trans mg)
theorem AK.ghost{φ':Fr}{σ':List aP}(h:∀s a,cm N σ s φ a->aF σ s->∃s':St,s'.w=s.w/\cm N σ' s' φ' a/\aF σ' s'/\Step σ s σ' s')(k:AK X N Qf (.code c::K) .normal φ' σ'):AK X N Qf (.code c::K) .normal φ σ :=
 AW.ghost h k
def cm.bs{σ':List aP}{s:St}{a:Act}(b:D3 σ σ')(f:cm N σ s φ a)(hh:aF σ s):cm N σ' s φ a:=⟨f.size,f.defers.imp λ_ h1=>h1.mono (b s hh).2.1.ext,λt=>(b s hh).2.2 _ _ (f.slot t)⟩
def AK.norm(σ':List aP){ps:List Prop}(h:oS σ σ'=aa ps)(b:az ps)(k:AK X N Qf (.code c::K) .normal φ σ'):AK X N Qf (.code c::K) .normal φ σ :=
 AK.ghost (λs a d hh=>⟨s,rfl,d.bs (gU h b) hh,(gU h b s hh).1,(gU h b s hh).2.1⟩) k
def AK.iC(t:Nat)(E:aj)(k:Nat){k' n:Nat}{es:Nat->List C}(j:look φ t=.e (.one (.c (.sl ab k' n es))))(f:n=0)(kk:AK X N Qf (.code c::K) .normal ((t,.e (.one (.vec σ.length k n es)))::φ) (σ++[.vec E k n es])):AK X N Qf (.code c::K) .normal φ σ:=by
 refine AK.ghost (λs a b hh=>?_) kk;have g:=b.slot t;rw[j]at g;have h1:=Rd.vb (k:=k') (k':=k) (.inr f) (eT g);have hB:et (σ++[.vec E k n es]) {s with β:=s.β++[⟨a.tmps.getD t ai,[]⟩]} (.vec E k n es) ⟨a.tmps.getD t ai,[]⟩:=⟨h1.loose,.inl ⟨⟨rfl,f⟩,h1⟩⟩;obtain⟨i,d⟩:=hh.hO (.refl _ _) rfl hh hB (by simp)
 refine⟨{s with β:=s.β++[⟨a.tmps.getD t ai,[]⟩]},rfl,⟨b.size,b.defers.imp λ_ h1=>h1.mono d.ext,λu=>?_⟩,i,d⟩;simp only[look];cases h:aB t u with
 |false=>exact(b.slot u).mono d.ext hh.len
 |true =>
  have e:=bP h;subst e;exact pZ (L:=⟨a.tmps.getD t ai,[]⟩) (by simp) (by simp[<-hh.len]) hB
def AK.j3{S:Type}(I:S->Prop)(fr:S->Fr)(st:S->List aP)(j:S->Nat)(x:S){ps qs:List Prop}(k:nA φ (fr x)=aa ps)(F:az ps)(r:oS σ (st x)=aa qs)(C:az qs)(A:I x)(round:∀x,I x->AK X N (λe φ' σ'=>match e with
   |.normal=>∃y,I y/\j y<j x/\oi φ' (fr y)/\D3 σ' (st y)
   |e=>AK X N Qf K e φ' σ') [.code c] .normal (fr x) (st x)):AK X N Qf (.code (.loop c)::K) .normal φ σ:=by
 intro s a G hh b kk cs SS hb hQ;have h:=gU r C;obtain⟨v,t,_⟩:=h s hh;refine ss (λn a' s'=>∃y,I y/\cm N (st y) s' (fr y) a'/\aF (st y) s'/\cR σ s (st y) s'/\j y=n) ?_ ?_ ⟨x,A,(G.le (cE k F)).bs h hh,v,t.na hh,rfl⟩
 .rintro n a' s' ⟨y,m,o,f,d,e⟩;exact⟨st y,f,λH h1=>⟨y,m,o.rely h1 f,f.rely h1,d.trans h1.stepW,e⟩⟩
 rintro n a' s' ⟨y,m,o,f,d,rfl⟩ E;refine round y m s' a' o f b (.inLoop c::kk) cs SS hb ?_;intro e B σ2 s2 a2 q w h2 mg;cases e with
 |normal =>
  obtain⟨z,D,u,g,i⟩:=q;obtain⟨l,p,_⟩:=i s2 h2;exact E a2 s2 (j z) u ⟨z,D,(w.le g).bs i h2,l,d.trans (mg.trans (p.na h2)),rfl⟩
 |_=>exact ends.cons (λ_ _=>rfl) (by simp) (hQ _ _ _ _ _ q w h2 (d.trans mg))
def AK.gf{S:Type}{I:S->Prop}{fr:S->Fr}{st:S->List aP}{a:S->Nat}{x:S}{Qr:Post}(y:S){ps qs:List Prop}(d:nA φ (fr y)=aa ps)(i:az ps)(b:oS σ (st y)=aa qs)(g:az qs)(h:I y)(f:a y<a x):
  AK X N (λe φ' σ'=>match e with
   |.normal=>∃y,I y/\a y<a x/\oi φ' (fr y)/\D3 σ' (st y)
   |e=>Qr e φ' σ') [] .normal φ σ:=⟨y,h,f,cE d i,gU b g⟩
end
def Ev.forget{P:ar}{X:Cx P}{f:aJ}{args:List D}{res tz:D}{σ':List aP}(h:Ev X f args [] res σ'){ps:List Prop}(g:Ds res tz=aa ps)(j:az ps)(a:vS 0 tz=ab):Ev X f args [] tz []:=by
 refine⟨h.1,λs vs hr hh S cs hS=>h.2 s vs hr hh S cs λfr v e hl hv h1 st=>?_⟩
 have m:s.β=[]:=jg hh.len;have k:eu e {e with β:=[]}:=⟨rfl,λ_ _ _ h=>h,λ_ _ _=>rfl,h1.mem,λb i=>.inl (by grind)⟩
 refine .ghost k (hS fr v {e with β:=[]} (hl.mono λ_ _ _ h=>h) ?_ ⟨h1.mem,rfl,by simp,by simp,by simp,λb i=>⟨(h1.own b i).1,by simp⟩⟩ ⟨st.size,st.fb,st.mem,st.iV,by simp,λl B L hB=>by grind,st.os,st.tape,st.output,st.own⟩)
 .have h2:=oo g j hv;have:=dk.sub (ks:=[]) (σ:=σ') (σ':=[]) (s:=e) (β':=[]) (d:=tz) rfl rfl (by rw[BW a];exact h2) a;exact this
section drop
variable {σ1 rest:List aP}{s:St}
def UQ(n:Nat):aP->Bool
 |.cells _ cs=>FD n cs
 |.loop ..=>af
 |_=>ab
def r5(n:Nat):List aP->Bool
 |[]=>ab
 |a::r=>match UQ n a with|true=>r5 n r|false=>af
def BX{n:Nat}:∀{l:List aP},r5 n l=ab->∀B∈l,UQ n B=ab
 |[],_,B,hB=>by grind
 |b::r,h,B,hB=>by
  simp only[r5]at h;cases a:UQ n b with
  |false=>grind
  |true =>
   simp only[a]at h;rcases eE.1 hB with rfl|hB
   .exact a
   .exact BX h B hB
def et.uj{B:aP}{L:Loc}(a:UQ σ1.length B=ab)(h:et (σ1++rest) s B L):et σ1 (s.cut σ1.length) B L:=by
 cases B with
 |cells E cs =>
  obtain⟨b,vs,h1,h2,e,d⟩:=h;exact⟨b,vs,h1,h2,dX.tp e a,d⟩
 |vec E k n es=>exact h
 |b8 H=>exact h
 |dead=>trivial
 |loop N φ r=>simp[UQ]at a
 |qT=>exact h
 |buf E k n es=>exact h
def aF.drop(h:aF (σ1++rest) s)(i:r5 σ1.length σ1=ab):aF σ1 (s.cut σ1.length):=by
 have hl:σ1.length<=s.β.length:=by rw[h.len];simp
 refine⟨h.mem,by simp[St.cut,hl],?_,?_,?_,λb e=>⟨(h.own b e).1,λL a=>(h.own b e).2 L (fW a)⟩⟩
 .intro l B L hB a;have g:l<σ1.length:=(bY.1 hB).1;simp only[St.cut,iN,g,cj]at a;exact et.uj (rest:=rest) (BX i B (bJ hB)) (h.box l B L (by grind) a)
 .intro l l' L L' a d b e f;simp only[St.cut,iN]at a d;split at a<;>split at d<;>first|exact h.eB l l' L L' a d b e f|grind|grind
 .intro L a b e;exact h.lt L (fW a) b e
def oO.drop(a:lA rest=ab):∀{ds:List Deferred}{ls:List Nat},oO (σ1++rest) s ds ls->oO σ1 (s.cut σ1.length) ds ls
 |[],[],_=>trivial
 |[],_::_,r=>r.elim
 |_::_,[],r=>r.elim
 |d::ds,l::ls,⟨⟨h1,L,r,h2,f⟩,e,b⟩=>by
  have hl:l<σ1.length:=by
   rcases cC l σ1.length with h|h
   .exact h
   .rw[fT h]at h1;exact absurd rfl (nq a _ (bJ h1))
  rw[jz hl]at h1;exact⟨⟨h1,L,r,by simp only[St.cut,iN,hl,cj];exact h2,f⟩,e,oO.drop a b⟩
def wN(n:Nat)(σ:List aP):Bool:=match bu n σ.length with|true=>lA (σ.drop n)|false=>af
theorem qk{n:Nat}{σ:List aP}(h:wN n σ=ab):bu n σ.length=ab/\lA (σ.drop n)=ab:=by unfold wN at h;grind
end drop
def BY(n:Nat):Fr->Bool
 |[]=>ab
 |(_,d)::r=>match vS n d with|true=>BY n r|false=>af
def nB{n:Nat}:∀{φ:Fr}{t:Nat},BY n φ=ab->vS n (look φ t)=ab
 |[],t,_=>rfl
 |(u,d)::r,t,h=>by
  simp only[BY]at h;cases a:vS n d with
  |false=>grind
  |true =>
   simp only[a]at h;simp only[look];cases aB u t with
   |true=>exact a
   |false=>exact nB h
section
variable {P:ar}{X:Cx P}{N:Nat}{Qf:Post}{K:List It}{φ:Fr}{σ:List aP}{c:Code}
def ln{S:Type}{P:ar}(X:Cx P)(N:Nat)(Qf:Post)(K:List It)(I:S->Prop)(a:S->Fr)(st:S->List aP)(b:S->Nat)(n:Nat)(x:S):Post:=λe φ' σ'=>match e with
 |.normal=>∃y,I y/\b y<b x/\oi φ' (a y)/\BY n (a y)=ab/\∃σ1 rest,σ'=σ1++rest/\σ1.length=n/\(r5 n σ1=ab/\lA rest=ab)/\D3 σ1 (st y)
 |e=>AK X N Qf K e φ' σ'
def AK.cz{S:Type}(n:Nat)(I:S->Prop)(fr:S->Fr)(st:S->List aP)(u:S->Nat)(x:S){ps qs:List Prop}(k:nA φ (fr x)=aa ps)(Y:az ps)(w:oS σ (st x)=aa qs)(T:az qs)(hn:σ.length=n)(O:I x)(round:∀x,I x->AK X N (ln X N Qf K I fr st u n x) [.code c] .normal (fr x) (st x)):AK X N Qf (.code (.loop c)::K) .normal φ σ:=by
 intro s a Z hh b kk cs SS hb hQ;have i:=gU w T;obtain⟨E,B,_⟩:=i s hh;refine ss (λm a' s'=>∃y,I y/\cm N (st y) s' (fr y) a'/\aF (st y) s'/\cR σ s (st y) s'/\u y=m) ?_ ?_ ⟨x,O,(Z.le (cE k Y)).bs i hh,E,B.na hh,rfl⟩
 .rintro n a' s' ⟨y,p,r,f,d,e⟩;exact⟨st y,f,λs1 h1=>⟨y,p,r.rely h1 f,f.rely h1,d.trans h1.stepW,e⟩⟩
 rintro m a' s' ⟨y,p,r,f,d,rfl⟩ V;refine round y p s' a' r f b (.inLoop c::kk) cs SS hb ?_;intro e R σ2 s2 a2 q G h2 mg;cases e with
 |normal =>
  obtain⟨z,U,C,g,H,σ1,rest,rfl,J,⟨W,l⟩,D⟩:=q;have F:=h2.drop (by grind);obtain⟨A,j,v⟩:=D _ F;have o:=G.le g;have Q:eu s2 (s2.cut σ1.length):=⟨rfl,λ_ _ _ h=>h,λ_ _ _=>rfl,h2.mem,λb hb=>hb.imp id λ⟨L,M,hb⟩=>⟨L,fW M,hb⟩⟩
  refine .ghost Q (V a2 (s2.cut σ1.length) (u z) C ⟨z,U,⟨o.size,o.defers.imp λ_ h1=>(h1.drop l).mono j.ext,λt=>v _ _ ((o.slot t).drop (nB (by grind)))⟩,A,?_,rfl⟩);exact((d.trans mg).drop (by omega)).trans (j.na F)
 |_=>exact ends.cons (λ_ _=>rfl) (by simp) (hQ _ _ _ _ _ q G h2 (d.trans mg))
def AK.RG{S:Type}{n:Nat}{I:S->Prop}{fr:S->Fr}{st:S->List aP}{h:S->Nat}{x:S}{i:List It}(y:S){ps qs:List Prop}(f:nA φ (fr y)=aa ps)(l:az ps)(a:BY n (fr y)=ab)(b:wN n σ=ab)(d:oS (σ.take n) (st y)=aa qs)(j:az qs)(e:r5 n (σ.take n)=ab)(k:I y)(g:h y<h x):
  AK X N (ln X N Qf i I fr st h n x) [] .normal φ σ :=
 ⟨y,k,g,cE f l,a,σ.take n,σ.drop n,(lb n σ).symm,by grind[Nat.le_of_ble_eq_true,qk],⟨e,(qk b).2⟩,gU d j⟩
def AK.aQ{S:Type}{n:Nat}{I:S->Prop}{fr:S->Fr}{st:S->List aP}{b:S->Nat}{x:S}{d:List It}(y:S){ps qs:List Prop}(h:(nA φ (fr y),BY n (fr y),wN n σ,oS (σ.take n) (st y),r5 n (σ.take n))=(aa ps,ab,ab,aa qs,ab))(g:az ps)(e:az qs)(f:I y)(a:b y<b x):
  AK X N (ln X N Qf d I fr st b n x) [] .normal φ σ:=by simp only[lT]at h;exact AK.RG y h.1 g h.2.1 h.2.2.1 h.2.2.2.1 e h.2.2.2.2 f a
def AK.leaveD{S:Type}{n:Nat}{I:S->Prop}{fr:S->Fr}{st:S->List aP}{b:S->Nat}{x:S}{id:Nat}{d a f:List It}(h1:jQ id d=ae)(h2:jQ id a=aa f)(k:AK X N Qf f .normal φ σ):
  AK X N (ln X N Qf a I fr st b n x) (.code (.exit id)::d) .normal φ σ :=
 AW.mono (AK.leave (A:=λφ' σ'=>ln X N Qf a I fr st b n x .normal φ' σ') h1 h2 k) λe φ' σ' q=>by
  have key:∀(K:List It) e,AK X N (λe φ' σ'=>match e with
    |.normal=>ln X N Qf a I fr st b n x .normal φ' σ'
    |e=>AK X N Qf a e φ' σ') K e φ' σ'->AK X N (ln X N Qf a I fr st b n x) K e φ' σ':=by
   have e:(λe φ' σ'=>match e with
    |.normal=>ln X N Qf a I fr st b n x .normal φ' σ'
    |e=>AK X N Qf a e φ' σ')=ln X N Qf a I fr st b n x:=by funext e φ' σ';cases e<;>rfl
   grind
  exact key _ _ q
def AK.fE{S:Type}{n:Nat}{I:S->Prop}{fr:S->Fr}{st:S->List aP}{d:S->Nat}{x:S}{a b:List It}(k:Qf .ret φ σ):AK X N (ln X N Qf b I fr st d n x) (.code .ret::a) .normal φ σ :=
 AK.ret (AK.sr (Qf:=Qf) k)
theorem cm.freeze(t l:Nat){E:aj}{cs:List A}{cc:List C}(z:look φ t=.e (.one (.ptr l 0)))(hl:du l σ=aa (.cells E cs))(H:gC cs=aa cc){s:St}{a:Act}(i:cm N σ s φ a)(hh:aF σ s):∃s':St,s'.w=s.w/\cm N (σ.set l .dead) s' ((t,.e (.one (.c (.rp cc))))::φ) a/\aF (σ.set l .dead) s'/\Step σ s (σ.set l .dead) s':=by
 have hB:=bZ hl;have n:l<σ.length:=(bY.1 hB).1;have q:=i.slot t;rw[z]at q;obtain⟨_,L,b,k,f,F⟩:=q;obtain⟨g,vs,h1,h2,y,I⟩:=hh.box l _ L hB k;subst h1;simp at f;subst f;let s':St:={s with M:=λr o=>if r=g then vs[o]? else s.M r o}
 have st:Step σ s (σ.set l .dead) s':=by
  refine⟨bh _,λ_ _ _=>rfl,?_,?_,λL h b d=>.inr ⟨L,h,d⟩,?_,rfl,rfl,rfl,rfl⟩
  .grind
  .intro b d D o;have m:b≠g:=λe=>D _ (bJ k) (by simp[e]);grind
  .intro l' B L' j1 fe;by_cases e:l=l'
   .subst e;rw[hB]at j1;cases j1;exact⟨.dead,L',by grind,fe,rfl⟩
   .exact⟨B,L',by grind,fe,.refl _ _⟩
 refine⟨s',rfl,⟨i.size,i.defers.imp λ_ h1=>h1.mono st.ext,λu=>?_⟩,⟨?_,by simp[hh.len,s'],?_,hh.eB,hh.lt,hh.own⟩,st⟩
 .simp only[look];cases d:aB t u with
  |false=>exact(i.slot u).mono st.ext hh.len
  |true =>
   have e:=bP d;subst e;rw[F];have x:=lQ H y;refine Rd.rp g 0 (λj=>(vs[j]?).getD ai) ?_ ?_
   .intro j c hj;obtain⟨v,p,_⟩:=x.get (j:=j) (a:=.c c) (by grind);grind
   .intro j c hj;obtain⟨v,p,p2⟩:=x.get (j:=j) (a:=.c c) (by grind);simp only[p,im];exact Rd.mono st.mem p2
 .intro b o v J;by_cases e:b=g
  .subst e;have hm':vs[o]?=aa v:=by grind
   show s.w.cell? _=_;simp[aV,h2,hm']
  .exact hh.mem b o v (by grind)
 .intro l' B L' j1 fe;by_cases e:l=l'
  .subst e;rw[fV n]at j1;cases j1;trivial
  .rw[j7 e]at j1;refine(hh.box l' B L' j1 fe).carry st.ext hh.len λb d=>⟨rfl,λo=>?_⟩
   have m:b≠g:=λG=>e (hh.eB l l' _ L' k fe b (by grind) d);grind
theorem AK.freeze(t l:Nat){E:aj}{cs:List A}{cc:List C}(b:look φ t=.e (.one (.ptr l 0)))(hl:du l σ=aa (.cells E cs))(a:gC cs=aa cc)(kk:AK X N Qf (.code c::K) .normal ((t,.e (.one (.c (.rp cc))))::φ) (dH.qB l .dead σ)):AK X N Qf (.code c::K) .normal φ σ:=by grind[jd,AK.ghost,cm.freeze]
def AK.one{all rest:List au}{o:au}{x:D}{σ':List aP}(h:OA X N all o φ σ x σ')(a:fR N o.dst=ab)(k:AK X N Qf (.ops all rest::K) .normal (km o.dst x φ) σ'):AK X N Qf (.ops all (o::rest)::K) .normal φ σ :=
 ib.Aa h (gA a) k
end
def aF.jw{σ:List aP}{s:St}(h:aF σ s){l:Nat}{H H':ah->(Nat->Option Obj)->Prop}{L L':Loc}(hB:σ[l]?=aa (.b8 H))(t:s.β[l]?=aa L){w':aA}(G:L'.v=L.v)(r:s.w.heap.size<=w'.heap.size)(hk:∀b,b<s.w.heap.size->b∉L.bs->w'.heap[b]?=s.w.heap[b]?)(j:∀b∈L'.bs,b∈L.bs∨(s.w.heap.size<=b/\b<w'.heap.size))(y:∃ch,H' L'.v ch/\(∀(b:Nat) (o:Obj),ch b=aa o->w'.heap[b]?=aa o)/\(∀b,b∈L'.bs↔(ch b).isSome=ab))(K:w'.os=s.w.os)(F:w'.tape=s.w.tape)(O:w'.output=s.w.output):
  aF (σ.set l (.b8 H')) ⟨s.β.set l L',s.M,w',s.own⟩/\Step σ s (σ.set l (.b8 H')) ⟨s.β.set l L',s.M,w',s.own⟩:=by
 have z:l<σ.length:=(bY.1 hB).1;have x:l<s.β.length:=by grind
 obtain⟨I,_,_,_,P⟩:=h.box l _ L hB t;have n:∀b∈L'.bs,∀o,s.M b o=ae:=by
  intro b i o;rcases j b i with h1|⟨h1,_⟩
  .grind
  .cases u:s.M b o with
   |none=>rfl
   |some v=>have:=h.block u;omega
 have st:Step σ s (σ.set l (.b8 H')) ⟨s.β.set l L',s.M,w',s.own⟩:=by
  refine⟨r,?_,λ_ _ _ h=>h,λ_ _ _ _=>rfl,?_,?_,K,F,O,rfl⟩
  .grind
  .grind
  .intro l' B a c f;by_cases e:l=l'
   .subst e;rw[hB]at c;cases c;rw[t]at f;cases f;exact⟨.b8 H',L',by grind,by grind,G⟩
   .exact⟨B,a,by grind,by grind,.refl _ _⟩
 have g:∀(l':Nat) (a:Loc),(s.β.set l L')[l']?=aa a->(l'=l/\a=L')∨(l≠l'/\s.β[l']?=aa a):=by grind
 refine⟨⟨?_,by simp[h.len],?_,?_,?_,?_⟩,st⟩
 .intro b o v u;have E:=h.block u;have D:b∉L.bs:=λm=>by grind
  rw[<-h.mem b o v u];simp only[aV];grind
 .intro l' B a c f;rcases g l' a f with⟨rfl,rfl⟩|⟨e,h2⟩
  .rw[fV z]at c;cases c;obtain⟨ch,k1,N,C⟩:=y;exact⟨ch,k1,N,C,n⟩
  .rw[j7 e]at c;refine(h.box l' B a c h2).carry st.ext h.len λb i=>⟨hk b (h.lt a (bJ h2) b i) λm=>e (h.eB l l' L a t h2 b m i),λ_=>rfl⟩
 .intro J A L1 a h1 h2 b k d;rcases g J L1 h1 with⟨rfl,rfl⟩|⟨e1,p⟩<;>rcases g A a h2 with⟨rfl,rfl⟩|⟨e2,q⟩
  .rfl
  .rcases j b k with m|m
   .exact h.eB _ _ L a t q b m d
   .have:=h.lt a (bJ q) b d;omega
  .rcases j b d with m|m
   .exact h.eB _ _ L1 L p t b k m
   .have:=h.lt L1 (bJ p) b k;omega
  .exact h.eB _ _ L1 a p q b k d
 .intro a f b d;rcases List.mem_or_eq_of_mem_set f with h1|h1
  .exact cU (h.lt a h1 b d) r
  .subst h1;rcases j b d with h2|h2
   .exact cU (h.lt L (bJ t) b h2) r
   grind
 .intro b y;obtain⟨Q,R⟩:=h.own b y;grind
section
variable {H H':ah->(Nat->Option Obj)->Prop}{s:St}
end
def cp.pv{fn:Func}{a:Nat}{res:D}{σ':List aP}{φ:Fr}{σ:List aP}(ks:List Nat){ps:List Prop}(h:zL fn.results.toList ks φ res=aa ps)(d:az ps)(e:jK ks σ=aa σ')(b:ko σ'=ab)(c:dx ks=ab)(hk:∀j,j<a->ks[j]?=aa j):
  cp fn a res σ' .normal φ σ:=by refine⟨.inr rfl,ks,?_⟩;unfold zL at h;grind
def AK.Q6{P:ar}{X:Cx P}{N:Nat}{Qf:Post}{K:List It}{φ:Fr}{σ:List aP}{all rest:List au}{o:au}{m:ak}{xs:Array ak}{h:Array aj}{f:aJ}{cap:List C}{a:List D}{c σ1:List aP}{res:D}(j:Ev X f a c res σ1)(ks:List Nat)(i:o.guard=ae)(q:o.op=.call {callee:=.value m,args:=xs,argTypes:=h})(r:eG (bM φ m)=aa (f,cap))(b:mx (xs.toList.map (bM φ)++fJ cap)=fI ks a)(d:ll ks.length a=ab)(l:jK ks σ=aa c)(p:cq c=ab)(e:cq σ1=ab)(n:dx ks=ab)(g:bu ks.length σ1.length=ab)(s:fR N o.dst=ab)(k:AK X N Qf (.ops all rest::K) .normal (km o.dst (hZ (ks++kL σ.length (σ1.length-ks.length)) res) φ) (dH ks σ1 σ)):AK X N Qf (.ops all (o::rest)::K) .normal φ σ :=
 ib.call (λ_ _ _ _=>dC i) q r ks j b d l p e n (cV g) o.dst rfl (gA s) k
def AK.qc{P:ar}{ι:Type}{X:Cx P}{N:Nat}{Qf:Post}{K:List It}{φ:Fr}{σ:List aP}{all rest:List au}{o:au}{n:ak}{xs:Array ak}{h:Array aj}{f:aJ}{cap:List C}{a:List D}{c:List aP}{σ1:ι->List aP}{res:ι->D}(l:eb X f a c res σ1)(ks:List Nat)(i:o.guard=ae)(r:o.op=.call {callee:=.value n,args:=xs,argTypes:=h})(s:eG (bM φ n)=aa (f,cap))(b:mx (xs.toList.map (bM φ)++fJ cap)=fI ks a)(d:ll ks.length a=ab)(m:jK ks σ=aa c)(q:cq c=ab)(e:∀j,cq (σ1 j)=ab)(p:dx ks=ab)(g:∀j,bu ks.length (σ1 j).length=ab)(t:fR N o.dst=ab)(k:∀j,AK X N Qf (.ops all rest::K) .normal (km o.dst (hZ (ks++kL σ.length ((σ1 j).length-ks.length)) (res j)) φ) (dH ks (σ1 j) σ)):AK X N Qf (.ops all (o::rest)::K) .normal φ σ :=
 ib.PQ (λ_ _ _ _=>dC i) r s ks l b d m q e p (λj=>cV (g j)) o.dst rfl (gA t) k
def AK.cQ{P:ar}{X:Cx P}{N:Nat}{Qf:Post}{K:List It}{φ:Fr}{σ:List aP}{all rest:List au}{o:au}{s:ak}{xs:Array ak}{q:Array aj}{f:aJ}{cap:List C}{n:List D}{p σ1:List aP}{res:D}(r:Ev X f n p res σ1)(ks:List Nat)(h:(o.guard,o.op,eG (bM φ s),mx (xs.toList.map (bM φ)++fJ cap),ll ks.length n,jK ks σ,cq p,cq σ1,dx ks,bu ks.length σ1.length,fR N o.dst)=(ae,.call {callee:=.value s,args:=xs,argTypes:=q},aa (f,cap),fI ks n,ab,aa p,ab,ab,ab,ab,ab))(k:AK X N Qf (.ops all rest::K) .normal (km o.dst (hZ (ks++kL σ.length (σ1.length-ks.length)) res) φ) (dH ks σ1 σ)):AK X N Qf (.ops all (o::rest)::K) .normal φ σ:=by simp only[lT]at h;obtain⟨a,b,c,d,e,f,g,i,j,l,m⟩:=h;exact AK.Q6 r ks a b c d e f g i j l m k
def AK.cP{P:ar}{ι:Type}{X:Cx P}{N:Nat}{Qf:Post}{K:List It}{φ:Fr}{σ:List aP}{all rest:List au}{o:au}{r:ak}{xs:Array ak}{n:Array aj}{f:aJ}{cap:List C}{i:List D}{l:List aP}{σ1:ι->List aP}{res:ι->D}(p:eb X f i l res σ1)(ks:List Nat)(h:(o.guard,o.op,eG (bM φ r),mx (xs.toList.map (bM φ)++fJ cap),ll ks.length i,jK ks σ,cq l,dx ks,fR N o.dst)=(ae,.call {callee:=.value r,args:=xs,argTypes:=n},aa (f,cap),fI ks i,ab,aa l,ab,ab,ab))(q:∀j,(cq (σ1 j),bu ks.length (σ1 j).length)=(ab,ab))(k:∀j,AK X N Qf (.ops all rest::K) .normal (km o.dst (hZ (ks++kL σ.length ((σ1 j).length-ks.length)) (res j)) φ) (dH ks (σ1 j) σ)):AK X N Qf (.ops all (o::rest)::K) .normal φ σ:=by simp only[lT]at h q;obtain⟨a,b,c,d,e,f,g,j,m⟩:=h;exact AK.qc p ks a b c d e f g (λj=>(q j).1) j (λj=>(q j).2) m k
def vX:List D->List D->Option (List Prop)
 |[],[]=>aa []
 |a::al,b::bs=>match Ds a b with
  |some p=>match vX al bs with
   |some q=>aa (kM p q)
   |none=>ae
  |none=>ae
 |_,_=>ae
def vj{σ:List aP}{s:St}:∀{vs:List ah}{xs ys:List D}{ps:List Prop},vX xs ys=aa ps->az ps->cg σ s vs xs->cg σ s vs ys
 |[],[],[],_,_,_,_=>trivial
 |_::_,[],_,_,_,_,h=>h.elim
 |[],_::_,_,_,_,_,h=>h.elim
 |[],[],_::_,_,h,_,_=>by simp[vX]at h
 |_::_,_::_,[],_,h,_,_=>by simp[vX]at h
 |v::vs,a::al,b::bs,ps,h,c,e=>by
  simp only[vX]at h;cases f:Ds a b with
  |none=>grind
  |some p =>
   cases d:vX al bs with
   |none=>grind
   |some q =>
    simp[f,d]at h;subst h;rw[az.cat]at c;exact⟨oo f c.1 e.1,vj d c.2 e.2⟩
def AK.jL{P:ar}{ι:Type}{X:Cx P}{N:Nat}{Qf:Post}{K:List It}{φ:Fr}{σ:List aP}{all rest:List au}{o:au}{q:ak}{xs:Array ak}{l:Array aj}{f:aJ}{cap:List C}{a:List D}{c:List aP}{σ1:ι->List aP}{res:ι->D}(n:eb X f a c res σ1)(ks:List Nat)(m:o.guard=ae)(u:o.op=.call {callee:=.value q,args:=xs,argTypes:=l})(v:eG (bM φ q)=aa (f,cap)){ps:List Prop}(b:vX (xs.toList.map (bM φ)++fJ cap) (fI ks a)=aa ps)(e:az ps)(d:ll ks.length a=ab)(p:jK ks σ=aa c)(t:cq c=ab)(g:∀j,cq (σ1 j)=ab)(r:dx ks=ab)(i:∀j,bu ks.length (σ1 j).length=ab)(w:fR N o.dst=ab)(k:∀j,AK X N Qf (.ops all rest::K) .normal (km o.dst (hZ (ks++kL σ.length ((σ1 j).length-ks.length)) (res j)) φ) (dH ks (σ1 j) σ)):AK X N Qf (.ops all (o::rest)::K) .normal φ σ :=
 ib.BA (λ_ _ _ _=>dC m) u v ks n (λs vs h=>vj b e h) d p t g r (λj=>cV (i j)) o.dst rfl (gA w) k
def JZ{a:Act}{d:Nat}{v:ah}(h:d<a.tmps.size):(a.put (aa d) v).tmps.getD d ai=v:=by simp[Act.put,dM,vH h]
def lY{P:ar}{f:aJ}{fn:Func}{e:Array ah->Sem ah}(h:P.funcs[f]?=aa fn)(a:(fn.name== "runtime.NumGoroutine")=af)(c:fn.body.isNone=ab)(d:Extern.findNext fn=ae)(b:Extern.find fn=aa e)(args:Array ah)(j:c7 P (e args))(w:aA)(es:Array Event):
  (callFunc f args).events P w es=es.push ⟨.mark (.extern f),af,ab⟩:=by
 have g:fn.name≠ "runtime.NumGoroutine":=by grind
 have i:fn.body=ae:=by simpa using c
 simp[callFunc,h,g,i,d,b];rw[j w]
section
variable {P:ar}{X:Cx P}{N:Nat}{Qf:Post}{K:List It}{φ:Fr}{σ:List aP}{all rest:List au}{o:au}
def dN(P:ar)(N:Nat)(o:au)(φ:Fr)(σ:List aP){ι:Type}(x:ι->D)(σ':ι->List aP):Prop :=
 ∀s a,cm N σ s φ a->aF σ s->∃i b s' v,(aw a.eval o).run P s.w=.ok b s'.w/\(b=.value v∨(b=.skip/\v=ai))/\dk (σ' i) s' v (x i)/\aF (σ' i) s'/\Step σ s (σ' i) s'/\eY s ((aw a.eval o).events P s.w #[])
def AK.hand{ι:Type}(x:ι->D)(σ':ι->List aP)(r:o.guard=ae)(z:fR N o.dst=ab)(h:dN P N o φ σ x σ')(k:∀i,AK X N Qf (.ops all rest::K) .normal (km o.dst (x i) φ) (σ' i)):AK X N Qf (.ops all (o::rest)::K) .normal φ σ:=by
 intro s a f hh b kk cs S idx hb jm hQ;cases idx with
 |nil=>exact jm.elim
 |cons j idx =>
 refine rh hb jm.1 (dC r) λB d=>?_;have c:=hh.rely d;have l:=f.rely d hh;obtain⟨i,p,s',v,h1,h2,w,m,n,y⟩:=h B a l c;have g:=n.na c;refine⟨p,s',v,h1,h2,⟨⟨σ,σ' i,c,m,n⟩,y⟩,?_⟩;refine k i s' _ ?_ m b kk cs S idx hb jm.2 λe σ2 s2 a2 q A h2 st=>hQ e σ2 s2 a2 q A h2 ((d.stepW.trans g).trans st);cases u:o.dst with
 |none=>exact l.mono g c.len
 |some t=>exact(l.mono g c.len).put (gA z t u) w
def AK.law{x:D}{σ':List aP}(h:bF P o (bM φ) σ x σ')(b:o.guard=ae)(a:fR N o.dst=ab)(k:AK X N Qf (.ops all rest::K) .normal (km o.dst x φ) σ'):AK X N Qf (.ops all (o::rest)::K) .normal φ σ :=
 AK.one (.kQ (λ_ _ _ _=>dC b) h) a k
def qH(all:List au)(φ:Fr)(o:au):Bool:=match o.guard with
 |none=>ab
 |some (j,b)=>match zV φ all j with
  |some (aa ab)=>b
  |some (aa af)=>!b
  |_=>af
def fD{all:List au}{o:au}{φ:Fr}(h:qH all φ o=ab):∀σ s a,cm N σ s φ a->bd o (yielded all.toArray a.tmps)=ab:=by
 intro σ s a f;unfold qH at h;split at h
 .grind [dC]
 .rename_i j b d;split at h
  .rename_i c;simp only[bd,d,qi c f,h];rfl
  .rename_i c;simp only[bd,d,qi c f];grind
  grind
def AK.N2{m:ak}{xs:Array ak}{h:Array aj}{f:aJ}{cap:List C}{a:List D}{c σ1:List aP}{res:D}(j:Ev X f a c res σ1)(ks:List Nat)(i:qH all φ o=ab)(q:o.op=.call {callee:=.value m,args:=xs,argTypes:=h})(r:eG (bM φ m)=aa (f,cap))(b:mx (xs.toList.map (bM φ)++fJ cap)=fI ks a)(d:ll ks.length a=ab)(l:jK ks σ=aa c)(p:cq c=ab)(e:cq σ1=ab)(n:dx ks=ab)(g:bu ks.length σ1.length=ab)(s:fR N o.dst=ab)(k:AK X N Qf (.ops all rest::K) .normal (km o.dst (hZ (ks++kL σ.length (σ1.length-ks.length)) res) φ) (dH ks σ1 σ)):AK X N Qf (.ops all (o::rest)::K) .normal φ σ :=
 ib.call (fD i) q r ks j b d l p e n (cV g) o.dst rfl (gA s) k
end
inductive m9 where
 |nil (a:Option Addr)
 |row (b cap:Nat)
def k9(bf:m9)(n:Nat):ah:=match bf with
 |.nil a=>.slice a 0 0
 |.row b cap=>.slice (aa ⟨b,0,ae⟩) n cap
def ni(bf:m9)(n:Nat):cD (k9 bf n)=ab:=by cases bf<;>rfl
def Nu(xs:List ah):Nat->List C:=λi=>[.val (xs.getD i ai)]
section
variable {P:ar}{X:Cx P}{N:Nat}{Qf:Post}{K:List It}{φ:Fr}{σ:List aP}{all rest:List au}{o:au}
def AW.tb{ι:Type}{c:Code}{Q:Post}{φ':ι->Fr}{σ':ι->List aP}(h:∀s a,cm N σ s φ a->aF σ s->∃(i:ι)(s':St),s'.w=s.w/\cm N (σ' i) s' (φ' i) a/\aF (σ' i) s'/\Step σ s (σ' i) s')(k:∀i,AW X N c Q (φ' i) (σ' i)):AW X N c Q φ σ:=by intro s a n hh b kk cs S l m;obtain⟨i,s',p,g,d,st⟩:=h s a n hh;have f:=st.na hh;refine .ghost (.of hh d p f) ?_;exact k i s' a g d b kk cs S l λe j σ2 s2 a2 q r h2 mg=>m e j σ2 s2 a2 q r h2 (f.trans mg)
def AK.Nv{ι:Type}(l:Nat){H:ah->(Nat->Option Obj)->Prop}(H':ι->ah->(Nat->Option Obj)->Prop){c:Code}(hl:σ[l]?=aa (.b8 H))(h:∀v ch,H v ch->∃i,H' i v ch)(kk:∀i,AK X N Qf (.code c::K) .normal φ (σ.set l (.b8 (H' i)))):AK X N Qf (.code c::K) .normal φ σ:=by
 refine AW.tb (φ':=λ_=>φ) (σ':=λi=>σ.set l (.b8 (H' i))) (λs a m hh=>?_) kk;have f:l<σ.length:=(bY.1 hl).1;have g:l<s.β.length:=by rw[hh.len];grind
 have n:=br g;generalize s.β[l]=L at n;obtain⟨ch,q,d,j,k⟩:=hh.box l _ L hl n;obtain⟨i,hi⟩:=h _ _ q;have ex:Ext σ s (σ.set l (.b8 (H' i))) s:=by
  refine⟨λ_ _ _ h=>h,λl' B L' j1 fe=>?_⟩;by_cases e:l=l'
  .subst e;rw[hl]at j1;cases j1;exact⟨.b8 (H' i),L',by grind,fe,rfl⟩
  .exact⟨B,L',by grind,fe,.refl _ _⟩
 have st:Step σ s (σ.set l (.b8 (H' i))) s :=
  ⟨bh _,λ_ _ _=>rfl,λ_ _ _ h=>h,λ_ _ _ _=>rfl,λL h b p=>.inr ⟨L,h,p⟩,ex.box,rfl,rfl,rfl,rfl⟩
 refine⟨i,s,rfl,⟨m.size,m.defers.imp λ_ h1=>h1.mono st.ext,λu=>(m.slot u).mono st.ext hh.len⟩,⟨hh.mem,by simp[hh.len],?_,hh.eB,hh.lt,hh.own⟩,st⟩;intro l' B L' j1 fe;by_cases e:l=l'
 .subst e;rw[fV f]at j1;cases j1;rw[n]at fe;cases fe;exact⟨ch,hi,d,j,k⟩
 .rw[j7 e]at j1;exact(hh.box l' B L' j1 fe).carry ex hh.len λ_ _=>⟨rfl,λ_=>rfl⟩
end
def uK:C->Bool
 |.int _ _|.bool _|.str _|.hY|.iy|.x4|.val _=>ab
 |_=>af
def vN:A->Bool
 |.c x=>uK x
 |.any=>ab
 |_=>af
def Nr:List A->Bool
 |[]=>ab
 |a::r=>match vN a with|true=>Nr r|false=>af
def Jf:E1->Bool
 |.one a=>vN a
 |.agg cs=>Nr cs
def Fz:List E1->Bool
 |[]=>ab
 |a::r=>match Jf a with|true=>Fz r|false=>af
def Ns:D->Bool
 |.e x=>Jf x
 |.eX xs=>Fz xs
 |.any=>ab
section
variable {σ σ':List aP}{s s':St}
theorem qa{M M':Mem}{v:ah}{c:C}(h:uK c=ab)(r:Rd M v c):Rd M' v c:=by
 cases r<;>first|(simp[uK]at h;done)|skip
 case int h1=>exact .int h1
 case bool=>exact .bool
 case str h1 h2=>exact .str h1 h2
 case hY=>exact .hY
 case iy=>exact .iy
 case x4=>exact .x4
 case val h1=>exact .val h1
def FA{v:ah}{a:A}(h:vN a=ab)(r:gn σ s v a):gn σ' s' v a:=by
 cases a with
 |c x=>exact qa h r
 |any=>exact r
 |_=>simp[vN]at h
def FB:∀{vs:List ah}{cs:List A},Nr cs=ab->dX σ s vs cs->dX σ' s' vs cs
 |[],[],_,_=>trivial
 |[],_::_,_,r=>r.elim
 |_::_,[],_,r=>r.elim
 |v::vs,c::cs,h,r=>by
  simp only[Nr]at h;cases a:vN c with
  |false=>grind
  |true=>simp only[a]at h;exact⟨FA a r.1,FB h r.2⟩
def zB{v:ah}{x:E1}(h:Jf x=ab)(r:m8 σ s v x):m8 σ' s' v x:=by
 cases x with
 |one a=>exact FA h r
 |agg cs=>obtain⟨vs,c,b⟩:=r;exact⟨vs,c,FB h b⟩
def Br:∀{vs:List ah}{cs:List E1},Fz cs=ab->g6 σ s vs cs->g6 σ' s' vs cs
 |[],[],_,_=>trivial
 |[],_::_,_,r=>r.elim
 |_::_,[],_,r=>r.elim
 |v::vs,c::cs,h,r=>by
  simp only[Fz]at h;cases a:Jf c with
  |false=>grind
  |true=>simp only[a]at h;exact⟨zB a r.1,Br h r.2⟩
def Nt{v:ah}{d:D}(h:Ns d=ab)(r:dk σ s v d):dk σ' s' v d:=by
 cases d with
 |e x=>exact zB h r
 |eX xs=>obtain⟨vs,b,a⟩:=r;exact⟨vs,b,Br h a⟩
 |any=>trivial
end
def Bt:List aP->Bool
 |[]=>ab
 |.b8 _::r=>Bt r
 |.dead::r=>Bt r
 |_=>af
def Bu:∀{l:List aP},Bt l=ab->∀B∈l,(∃H,B=.b8 H)∨B=.dead
 |[],_,B,hB=>by grind
 |b::r,h,B,hB=>by
  have a:((∃H,b=.b8 H)∨b=.dead)/\Bt r=ab:=by cases b<;>simp_all[Bt]
  rcases eE.1 hB with rfl|hB
  .exact a.1
  .exact Bu a.2 B hB
def gZ(σ:List aP)(a:Nat)(u:ah)(k n:Nat)(es:Nat->List C):Prop :=
 ∀s,aF σ s->∃(L:Loc) (M':Mem),s.β[a]?=aa L/\(∀b o v,s.M b o=aa v->M' b o=aa v)/\(∀b,b∉L.bs->∀o,M' b o=s.M b o)/\(∀b o v,M' b o=aa v->s.w.cell? ⟨b,o,ae⟩=aa v) /\
  (∀b∈L.bs,∀o,s.M b o=ae)/\Rd M' u (.sl af k n es)
section
variable {P:ar}{X:Cx P}{N:Nat}{Qf:Post}{K:List It}{φ:Fr}{σ:List aP}{all rest:List au}{o:au}
def cg.setAt{σ:List aP}{s:St}{d:D}:∀{vs:List ah}{ds:List D}{p:Nat}{v:ah},cg σ s vs ds->vs[p]?=aa v->dk σ s v d->cg σ s vs (ds.set p d)
 |[],[],_,_,_,h,_=>by grind
 |[],_::_,_,_,h,_,_=>h.elim
 |_::_,[],_,_,h,_,_=>h.elim
 |u::vs,e::ds,0,v,h,a,b=>by simp at a;subst a;exact⟨b,h.2⟩
 |u::vs,e::ds,p+1,v,h,a,b=>⟨h.1,cg.setAt (p:=p) h.2 (by grind) b⟩
def jJ(σ:List aP)(ds FC:List D):Prop :=
 ∀s vs,aF σ s->cg σ s vs ds->∃(B:Nat->Prop) (M':Mem),(∀b,B b->∃L∈s.β,b∈L.bs)/\(∀b o v,s.M b o=aa v->M' b o=aa v)/\(∀b,¬B b->∀o,M' b o=s.M b o) /\
  (∀b o v,M' b o=aa v->s.w.cell? ⟨b,o,ae⟩=aa v)/\(∀b,B b->∀o,s.M b o=ae)/\cg σ {s with M:=M'} vs FC
def jJ.refl(σ:List aP)(ds:List D):jJ σ ds ds:=λs vs hh hr=>⟨λ_=>False,s.M,λ_ h=>h.elim,λ_ _ _ h=>h,λ_ _ _=>rfl,hh.mem,λ_ h=>h.elim,hr⟩
def jJ.step{σ:List aP}{ds FC:List D}(h:jJ σ ds FC)(p r:Nat){u:ah}{k n:Nat}{es:Nat->List C}(w:FC[p]?=aa (.e (.one (.v u))))(hl:gZ σ r u k n es):jJ σ ds (FC.set p (.e (.one (.c (.sl af k n es))))):=by
 classical
 intro s vs hh hr;obtain⟨B,M1,G,y,z,J,I,j⟩:=h s vs hh hr;obtain⟨L,a,m,H,A,F,E,t⟩:=hl s hh;have h1:∀b o v,M1 b o=aa v->(M1 b o).or (a b o)=aa v:=λb o v d=>by grind
 have h2:∀b o v,a b o=aa v->(M1 b o).or (a b o)=aa v:=λb o v d=>by
  cases e:M1 b o with
  |none=>grind
  |some v' =>
   grind
 refine⟨λb=>B b∨b∈L.bs,λb o=>(M1 b o).or (a b o),?_,λb o v d=>h1 b o v (y b o v d),?_,?_,?_,?_⟩
 .grind
 .grind
 .intro b o v d;cases e:M1 b o with
  |none=>grind
  |some v'=>grind
 .grind
 .have e1:Ext σ {s with M:=M1} σ {s with M:=λb o=>(M1 b o).or (a b o)}:=⟨h1,λl B L hB m=>⟨B,L,hB,m,.refl _ _⟩⟩
  have q:=j.mono e1 hh.len;obtain⟨x,g⟩:=cg.get j;have i:p<vs.length:=by grind
  have f:vs[p]?=aa u:=by have:=g p;rw[w,br i]at this;have:=Rd.dZ (show Rd M1 vs[p] (.val u)from this);grind
  exact q.setAt f (show dk σ {s with M:=λb o=>(M1 b o).or (a b o)} u (.e (.one (.c (.sl af k n es))))from Rd.mono h2 t)
end
def fQ(E:aj)(k:Nat)(bf:m9)(n:Nat)(xs:List ah):ah->(Nat->Option Obj)->Prop:=λv c=>v=.nilFunc/\(∀x∈xs,cD x=ab)/\xs.length=n*k/\match bf with
 |.nil _=>n=0/\c=λ_=>ae
 |.row b cap=>n<=cap/\cap<=9223372036854775807/\∃a,(xs++a).length=cap*k/\c=λd=>if d=b then aa (.cells (xs++a).toArray E (0,0))else ae
def tc(k:Nat)(xs:List ah):Nat->List C:=λi=>((xs.drop (i*k)).take k).map .val
def Bv{k n i:Nat}{xs:List ah}(a:xs.length=n*k)(hi:i<n):(tc k xs i).length=k:=by
 have:i*k+k<=n*k:=by rw[<-lj];exact eC _ hi
 simp[tc,a];omega
def Bw{k i j:Nat}{xs:List ah}{c:C}(h:(tc k xs i)[j]?=aa c):∃u,xs[i*k+j]?=aa u/\c=.val u:=by simp only[tc,mV,iN,oX]at h;grind
def fQ.lookup{E:aj}{k b cap n:Nat}{xs:List ah}{v:ah}{ch:Nat->Option Obj}(h:fQ E k (.row b cap) n xs v ch):∃a,(xs++a).length=cap*k/\ch b=aa (.cells (xs++a).toArray E (0,0))/\∀c,(ch c).isSome=ab↔c=b:=by obtain⟨_,_,_,_,_,a,h1,h2⟩:=h;grind
def Rd.Uj{M:Mem}{b cap k n:Nat}{xs:List ah}(f:∀x∈xs,cD x=ab)(hl:xs.length=n*k)(d:n<=cap)(e:cap<=9223372036854775807)(g:∀o,M b o=xs[o]?):Rd M (.slice (aa ⟨b,0,ae⟩) n cap) (.sl af k n (tc k xs)):=by refine Rd.qR (M:=M) (k:=k) (n:=n) (es:=tc k xs) (vs:=xs) (a:=aa ⟨b,0,ae⟩) (b:=b) (off:=0) (cap:=cap) (t:=af) ⟨hl,λi hi=>Bv hl hi,λi hi j c hj=>?_⟩ (λ_=>rfl) d e (by simp) (λp u h=>by grind);obtain⟨u,h1,rfl⟩:=Bw hj;exact⟨u,h1,.val (f u (bJ h1))⟩
section
variable {P:ar}{X:Cx P}{N:Nat}{Qf:Post}{K:List It}{φ:Fr}{σ:List aP}{all rest:List au}{o:au}
def fQ.Bx{E:aj}{k n f:Nat}{bf:m9}{xs:List ah}(hl:σ[f]?=aa (.b8 (fQ E k bf n xs)))(es:Nat->List C)(l:∀i,i<n->(es i).length=k/\∀M j c x,(es i)[j]?=aa c->xs[i*k+j]?=aa x->Rd M x c):gZ σ f (k9 bf n) k n es:=by
 intro s hh;have J:f<σ.length:=(bY.1 hl).1;have g:f<s.β.length:=by rw[hh.len];grind
 have z:=br g;generalize s.β[f]=L at z;obtain⟨ch,A,d,D,e⟩:=hh.box f _ L hl z;cases bf with
 |nil a0 =>
  obtain⟨_,_,_,rfl,_⟩:=A;exact⟨L,s.M,z,λ_ _ _ h=>h,λ_ _ _=>rfl,hh.mem,e,Rd.jG⟩
 |row b cap =>
  obtain⟨U,S,r,I⟩:=A.lookup;obtain⟨R,H,y,q,G,_⟩:=A;have F:b∈L.bs:=(D b).2 (by grind)
  have m:=d b _ r;obtain⟨c1,c2⟩:=hh.zw (b:=b) (vs:=xs) (e b F) (λo v T=>by
   simp only[aV,m]
   grind)
  refine⟨L,λB o=>if B=b then xs[o]? else s.M B o,z,c2,λB O o=>aZ (by grind),c1.mem,e,?_⟩;refine Rd.qR (k:=k) (n:=n) (es:=es) (vs:=xs) (a:=aa ⟨b,0,ae⟩) (b:=b) (off:=0) (cap:=cap) (t:=af) ⟨y,λi hi=>(l i hi).1,λi hi j c hj=>?_⟩ (λ_=>rfl) q G (by simp) (λp u V=>by grind);have Q:j<k:=by grind
  have w:i*k+j<xs.length:=by
   rw[y];have:i*k+k<=n*k:=by rw[<-lj];exact eC _ hi
   omega
  exact⟨xs[i*k+j],br w,(l i hi).2 _ j c _ hj (br w)⟩
def dN.oh{k:Nat}{x y:ak}{E:aj}{Y:TI}(h:lz P o x y E Y)(hs:Y.size=k){l:Nat}{bf:m9}{xs:List ah}{n:Nat}(hx:bM φ x=.e (.one (.v (k9 bf n))))(hl:σ[l]?=aa (.b8 (fQ E k bf n xs))){tx:Bool}{es':Nat->List C}(hy:bM φ y=.e (.one (.c (.sl tx k 1 es')))){xv:List ah}(hxv:xv.length=k)(hcx:∀(M:Mem) (v:ah) (j:Nat) (c:C),(es' 0)[j]?=aa c->Rd M v c->xv[j]?=aa v/\cD v=ab)(J:(n+1)*Y.bytes<=140737488355328):
  dN P N o φ σ (λS:m9=>.e (.one (.v (k9 S (n+1))))) λS=>σ.set l (.b8 (fQ E k S (n+1) (xs++xv))):=by
 intro s a hf hh;obtain⟨t,t2,i,i2,ho,hi,B,H,G⟩:=h.op;have QW:l<σ.length:=(bY.1 hl).1;have QX:l<s.β.length:=by rw[hh.len];grind
 have hL:=br QX;generalize s.β[l]=L at hL;obtain⟨ch,Z,T,T8,WW⟩:=hh.box l _ L hl hL;have U:=bJ hL;have I:=cY hf x;rw[hx]at I;have I:=Rd.dZ I;have hw:=cY hf y;rw[hy]at hw;have hw:=eT hw;have W:=Z.2.1;have O:=Z.2.2.1;have nM:∀b,s.w.heap.size<=b->∀o,s.M b o=ae:=λb J o=>by
  cases hm:s.M b o with
  |none=>rfl
  |some v=>have:=hh.block hm;omega
 have mk:∀(M':Mem) (a0:Option Addr) (cap:Nat),k9 bf n=.slice a0 n cap->cap<n+1->aF (σ.map λ_=>.dead) {s with M:=M'}->(∀f o v,s.M f o=aa v->M' f o=aa v) ->
   Rd M' (.slice a0 n cap) (.sl af k n (tc k xs))->(∀{es},eY {s with M:=M'} es->eY s es) ->
   ∃i nx s' v,(aw a.eval o).run P s.w=.ok nx s'.w/\(nx=.value v∨(nx=.skip/\v=ai))/\dk (σ.set l (.b8 (fQ E k i (n+1) (xs++xv)))) s' v (.e (.one (.v (k9 i (n+1)))))/\aF (σ.set l (.b8 (fQ E k i (n+1) (xs++xv)))) s'/\Step σ s (σ.set l (.b8 (fQ E k i (n+1) (xs++xv)))) s'/\eY s ((aw a.eval o).events P s.w #[]):=by
  intro M' a0 cap hsl DG IN hMM hR WX;have F:Rd ({s with M:=M'}:St).M (a.eval y) (.sl tx Y.size 1 es'):=by rw[hs];exact hw.mono hMM
  have ZW:Rd ({s with M:=M'}:St).M (.slice a0 n cap) (.sl af Y.size n (tc k xs)):=by grind
  obtain⟨vs,g,z,A,f2,f3,f4,f5⟩:=iv (P:=P) (s:={s with M:=M'}) (ty:=o.type) hi B H G h.elem IN ZW F DG J h.bytes;have f6:=iW (P:=P) (s:={s with M:=M'}) (ty:=o.type) hi B H G h.elem IN ZW F DG J h.bytes;rw[hs]at A f4;have PO:vs.length=(n+1)*k:=A.len;have G9:xs.length+k=(n+1)*k:=by grind
  have Xz:0<k:=by have:=h.size;omega
  have XA:∀j,j<k->∃v,vs[n*k+j]?=aa v/\xv[j]?=aa v/\cD v=ab:=λj hj=>by
   have Q1:=A.width n (by omega);have hwn:cA n (tc k xs) es' n=es' 0:=by simp[cA]
   rw[hwn]at Q1;obtain⟨v,v1,v2⟩:=A.rd n (by omega) j ((es' 0)[j]'(by omega)) (by grind);grind
  have TD:vs=xs++xv:=by
   apply iO;intro q;by_cases e:q<xs.length
   .have hi:q / k<n:=pP (by grind);have T6:q / k*k+q % k=q:=pU q k;have hwl:=Bv (k:=k) O hi;have hap:cA n (tc k xs) es' (q / k)=tc k xs (q / k):=by simp[cA,hi]
    have hjl:q % k<(tc k xs (q / k)).length:=by rw[hwl];exact kg _ Xz
    obtain⟨v,v1,v2⟩:=A.rd (q / k) (by omega) (q % k) ((tc k xs (q / k))[q % k]) (by grind);obtain⟨u,u1,u2⟩:=Bw (br hjl);grind[Rd.dZ]
   grind
  subst TD;have XB:∀x∈xv,cD x=ab:=λx hx=>by grind[List.getElem_of_mem]
  let w':aA:=s.w.drew.alloc (.cells (xs++xv++g).toArray E);have Jc:w'.heap[s.w.heap.size]?=aa (.cells (xs++xv++g).toArray E (0,0)):=dG s.w.drew _;have IM:w'.heap.size=s.w.heap.size+1:=by show(s.w.drew.heap.push _).size=_;simp
  obtain⟨t1,R⟩:=hh.jw (l:=l) (H':=fQ E k (.row s.w.heap.size z) (n+1) (xs++xv)) (L':=⟨L.v,[s.w.heap.size]⟩) (w':=w') hl hL rfl (by omega)
   (λb J _=>cJ s.w.drew _ J) (λb J=>by grind)
   ⟨λf=>if f=s.w.heap.size then aa (.cells (xs++xv++g).toArray E (0,0))else ae,⟨Z.1,λx hx=>by
    grind,by grind,f2,f3,g,by rw[f4],rfl⟩,λb o J=>by grind,λb=>by by_cases e:b=s.w.heap.size<;>simp[e]⟩ rfl rfl rfl
  refine⟨.row s.w.heap.size z,.value (.slice (aa ⟨s.w.heap.size,0,ae⟩) (n+1) z),_,_,?_,.inl rfl,Rd.val rfl,t1,R,?_⟩
  .rw[dg ho,I,hsl];simp only[bL,dq];have f5':(Builtin.append_ #[t,t2] o.type #[.slice a0 n cap,a.eval y]).run P s.w=_:=f5;rw[f5'];rfl
  grind[dg,eH]
 cases bf with
 |nil a0 =>
  obtain⟨_,_,_,rfl,_⟩:=Z;refine mk s.M a0 0 rfl (by simp) (by have:=hh.lI;exact⟨this.mem,this.len,this.box,this.eB,this.lt,this.own⟩) (λ_ _ _ h=>h) Rd.jG (λh=>h)
 |row b cap =>
  obtain⟨g,WY,Q2,Uk⟩:=Z.lookup;obtain⟨Nj,_,_,DG,I6,_⟩:=Z;have D:b∈L.bs:=(T8 b).2 (by grind);have p:=T b _ Q2;have ZX:=WW b D;have XC:b<s.w.heap.size:=hh.lt L U b D;have PN:∀o v,xs[o]?=aa v->s.w.cell? ⟨b,o,ae⟩=aa v:=by intro o v ho;simp only[aV,p];grind
  obtain⟨c1,c2⟩:=hh.zw (b:=b) (vs:=xs) ZX PN;have WX:∀{es:Array Event},eY {s with M:=λf o=>if f=b then xs[o]? else s.M f o} es->eY s es:=λhe =>
   he.vK (b:=b) U D c2 λf o v I=>by grind
  have hR:=Rd.Uj (M:=λf o=>if f=b then xs[o]? else s.M f o) (b:=b) (cap:=cap) (xs:=xs) W O DG I6 (λo=>by simp);by_cases m:n+1<=cap
  .have F:Rd ({s with M:=λf o=>if f=b then xs[o]? else s.M f o}:St).M (a.eval y) (.sl tx Y.size 1 es'):=by rw[hs];exact hw.mono c2
   obtain⟨d,A,f2⟩:=kh (P:=P) (s:={s with M:=λf o=>if f=b then xs[o]? else s.M f o}) (ty:=o.type) (n:=n) (b:=b) (cap:=cap) hi B H G h.elem c1 p (by grind) F m;have f6:=lU (P:=P) (s:=s) (ty:=o.type) (n:=n) (b:=b) (cap:=cap) hi B H G h.elem hh p (by grind) (x:=a.eval y) (tx:=tx) (es':=es') (by grind) m U D (λo _=>ZX o);rw[hs]at A f2;have TC:d.length=k:=by have:=A.len;omega
   have hw0:=A.width 0 (by omega);have XA:∀j,j<k->∃v,d[j]?=aa v/\xv[j]?=aa v/\cD v=ab:=λj hj=>by obtain⟨v,v1,v2⟩:=A.rd 0 (by omega) j ((es' 0)[j]'(by omega)) (br (by omega));grind
   have V:d=xv:=by apply iO;grind
   subst V;have XB:∀x∈d,cD x=ab:=λx hx=>by grind[List.getElem_of_mem]
   have hfk:n*k+k<=cap*k:=by rw[<-lj];exact eC _ m
   have hzk:k<=g.length:=by grind
   have Q:((xs++g).take (n*k)++d++(xs++g).drop (n*k+d.length))=xs++d++g.drop k:=by rw[<-O,TC];simp[List.drop_append]
   rw[Q]at f2;have QU:(s.w.setRow b (xs++d++g.drop k).toArray).heap[b]?=aa (.cells (xs++d++g.drop k).toArray E (0,0)):=setRow_heap s.w b _ _ E _ p;have DH:∀f,f≠b->(s.w.setRow b (xs++d++g.drop k).toArray).heap[f]?=s.w.heap[f]?:=λf r=>setRow_other s.w b f _ r;obtain⟨t1,R⟩:=hh.jw (l:=l) (H':=fQ E k (.row b cap) (n+1) (xs++d)) (L':=L) (w':=s.w.setRow b (xs++d++g.drop k).toArray) hl hL rfl (by simp)
    (λf r hn=>DH f (by grind)) (λf r=>.inl r)
    ⟨λf=>if f=b then aa (.cells (xs++d++g.drop k).toArray E (0,0))else ae,⟨Nj,λx hx=>by
     grind,by grind,m,I6,g.drop k,by grind,rfl⟩,λf o r=>by
     grind,λf=>by grind⟩ rfl rfl rfl
   refine⟨.row b cap,.value (.slice (aa ⟨b,0,ae⟩) (n+1) cap),_,_,?_,.inl rfl,Rd.val rfl,t1,R,?_⟩
   .rw[dg ho,I];simp only[bL,dq,k9];have f2':(Builtin.append_ #[t,t2] o.type #[.slice (aa ⟨b,0,ae⟩) n cap,a.eval y]).run P s.w=_:=f2;rw[f2'];rfl
   .rw[dg ho,I];exact eH f6
  .exact mk _ (aa ⟨b,0,ae⟩) cap rfl (by omega) c1 c2 hR WX
def AK.oh{k:Nat}{x y:ak}{E:aj}{g:TI}(h:lz P o x y E g)(r:g.size=k){d:Nat}(p:o.dst=aa d)(i:o.guard=ae)(s:fR N o.dst=ab){l:Nat}{bf:m9}{xs:List ah}{n:Nat}(t:bM φ x=.e (.one (.v (k9 bf n))))(hl:σ[l]?=aa (.b8 (fQ E k bf n xs))){tx:Bool}{es':Nat->List C}(q:bM φ y=.e (.one (.c (.sl tx k 1 es')))){xv:List ah}(f:xv.length=k)(b:∀(M:Mem) (v:ah) (j:Nat) (c:C),(es' 0)[j]?=aa c->Rd M v c->xv[j]?=aa v/\cD v=ab)(m:(n+1)*g.bytes<=140737488355328)(kk:∀a:m9,AK X N Qf (.ops all rest::K) .normal ((d,.e (.one (.v (k9 a (n+1)))))::φ) (σ.set l (.b8 (fQ E k a (n+1) (xs++xv))))):AK X N Qf (.ops all (o::rest)::K) .normal φ σ :=
 AK.hand (ι:=m9) (λa=>.e (.one (.v (k9 a (n+1))))) (λa=>σ.set l (.b8 (fQ E k a (n+1) (xs++xv)))) i s (.oh h r t hl q f b m) λa=>by rw[p];exact kk a
def AK.Nw(t:Nat)(E:aj)(k:Nat){l:Nat}{es:Nat->List C}{c:Code}(m:look φ t=.e (.one (.c (.sl ab l 0 es))))(kk:∀bf:m9,AK X N Qf (.code c::K) .normal ((t,.e (.one (.v (k9 bf 0))))::φ) (σ++[.b8 (fQ E k bf 0 [])])):AK X N Qf (.code c::K) .normal φ σ:=by
 refine AW.tb (λs a d hh=>?_) kk;have g:=d.slot t;rw[m]at g;obtain⟨a0,cap,vs,h,_,_,b,_,_⟩:=(eT g).flat;have b:=b rfl;subst b;obtain⟨j,f⟩:=hh.hO (B:=.b8 (fQ E k (.nil a0) 0 [])) (L:=⟨.nilFunc,[]⟩) (.refl _ _) rfl hh ⟨λ_=>ae,⟨rfl,by simp,by simp,rfl,rfl⟩,by simp,by simp,by simp⟩ (by simp);refine⟨.nil a0,{s with β:=s.β++[⟨.nilFunc,[]⟩]},rfl,⟨d.size,d.defers.imp λ_ h1=>h1.mono f.ext,λu=>?_⟩,j,f⟩;simp only[look];cases i:aB t u with
 |false=>exact(d.slot u).mono f.ext hh.len
 |true =>
  have e:=bP i;subst e;show Rd _ _ _;rw[h];exact Rd.val rfl
def AK.vO(t l:Nat){E:aj}{k n:Nat}{bf:m9}{xs:List ah}(es:Nat->List C){c:Code}(D:look φ t=.e (.one (.v (k9 bf n))))(hl:σ[l]?=aa (.b8 (fQ E k bf n xs)))(m:∀i,i<n->(es i).length=k/\∀M j c x,(es i)[j]?=aa c->xs[i*k+j]?=aa x->Rd M x c)(kk:AK X N Qf (.code c::K) .normal ((t,.e (.one (.c (.sl af k n es))))::φ) (σ.set l .dead)):AK X N Qf (.code c::K) .normal φ σ:=by
 refine AK.ghost (λs a g hh=>?_) kk;obtain⟨L,M',r,w,q,z,H,G⟩:=fQ.Bx hl es m s hh;have f:l<σ.length:=(bY.1 hl).1;have p:=g.slot t;rw[D]at p;have F:=Rd.dZ p;have ex:Ext σ s (σ.set l .dead) {s with M:=M'}:=by
  refine⟨w,λl' B L' j1 fe=>?_⟩;by_cases e:l=l'
  .subst e;rw[hl]at j1;cases j1;exact⟨.dead,L',by grind,fe,rfl⟩
  .exact⟨B,L',by grind,fe,.refl _ _⟩
 have st:Step σ s (σ.set l .dead) {s with M:=M'}:=by refine⟨bh _,λ_ _ _=>rfl,w,λb _ y o=>q b (y L (bJ r)) o,λL h b d=>.inr ⟨L,h,d⟩,ex.box,rfl,rfl,rfl,rfl⟩
 refine⟨{s with M:=M'},rfl,⟨g.size,g.defers.imp λ_ h1=>h1.mono st.ext,λu=>?_⟩,⟨z,by simp[hh.len],?_,hh.eB,hh.lt,hh.own⟩,st⟩
 .simp only[look];cases d:aB t u with
  |false=>exact(g.slot u).mono st.ext hh.len
  |true =>
   have e:=bP d;subst e;show Rd _ _ _;grind
 .intro l' B L' j1 fe;by_cases e:l=l'
  .subst e;rw[fV f]at j1;cases j1;trivial
  .rw[j7 e]at j1;exact(hh.box l' B L' j1 fe).carry ex hh.len λb d=>⟨rfl,q b λA=>e (hh.eB l l' L L' r fe b A d)⟩
end
structure gi(k n:Nat)(es:Nat->List C)(xs:List ah):Prop where
 len:xs.length=n*k
 wid:∀i,i<n->(es i).length=k
 at':∀i,i<n->∀j c,(es i)[j]?=aa c->∃x,xs[i*k+j]?=aa x/\∀M,Rd M x c
def gi.rd{k n:Nat}{es:Nat->List C}{xs:List ah}(h:gi k n es xs):∀i,i<n->(es i).length=k/\∀M j c x,(es i)[j]?=aa c->xs[i*k+j]?=aa x->Rd M x c:=λi hi =>
 ⟨h.wid i hi,λM j c x hj hx=>by obtain⟨y,h1,h2⟩:=h.at' i hi j c hj;grind⟩
def Qg(v:ah):A->A
 |.vec 0 _ _ _=>.v v
 |a=>a
def Kp(v:ah):E1->E1
 |.one a=>.one (Qg v a)
 |e=>e
def Ef(v:ah):List E1->List E1
 |[]=>[]
 |a::r=>Kp v a::Ef v r
def Qh(v:ah):D->D
 |.e x=>.e (Kp v x)
 |.eX xs=>.eX (Ef v xs)
 |.any=>.any
def mI(n:Nat):A->Bool
 |.vec 0 _ b _=>aB b n
 |a=>vN a
def qp(n:Nat):E1->Bool
 |.one a=>mI n a
 |e=>Jf e
def py(n:Nat):List E1->Bool
 |[]=>ab
 |a::r=>match qp n a with|true=>py n r|false=>af
def vr(n:Nat):D->Bool
 |.e x=>qp n x
 |.eX xs=>py n xs
 |.any=>ab
section
variable {σ':List aP}{s s':St}{E:aj}{k n:Nat}{es:Nat->List C}{L:Loc}
def Kq(i:s.β[0]?=aa L){v:ah}{a:A}(h:mI n a=ab)(r:gn [aP.vec E k n es] s v a):gn σ' s' v (Qg L.v a):=by
 cases a with
 |c x=>exact qa h r
 |any=>exact r
 |vec l k' n' es' =>
  cases l with
  |zero =>
   obtain⟨g,_,b⟩:=r;have b:=b E k n es rfl;have e:=bP h;obtain⟨L',f,d⟩:=b.2 e.symm;rw[i]at f;cases f;show Rd _ _ _;rw[d];exact .val (d▸g.cell)
  |succ l=>simp[mI,vN]at h
 |ptr=>simp[mI,vN]at h
 |ref=>simp[mI,vN]at h
 |bp=>simp[mI,vN]at h
def Ca(b:s.β[0]?=aa L){v:ah}{x:E1}(h:qp n x=ab)(r:m8 [aP.vec E k n es] s v x):m8 σ' s' v (Kp L.v x):=by
 cases x with
 |one a=>exact Kq b h r
 |agg cs=>exact zB (x:=.agg cs) h r
def yH(b:s.β[0]?=aa L):∀{vs:List ah}{cs:List E1},py n cs=ab->g6 [aP.vec E k n es] s vs cs->g6 σ' s' vs (Ef L.v cs)
 |[],[],_,_=>trivial
 |[],_::_,_,r=>r.elim
 |_::_,[],_,r=>r.elim
 |v::vs,c::cs,h,r=>by
  simp only[py]at h;cases a:qp n c with
  |false=>grind
  |true=>simp only[a]at h;exact⟨Ca b a r.1,yH b h r.2⟩
def Cb(a:s.β[0]?=aa L){v:ah}{d:D}(h:vr n d=ab)(r:dk [aP.vec E k n es] s v d):dk σ' s' v (Qh L.v d):=by
 cases d with
 |e x=>exact Ca a h r
 |eX xs=>obtain⟨vs,c,b⟩:=r;exact⟨vs,c,yH a h b⟩
 |any=>trivial
end
def vt:List ResultVar->Bool
 |[]=>ab
 |.tmp _::r=>vt r
 |.cell _ _::_=>af
def uo{P:ar}{a:Act}:∀{rs:List ResultVar},vt rs=ab->∃vs,(∀w,(rs.mapM (gb a)).run P w=Result.ok vs w)/\c7 P (rs.mapM (gb a))
 |[],_=>⟨[],by simp,by rw[List.mapM_nil];exact .pure⟩
 |.tmp t::r,h=>by
  obtain⟨vs,c,b⟩:=uo (P:=P) (a:=a) (rs:=r) h;refine⟨a.tmps.getD t ai::vs,λw=>?_,?_⟩
  .simp only[n6,bL,gb,dq,bU,c]
  .rw[n6];exact .bind .pure λ_=>.bind b λ_=>.pure
def uI.tmp{P:ar}{f:aJ}{fn:Func}{fr:aR}{v:ah}{s s':St}(h:uI P f fr v s)(x:P.funcs[f]?=aa fn)(q:vt fn.results.toList=ab)(m:∀b o u,s.M b o=aa u->s.w.cell? ⟨b,o,ae⟩=aa u):uI P f fr v s':=by
 obtain⟨h1,h2,i,j,c,t,l⟩:=h;have e:c=fn:=by grind
 subst e;let a:Act:={tmps:=fr.tmps,defers:=[]}
 obtain⟨vs,k1,p⟩:=uo (P:=P) (a:=a) q;have e1:∀w,(c.results.mapM (gb a)).run P w=Result.ok vs.toArray w:=λw=>by grind[Array.mapM_eq_mapM_toList,Sem.run_map,Go.Result.andThen_ok]
 have e2:∀w,(results c fr.tmps).run P w=.ok (if h:vs.toArray.size=1 then vs.toArray[0]else .tuple vs.toArray) w:=λw=>by unfold results;rw[bL];refine(dA (λr=>Result.andThen r _) (e1 w)).trans ?_;simp
 have e3:c7 P (results c fr.tmps):=by
  unfold results;have e:c7 P (c.results.mapM (gb a)):=by rw[qO];exact .map p
  exact .bind e λ_=>.pure
 have d:=(l s.w m).1;rw[e2]at d;cases d;exact⟨h1,h2,i,j,c,t,λw _=>⟨e2 w,λe g=>by rw[e3 w #[]]at g;grind⟩⟩
def Ev.thaw{P:ar}{X:Cx P}[X.gZ]{f:aJ}{args:List D}{res:D}{E:aj}{k n:Nat}{es:Nat->List C}(h:Ev X f args [] res [.vec E k n es]){fn:Func}(hf:P.funcs[f]?=aa fn)(ht:vt fn.results.toList=ab)(R:vr n res=ab)(Q:∀i,i<n->(es i).length=k/\∀c∈es i,uK c=ab):
  eb (ι:={q:m9×List ah // gi k n es q.2}) X f args [] (λq=>Qh (k9 q.1.1 n) res) (λq=>[.b8 (fQ E k q.1.1 n q.1.2)]):=by
 refine⟨h.1,λs vs hr hh S cs hS=>h.2 s vs hr hh S cs λfr v s' hl ml iY st=>?_⟩;have hβ0:s.β=[]:=jg hh.len;have hlen:s'.β.length=1:=iY.len;obtain⟨L,J⟩:∃L,s'.β=[L]:=by
  match hq:s'.β with
  |[L]=>grind
  |[]=>grind
  |_::_::_=>grind
 have W:s'.β[0]?=aa L:=by grind
 obtain⟨Z9,Z6⟩:=iY.box 0 _ L rfl W;rcases Z6 with⟨⟨T8,Z⟩,z⟩|⟨b,cap,cells,Ut,G,G9,FM⟩
 .subst Z;obtain⟨a,cap,vs0,hv,DG,I6,htc,_⟩:=z.flat;have F:cap=0:=htc rfl;subst F;let y:St:={s' with β:=[⟨.nilFunc,[]⟩]}
  have hg:eu s' y:=⟨rfl,λ_ _ _ h=>h,λ_ _ _=>rfl,iY.mem,λb hb=>by grind⟩
  have t:gi k 0 es []:=⟨by simp,λi hi=>by omega,λi hi=>by omega⟩
  refine .ghost hg (hS ⟨(.nil a,[]),t⟩ fr v y (hl.tmp hf ht iY.mem) ?_ ?_ ?_)
  .have:=Cb (σ':=[aP.b8 (fQ E k (.nil a) 0 [])]) (s':=y) W R ml;rw[hv]at this;exact this
  .refine⟨iY.mem,rfl,λl B L' hB fe=>?_,?_,by grind,λb hb=>⟨(iY.own b hb).1,by grind⟩⟩
   .cases l with
    |zero=>cases hB;cases fe;exact⟨λ_=>ae,⟨rfl,by simp,by simp,rfl,rfl⟩,by simp,by simp,by simp⟩
    |succ l=>grind
   grind
  .refine⟨st.size,st.fb,st.mem,st.iV,λL' fe b hb=>?_,λl B L' hB=>by grind,st.os,st.tape,st.output,st.own⟩;grind
 .subst Ut;have N:b∈(⟨.slice (aa ⟨b,0,ae⟩) n cap,[b]⟩:Loc).bs:=by simp
  have aaD:s.w.heap.size<=b:=by
   rcases st.vd _ (by grind) b N with h1|⟨L0,h1,_⟩
   .exact h1
   grind
  have XC:b<s'.w.heap.size:=iY.lt _ (by grind) b N;obtain⟨a1,adu,m,V,r,O,_,hF,hm⟩:=Z9.flat;cases V;have T:m.length=n*k:=hF.len;have adv:∀p u,m[p]?=aa u->cells[p]?=aa u:=λp u hp=>by obtain⟨b1,adw,e,Y⟩:=hm p u hp;cases e;have:=iY.mem _ _ _ Y;simp only[aV,G]at this;simpa using this
  have hnk:n*k<=cells.length:=by rw[G9];exact eC _ r
  have P9:cells.take (n*k)=m:=by apply iO;grind
  have QV:m++cells.drop (n*k)=cells:=by grind[List.take_append_drop]
  have t:gi k n es m:=by refine⟨T,λi hi=>(Q i hi).1,λi hi j c hj=>?_⟩;obtain⟨u,u1,u2⟩:=hF.rd i hi j c hj;grind[qa]
  have I:∀x∈m,cD x=ab:=λx hx=>by
   obtain⟨p,hp,rfl⟩:=dL hx;have hk:0<k:=by grind
   have hi:p / k<n:=pP (by grind);have T6:p / k*k+p % k=p:=pU p k;have hj:p % k<(es (p / k)).length:=by rw[(Q _ hi).1];exact kg _ hk
   obtain⟨u,u1,u2⟩:=t.at' _ hi _ _ (br hj);rw[T6,br hp]at u1;cases u1;exact(u2 s.M).cell
  have A:∀d o v',s.M d o=aa v'->d≠b:=λd o v' hm' e=>by have:=hh.block hm';omega
  let K:Mem:=λd o=>if d=b then ae else s'.M d o;let s1:St:={s' with β:=[],own:=λx=>s'.own x∨x=b}
  let s2:St:={s1 with M:=K}
  let y:St:={s' with β:=[⟨.nilFunc,[b]⟩],M:=K}
  have H:∀d o v',K d o=aa v'->s'.M d o=aa v':=λd o v' h'=>by grind
  have U:eu s' s1:=⟨rfl,λ_ _ _ h=>h,λ_ _ _=>rfl,iY.mem,λd g=>by
   rcases g with(g|g)|⟨L',fe,_⟩
   .grind
   .exact .inr ⟨_,by rw[J];simp;rfl,by grind⟩
   grind⟩
  have W3:mW s1 s2:=⟨rfl,rfl,rfl,H,λd o v' h'=>by grind⟩
  have hg3:eu s2 y:=⟨rfl,λ_ _ _ h=>h,λ_ _ _=>rfl,λd o v' h'=>iY.mem _ _ _ (H _ _ _ h'),λd g=>by grind⟩
  refine .ghost U (.forget Cx.gZ.ok W3 (.ghost hg3 (hS ⟨(.row b cap,m),t⟩ fr v y (hl.tmp hf ht iY.mem) ?_ ?_ ?_)))
  .exact Cb (L:=⟨.slice (aa ⟨b,0,ae⟩) n cap,[b]⟩) W R ml
  .refine⟨λd o v' h'=>iY.mem _ _ _ (H _ _ _ h'),rfl,λl B L' hB fe=>?_,?_,λL' fe d g=>?_,λd g=>⟨(iY.own d g).1,λL' fe=>?_⟩⟩
   .cases l with
    |zero =>
     cases hB;cases fe;refine⟨λd=>if d=b then aa (.cells (m++cells.drop (n*k)).toArray E (0,0))else ae,⟨rfl,I,T,r,O,cells.drop (n*k),?_,rfl⟩,λd o g=>?_,λd=>?_,λd g o=>?_⟩
     .grind
     .grind
     .by_cases e:d=b<;>simp[e]
     grind
    |succ l=>grind
   .grind
   .grind
   .simp[y]at fe;subst fe;have:=(iY.own d g).2 _ (by rw[J];simp;rfl);grind
  .refine⟨st.size,st.fb,λd o v' h'=>?_,λd g hn o=>?_,λL' fe d g=>?_,λl B L' hB=>by grind,st.os,st.tape,st.output,st.own⟩
   .simp only[y,K,aZ (A d o v' h')];exact st.mem _ _ _ h'
   .have:d≠b:=by omega
    simp only[y,K,aZ this];exact st.iV d g hn o
   grind
section
variable {P:ar}{X:Cx P}{N:Nat}{Qf:Post}{K:List It}{φ:Fr}{σ:List aP}{all rest:List au}{o:au}
def AK.fact{p:Prop}(h:∀s,aF σ s->p){c:Code}(k:p->AK X N Qf (.code c::K) .normal φ σ):AK X N Qf (.code c::K) .normal φ σ :=
 λs a b hh=>k (h s hh) s a b hh
def AK.Jg{p:Prop}(h:∀s,aF σ s->p)(k:p->AK X N Qf (.ops all rest::K) .normal φ σ):AK X N Qf (.ops all rest::K) .normal φ σ :=
 λs a b hh=>k (h s hh) s a b hh
def fQ.len{E:aj}{k n l:Nat}{bf:m9}{xs:List ah}(hl:σ[l]?=aa (.b8 (fQ E k bf n xs)))(s:St)(hh:aF σ s):xs.length=n*k/\n<=9223372036854775807/\(0<n->∃b cap,bf=.row b cap)/\∀a,bf=.nil a->n=0:=by
 have c:l<s.β.length:=by rw[hh.len];grind
 obtain⟨ch,e,_⟩:=hh.box l _ _ hl (br c);cases bf with
 |nil a=>obtain⟨_,_,f,rfl,_⟩:=e;grind
 |row b cap=>obtain⟨_,_,f,g,h,_⟩:=e;grind
def AK.Nx{T:List (Nat×TI)}(hT:cO P T)(l:Nat){x:ak}{f:Array aj}{t:aj}{i:TI}{E0 E:aj}{k n:Nat}{bf:m9}{xs:List ah}(q:o.op=.call {callee:=.builtin .len,args:=#[x],argTypes:=f})(F:f[0]?=aa t)(hi:bD T t=aa i)(y:i.desc=.slice E0)(D:bM φ x=.e (.one (.v (k9 bf n))))(hl:σ[l]?=aa (.b8 (fQ E k bf n xs)))(r:o.guard=ae)(B:fR N o.dst=ab)(kk:AK X N Qf (.ops all rest::K) .normal (km o.dst (.e (.one (.c (.int .i64 n)))) φ) σ):AK X N Qf (.ops all (o::rest)::K) .normal φ σ:=by
 refine AK.hand (ι:=Unit) (λ_=>.e (.one (.c (.int .i64 n)))) (λ_=>σ) r B (λs a A hh=>?_) λ_=>kk;obtain⟨_,h2,_,z⟩:=fQ.len hl s hh;have g:=cY A x;rw[D]at g;have g:=Rd.dZ g;have p:=(hT t i hi).run_underlying (w:=s.w);rw[y]at p;have j:f[0]?=aa t:=F;have h:∃a0 cap,k9 bf n=.slice a0 n cap:=by
  cases bf with
  |nil a0=>rw[z a0 rfl];exact⟨a0,0,rfl⟩
  |row b cap=>exact⟨_,cap,rfl⟩
 obtain⟨a0,cap,m⟩:=h;rw[m]at g;refine⟨(),.value (.int .i64 n),s,.int .i64 n,?_,.inl rfl,Rd.int (by simp only[bA];omega),hh,.refl _ _,?_⟩
 .simp[aw,q,resolve,invoke,builtin,Builtin.len_,g,p,goInt,j]
 .have:(aw a.eval o).events P s.w #[]=#[]:=by simp[aw,q,resolve,invoke,builtin,Builtin.len_,g,p,goInt,j]
  rw[this];exact .nil
def qG:List A->Bool
 |[]=>ab
 |.c x::r=>match uK x with|true=>qG r|false=>af
 |_=>af
def mX(vs:List ah)(cs:List A):Prop:=vs.length=cs.length/\∀(j:Nat)(c:C),cs[j]?=aa (A.c c)->∃v,vs[j]?=aa v/\∀M,Rd M v c
theorem mX.of{σ:List aP}{s:St}:∀{vs:List ah}{cs:List A},qG cs=ab->dX σ s vs cs->mX vs cs
 |[],[],_,_=>⟨rfl,λj c h=>by grind⟩
 |[],_::_,_,r=>r.elim
 |_::_,[],_,r=>r.elim
 |v::vs,.c x::cs,h,r=>by
  simp only[qG]at h;cases a:uK x with
  |false=>grind
  |true =>
   simp only[a]at h;obtain⟨h1,h2⟩:=mX.of h r.2;refine⟨by grind,λj c hj=>?_⟩;cases j with
   |zero=>simp at hj;subst hj;exact⟨v,rfl,λM=>qa a r.1⟩
   |succ j=>grind
 |_::_,.ptr _ _::_,h,_=>by simp[qG]at h
 |_::_,.vec _ _ _ _::_,h,_=>by simp[qG]at h
 |_::_,.ref _::_,h,_=>by simp[qG]at h
 |_::_,.bp _ _::_,h,_=>by simp[qG]at h
 |_::_,.any::_,h,_=>by simp[qG]at h
theorem dX.cD{σ:List aP}{s:St}:∀{vs:List ah}{cs:List A},dX σ s vs cs->∀v∈vs,AM.cD v=ab
 |[],[],_,v,h=>by grind
 |[],_::_,r,_,_=>r.elim
 |_::_,[],r,_,_=>r.elim
 |u::vs,c::cs,r,v,h=>by
  rcases eE.1 h with rfl|h
  .exact gn.cell r.1
  .exact dX.cD r.2 v h
def dN.zC{T:List (Nat×TI)}(hT:cO P T)(l:Nat){t:aj}{x y:ak}{E:aj}{k n b cap off:Nat}{xs:List ah}{new:List A}{i:TI}(h:o.op=.store t x y)(hi:bD T t=aa i)(hx:bM φ x=.e (.one (.v (.pointer (aa ⟨b,off,ae⟩)))))(hy:kn (bM φ y)=aa new)(Jc:new.length=i.size)(W:qG new=ab)(hl:σ[l]?=aa (.b8 (fQ E k (.row b cap) n xs)))(Q3:off+new.length<=xs.length):
  dN P N o φ σ (ι:={vs:List ah // mX vs new}) (λ_=>.any) (λvs=>σ.set l (.b8 (fQ E k (.row b cap) n (xs.take off++vs.1++xs.drop (off+vs.1.length))))):=by
 intro s a hf hh;have O:=cY hf x;rw[hx]at O;have O:=Rd.dZ O;have D:=lO hy (cY hf y);have QW:l<σ.length:=(bY.1 hl).1;have M:l<s.β.length:=by rw[hh.len];grind
 have V:=br M;generalize s.β[l]=L at V;obtain⟨ch,hH,B,Y,WW⟩:=hh.box l _ L hl V;obtain⟨f,WY,U,Uk⟩:=fQ.lookup hH;obtain⟨Nj,Ul,hxl,R,Z,_⟩:=hH;have Q:b∈L.bs:=(Y b).2 (by grind);have p:=B b _ U;let vs:=(a.eval y).cells.toList;have H:mX vs new:=mX.of W D;have PO:vs.length=new.length:=H.1;have q:off+0+vs.length<=(xs++f).toArray.size:=by grind
 have F:=run_storeCells_at P b off E vs 0 (xs++f).toArray s.w p q D.cell;simp only[ir]at F;have z:(xs++f).take off++vs++(xs++f).drop (off+vs.length)=(xs.take off++vs++xs.drop (off+vs.length))++f:=by grind
 rw[z]at F;have abW:(xs.take off++vs++xs.drop (off+vs.length)).length=xs.length:=by grind
 have QU:=setRow_heap s.w b (xs++f).toArray ((xs.take off++vs++xs.drop (off+vs.length))++f).toArray E (0,0) p;have S:∀c,c≠b->(s.w.setRow b ((xs.take off++vs++xs.drop (off+vs.length))++f).toArray).heap[c]?=s.w.heap[c]?:=λc g=>setRow_other s.w b c _ g;obtain⟨t1,t2⟩:=hh.jw (l:=l) (H':=fQ E k (.row b cap) n (xs.take off++vs++xs.drop (off+vs.length))) (L':=L) (w':=s.w.setRow b ((xs.take off++vs++xs.drop (off+vs.length))++f).toArray) hl V rfl (by simp)
  (λc g hn=>S c (by grind)) (λc g=>.inl g)
  ⟨λc=>if c=b then aa (.cells ((xs.take off++vs++xs.drop (off+vs.length))++f).toArray E (0,0))else ae,⟨Nj,λx hx=>by
   grind[dX.cD],by grind,R,Z,f,by grind,rfl⟩,λc o g=>by
   simp_all,λc=>by simp_all⟩ rfl rfl rfl
 have J:(a.eval y).cells.size=i.size:=by grind
 refine⟨⟨vs,H⟩,.skip,_,ai,?_,.inr ⟨rfl,rfl⟩,ay,t1,t2,?_⟩
 .have I:(storeCells ⟨b,off,ae⟩ (a.eval y).cells.toList).run P s.w=_:=F;simp[aw,h,O,Instr.storeAt,bo,storeVar,(hT t i hi).run_sizeOf,J,I]
 .intro ev m;have e:aw a.eval o=(do storeVar t ⟨b,off,ae⟩ (a.eval y);pure .skip):=by simp[aw,h,O,Instr.storeAt,bo]
  rw[e]at m;have G:ev∈(storeCells ⟨b,off,ae⟩ (a.eval y).cells.toList).events P s.w #[]:=by
   simp only[storeVar,aM,(hT t i hi).run_sizeOf,J,aO,events_sizeOf,dr,fa,b7,bL,bU,Sem.events_pure]at m;generalize(storeCells ⟨b,off,ae⟩ (a.eval y).cells.toList).run P s.w=r at m;cases r with
   |ok v w'=>simpa using m
   |halt x w'=>simpa using m
  rcases dE (a.eval y).cells.toList 0 (xs++f).toArray s.w #[] p q D.cell ev G with IN|⟨j,_,_,rfl⟩
  .grind
  .exact jF (bJ V) Q (WW b Q _)
def AK.zC{T:List (Nat×TI)}(hT:cO P T)(l:Nat){t:aj}{x y:ak}{E:aj}{k n b cap off:Nat}{xs:List ah}{new:List A}{i:TI}(h:o.op=.store t x y)(hi:bD T t=aa i)(p:bM φ x=.e (.one (.v (.pointer (aa ⟨b,off,ae⟩)))))(j:kn (bM φ y)=aa new)(c:new.length=i.size)(f:qG new=ab)(hl:σ[l]?=aa (.b8 (fQ E k (.row b cap) n xs)))(a:off+new.length<=xs.length)(g:o.guard=ae)(m:fR N o.dst=ab)(kk:∀vs,mX vs new->AK X N Qf (.ops all rest::K) .normal (km o.dst .any φ) (σ.set l (.b8 (fQ E k (.row b cap) n (xs.take off++vs++xs.drop (off+vs.length)))))):AK X N Qf (.ops all (o::rest)::K) .normal φ σ :=
 AK.hand _ _ g m (dN.zC hT l h hi p j c f hl a) λvs=>kk vs.1 vs.2
def AK.swap(i j:Nat){H1 H2:ah->(Nat->Option Obj)->Prop}{c:Code}(M:i≠j)(hi:σ[i]?=aa (.b8 H1))(hj:σ[j]?=aa (.b8 H2))(h1:∀v ch,H1 v ch->v=.nilFunc)(h2:∀v ch,H2 v ch->v=.nilFunc)(kk:AK X N Qf (.code c::K) .normal φ ((σ.set i (.b8 H2)).set j (.b8 H1))):AK X N Qf (.code c::K) .normal φ σ:=by
 refine AK.ghost (λs a F hh=>?_) kk;have I:i<σ.length:=(bY.1 hi).1;have J:j<σ.length:=(bY.1 hj).1;have t:i<s.β.length:=by rw[hh.len];grind
 have y:j<s.β.length:=by rw[hh.len];grind
 obtain⟨m,A⟩:∃L,s.β[i]?=aa L:=⟨_,br t⟩;obtain⟨r,z⟩:∃L,s.β[j]?=aa L:=⟨_,br y⟩;have G:=hh.box i _ m hi A;have H:=hh.box j _ r hj z;have Q:m.v=.nilFunc:=by obtain⟨ch,O,_⟩:=G;grind
 have S:r.v=.nilFunc:=by obtain⟨ch,O,_⟩:=H;grind
 let s':St:={s with β:=(s.β.set i r).set j m}
 have w:∀l,((σ.set i (.b8 H2)).set j (.b8 H1))[l]?=if l=j then aa (.b8 H1)else if l=i then aa (.b8 H2)else σ[l]?:=λl=>by grind
 have p:∀l,s'.β[l]?=if l=j then aa m else if l=i then aa r else s.β[l]?:=λl=>by grind
 have E:∀L∈s'.β,L∈s.β:=λL f=>by grind
 have ex:Ext σ s ((σ.set i (.b8 H2)).set j (.b8 H1)) s':=by
  refine⟨λ_ _ _ h=>h,λl B L hB f=>?_⟩;rw[w,p];by_cases e:l=j
  .subst e;rw[hj]at hB;cases hB;rw[z]at f;cases f;exact⟨.b8 H1,m,by simp,by simp,by show m.v=_;grind⟩
  .by_cases x:l=i
   .subst x;rw[hi]at hB;cases hB;rw[A]at f;cases f;exact⟨.b8 H2,r,by simp[e],by simp[e],by show r.v=_;grind⟩
   .exact⟨B,L,by grind,by grind,.refl _ _⟩
 have st:Step σ s ((σ.set i (.b8 H2)).set j (.b8 H1)) s':=by exact⟨bh _,λ_ _ _=>rfl,λ_ _ _ h=>h,λ_ _ _ _=>rfl,λL h b g=>.inr ⟨L,E L h,g⟩,ex.box,rfl,rfl,rfl,rfl⟩
 refine⟨s',rfl,⟨F.size,F.defers.imp λ_ h1=>h1.mono ex,λu=>(F.slot u).mono ex hh.len⟩,⟨hh.mem,by simp[s',hh.len],?_,?_,λL f b g=>hh.lt L (E L f) b g,λb g=>⟨(hh.own b g).1,λL f=>(hh.own b g).2 L (E L f)⟩⟩,st⟩
 .intro l B L hB f;rw[w]at hB;rw[p]at f;split at hB
  .rename_i e;rw[bl e]at f;cases hB;cases f;exact G
  .rename_i e;rw[aZ e]at f;split at hB
   .rename_i x;rw[bl x]at f;cases hB;cases f;exact H
   .rename_i x;rw[aZ x]at f;exact(hh.box l B L hB f).carry ex hh.len λb g=>⟨rfl,λ_=>rfl⟩
 .intro l l' L1 L2 q1 q2 b g D;rw[p]at q1 q2;have key:∀l L,(if l=j then aa m else if l=i then aa r else s.β[l]?)=aa L->s.β[if l=j then i else if l=i then j else l]?=aa L:=λl L q=>by grind
  have:=hh.eB _ _ L1 L2 (key l L1 q1) (key l' L2 q2) b g D;by_cases e1:l=j<;>by_cases e2:l'=j<;>by_cases e3:l=i<;>by_cases R:l'=i<;>simp_all
def AK.Jh{T:List (Nat×TI)}(hT:cO P T){t:aj}{x y:ak}{i p:TI}{E:aj}{n:Nat}{V R:IntKind}(h:o.op=.makeSlice t x y)(hi:bD T t=aa i)(hd:i.desc=.slice E)(hE:bD T E=aa p)(hx:bM φ x=.e (.one (.c (.int V n))))(hy:bM φ y=.e (.one (.c (.int R n))))(H:n*p.bytes<=140737488355328)(Z:n<=140737488355328)(hg:o.guard=ae)(hN:fR N o.dst=ab)(kk:∀b xs,AK X N Qf (.ops all rest::K) .normal (km o.dst (.e (.one (.v (k9 (.row b n) n)))) φ) (σ++[.b8 (fQ E p.size (.row b n) n xs)])):AK X N Qf (.ops all (o::rest)::K) .normal φ σ:=by
 refine AK.hand (ι:=Nat×List ah) (λq=>.e (.one (.v (k9 (.row q.1 n) n)))) (λq=>σ++[.b8 (fQ E p.size (.row q.1 n) n q.2)]) hg hN (λs a hf hh=>?_) λq=>kk q.1 q.2;have l:=cY hf x;rw[hx]at l;have l:=eT l;generalize F:a.eval x=vx at l;cases l;have j:=cY hf y;rw[hy]at j;have j:=eT j;generalize G:a.eval y=vy at j;cases j;have m:=(hT t i hi).TE;rw[hd]at m;obtain⟨g,z,I,z2,z3,Y,W,z6,z7⟩:=(hT E p hE).info;have f:(g.bytes:Int)*(n:Int)<=281474976710656:=by grind
 have r:=run_make (P:=P) (w:=s.w) t E g z m I Y V R n n (by omega) (Int.le_refl _) f (by omega);simp only[b9]at r;let xs:=(madeCells z.cells (n*g.size)).toList;have L:xs.length=n*p.size:=by grind[size_madeCells]
 have hzc:∀v∈z.cells.toList,cD v=ab:=dX.cD (kJ (σ:=σ) (s:=s) W);have WY:z.cells.toList.length=p.size:=by have:=dA List.length W;grind
 have O:∀v∈xs,cD v=ab:=by intro v hv;simp only[xs,madeCells,Array.toList_map,kB]at hv;grind[Nat.mod_lt]
 have hB:et (σ++[.b8 (fQ E p.size (.row s.w.heap.size n) n xs)]) {s with w:=s.w.alloc (.cells xs.toArray E),β:=s.β++[⟨.nilFunc,[s.w.heap.size]⟩]} (.b8 (fQ E p.size (.row s.w.heap.size n) n xs)) ⟨.nilFunc,[s.w.heap.size]⟩:=by
  refine⟨λB=>if B=s.w.heap.size then aa (.cells (xs++[]).toArray E (0,0))else ae,⟨rfl,O,L,bh _,by omega,[],by grind,rfl⟩,λB o f=>?_,λB=>?_,λB f o=>?_⟩
  .by_cases e:B=s.w.heap.size
   .subst e;simp only[cj]at f;grind[dG]
   grind
  .by_cases e:B=s.w.heap.size<;>simp[e]
  .simp at f;subst f;cases S:s.M s.w.heap.size o with
   |none=>rfl
   |some v=>have:=hh.block S;omega
 have D:aF σ {s with w:=s.w.alloc (.cells xs.toArray E)}/\Step σ s σ {s with w:=s.w.alloc (.cells xs.toArray E)} :=
  hh.grow (by simp) (λb H=>cJ s.w _ H) (λb H o=>rfl) (λb H o v S=>by have:=hh.block S;omega) rfl rfl rfl
 obtain⟨g1,g2⟩:=D.1.hO D.2 rfl hh hB (λb H=>by simp_all)
 refine⟨(s.w.heap.size,xs),.value (.slice (aa ⟨s.w.heap.size,0,ae⟩) n n),_,_,?_,.inl rfl,Rd.val rfl,g1,g2,?_⟩
 .simp[aw,h,F,G,r,xs]
 .have e:aw a.eval o=(do pure (.value (<-Instr.makeSlice t (.int V n) (.int R n)))):=by simp[aw,h,F,G]
  rw[e];refine eH ?_;intro e A;have hu:∀u,(underlying t).run P u=.ok (.slice E) u:=λu=>by simp[underlying,m]
  have U:∀u,(typeInfo E).run P u=.ok g u:=λu=>by simp[typeInfo,I]
  have Q:∀u,(zeroValue E).run P u=.ok z u:=λu=>by simp[zeroValue,typeInfo,I,Y]
  have J:∀u,(sizeOf E).run P u=.ok g.size u:=λu=>by simp[sizeOf,typeInfo,I]
  have wl:IntKind.i64.wrap (n:Int)=n:=by grind[IntKind.wrap_i64]
  have n1:¬(n:Int)<0:=by omega
  have n2:¬(281474976710656<(g.bytes:Int)*n):=by omega
  simp[Instr.makeSlice,hu,U,J,asInt,asIntOf,wl,n1,n2]at A;rw[Q]at A;simp only[aO,(c7.newRow (P:=P)) _ _,ite_self]at A;unfold askRoom at A;split at A
  .have:e=⟨.mark .noRoom,af,ab⟩:=by simpa using A
   rw[this];exact .inl rfl
  .simp at A
end
section
variable {σ σ':List aP}{s s':St}{k n d:Nat}{es:Nat->List C}{u:ah}
end
def uL{α:Type}{xs vs:List α}{a:Nat}(h:a+vs.length<=xs.length)(p:Nat):(xs.take a++vs++xs.drop (a+vs.length))[p]?=if a<=p/\p<a+vs.length then vs[p-a]? else xs[p]?:=by
 have b:(xs.take a).length=a:=by grind
 grind
def gi.fi{k n:Nat}{es es':Nat->List C}{xs vs:List ah}{new:List A}(h:gi k n es xs)(i j:Nat)(hi:i<n)(p:mX vs new)(r:j+new.length<=k)(t:∀a,a<n->a≠i->es' a=es a)(hl:(es' i).length=k)(v:∀(q:Nat) (c:C),(es' i)[q]?=aa c->(j<=q/\q<j+new.length/\new[q-j]?=aa (A.c c))∨(¬(j<=q/\q<j+new.length)/\(es i)[q]?=aa c)):gi k n es' (xs.take (i*k+j)++vs++xs.drop (i*k+j+vs.length)):=by
 have D:i*k+k<=n*k:=by rw[<-lj];exact eC _ hi
 have B:=p.1;have y:=h.len;have f:i*k+j+vs.length<=xs.length:=by omega
 refine⟨by grind,λa b=>?_,λa b q c x=>?_⟩
 .by_cases e:a=i
  .grind
  .rw[t a b e];exact h.wid a b
 .rw[uL f];by_cases e:a=i
  .subst e;rcases v q c x with⟨h1,h2,w⟩|⟨h1,h2⟩
   .rw[bl (by omega),show a*k+q-(a*k+j)=q-j by omega];exact p.2 _ c w
   .rw[aZ (by omega)];exact h.at' a b q c h2
  .have g:(es a)[q]?=aa c:=by grind
   have z:q<k:=by rw[<-h.wid a b];grind
   rw[aZ ?_]
   .exact h.at' a b q c g
   .rcases Nat.lt_or_gt_of_ne e with m|l
    .have:a*k+k<=i*k:=by rw[<-lj];exact eC _ m
     omega
    .have:i*k+k<=a*k:=by rw[<-lj];exact eC _ l
     omega
def gi.snoc{k n:Nat}{es es':Nat->List C}{xs vs:List ah}(h:gi k n es xs)(f:∀i,i<n->es' i=es i)(hl:(es' n).length=k)(j:vs.length=k)(m:∀(q:Nat)(c:C),(es' n)[q]?=aa c->∃v,vs[q]?=aa v/\∀M,Rd M v c):gi k (n+1) es' (xs++vs):=by
 have l:=h.len;refine⟨by grind,λi hi=>?_,λi hi q c p=>?_⟩
 .by_cases e:i=n
  .grind
  .rw[f i (by omega)];exact h.wid i (by omega)
 .by_cases e:i=n
  .grind
  .have a:i<n:=by omega
   have b:(es i)[q]?=aa c:=by grind
   have g:q<k:=by rw[<-h.wid i a];grind
   have:i*k+k<=n*k:=by rw[<-lj];exact eC _ a
   rw[jz (by omega)];exact h.at' i a q c b
def zI(T:List (Nat×TI))(φ:Fr):List ResultVar->Option (List D)
 |[]=>aa []
 |.tmp t::r=>match zI T φ r with
  |some q=>aa (look φ t::q)
  |none=>ae
 |.cell ad t::r=>match zI T φ r with
  |some q=>match look φ ad with
   |.e (.one (.c (.rp cs)))=>match bD T t with
    |some i=>match kN i (cs.map A.c)with
     |some e=>aa (.e e::q)
     |none=>ae
    |none=>ae
   |_=>ae
  |none=>ae
def zJ{P:ar}{T:List (Nat×TI)}(hT:cO P T){N:Nat}{σ:List aP}{s:St}{φ:Fr}{a:Act}(f:cm N σ s φ a):∀{rs:List ResultVar}{ds:List D},zI T φ rs=aa ds ->
  ∃vs,cg σ s vs ds/\∀w,(∀b o u,s.M b o=aa u->w.cell? ⟨b,o,ae⟩=aa u)->(rs.mapM (gb a)).run P w=Result.ok vs w/\∀es,∀e∈(rs.mapM (gb a)).events P w es,e∈es∨∃b o u,e=⟨.cell ⟨b,o,ae⟩,af,af⟩/\s.M b o=aa u
 |[],ds,h=>by cases h;exact⟨[],ay,λw _=>⟨by simp,λes e l=>.inl (by simpa using l)⟩⟩
 |.tmp t::r,ds,h=>by
  simp only[zI]at h;cases G:zI T φ r with
  |none=>grind
  |some q =>
   simp[G]at h;subst h;obtain⟨vs,V,Q⟩:=zJ hT f G;refine⟨a.tmps.getD t ai::vs,⟨f.slot t,V⟩,λw p=>?_⟩;obtain⟨k1,Y⟩:=Q w p;refine⟨by simp only[n6,bL,gb,dq,bU,k1],λes e l=>Y es e ?_⟩;simpa[n6,gb,k1]using l
 |.cell ad t::r,ds,h=>by
  simp only[zI]at h;cases G:zI T φ r with
  |none=>grind
  |some q =>
   simp only[G]at h;have hs:=f.slot ad;generalize look φ ad=x at h hs;split at h
   case h_2=>cases h
   rename_i cs;cases hi:bD T t with
   |none=>grind
   |some i =>
    simp only[hi]at h;cases k:kN i (cs.map A.c)with
    |none=>grind
    |some e0 =>
     simp[k]at h;subst h;obtain⟨vs,V,Q⟩:=zJ hT f G;have J:=eT hs;generalize U:a.tmps.getD ad ai=vx at J;cases J;rename_i b off g hm M3;let y:=(bg cs.length).map g;have E:dX σ s y (cs.map A.c):=by
      have key:∀(n:Nat) (ds:List C),(∀j c,ds[j]?=aa c->Rd s.M (g (n+j)) c)->dX σ s ((bg ds.length).map λj=>g (n+j)) (ds.map A.c):=by
       intro n ds;induction ds generalizing n with
       |nil=>intro _;trivial
       |cons d ds ih =>
        intro hd;rw[eU,uZ];refine⟨hd 0 d rfl,?_⟩;have:=ih (n+1) (λj c m=>by have:=hd (j+1) c (by grind);grind);grind[Function.comp_def]
      have:=key 0 cs (by grind);grind
     have z:∀(j:Nat) (v:ah),y[j]?=aa v->s.M b (off+j)=aa v:=λj v m=>by
      simp only[y,mV]at m;by_cases I:j<cs.length
      .simp[I]at m;subst m;exact hm j cs[j] (br I)
      grind
     let w0:aA:={s.w with heap:=s.w.heap}
     have L:∃v,m8 σ s v e0/\∀w,(∀b o u,s.M b o=aa u->w.cell? ⟨b,o,ae⟩=aa u)->(loadVar t ⟨b,off,ae⟩).run P w=.ok v w:=by
      have S:=hT t i hi;cases W:i.agg<;>simp only[kN,W]at k
      .cases F:du 0 (cs.map A.c)with
       |none=>grind
       |some a0 =>
        simp[F]at k;subst k;obtain⟨v,hv,WZ⟩:=E.get (bZ F);refine⟨v,WZ,λw p=>?_⟩;have:=p _ _ _ (z 0 v hv);simp only[loadVar,bL,S.kl,bU,W];grind[run_load]
      .cases F:oF i.size (cs.map A.c)with
       |none=>grind
       |some r0 =>
        simp[F]at k;subst k;obtain⟨q1,q2⟩:=nn F;have H:=E.take i.size;rw[<-q1]at H;have hl:(y.take i.size).length=i.size:=by grind
        refine⟨.agg (y.take i.size).toArray,⟨y.take i.size,rfl,H⟩,λw p=>?_⟩
        have O:=run_loadCells_list (P:=P) w ⟨b,off,ae⟩ (y.take i.size) (λj v m=>by grind[dm])
        rw[hl]at O;simp only[loadVar,bL,S.kl,bU,W];simp[S.run_sizeOf,O]
     obtain⟨v,R,Z⟩:=L;refine⟨v::vs,⟨R,V⟩,λw p=>?_⟩;obtain⟨k1,Y⟩:=Q w p;have B:(gb a (.cell ad t))=loadVar t ⟨b,off,ae⟩:=by simp[gb,U,asAddr]
     refine⟨by grind[Go.Sem.run_bind,Go.Sem.run_pure,Go.Result.andThen_ok],λes e l=>?_⟩;rw[n6,B]at l;simp only[aM,Z w p,aO,k1,Sem.events_pure]at l;rcases Y _ e l with l|l
     .rcases Dz l with l|l
      .grind
      .obtain⟨j,m,rfl⟩:=ga (hT t i hi) (w:=w) (n:=cs.length) (λj m=>⟨g j,p _ _ _ (hm j cs[j] (br m))⟩) (by have:=kO k;grind) e l;exact .inr ⟨b,off+j,g j,rfl,hm j cs[j] (br m)⟩
     grind
theorem zH.Uo{P:ar}{T:List (Nat×TI)}(hT:cO P T){fn:Func}{φ:Fr}{ds:List D}{d:D}(h:zI T φ fn.results.toList=aa ds)(hj:rX ds=aa d):zH P fn φ d:=by
 intro N σ s a f;obtain⟨vs,h1,h2⟩:=zJ hT f h;refine⟨_,BD hj h1,λw g=>?_⟩;obtain⟨k1,j⟩:=h2 w g;have e1:(fn.results.mapM (gb a)).run P w=Result.ok vs.toArray w:=by grind[Array.mapM_eq_mapM_toList,Sem.run_map,Go.Result.andThen_ok]
 have e2:∀es,∀e∈(fn.results.mapM (gb a)).events P w es,e∈es∨∃b o u,e=⟨.cell ⟨b,o,ae⟩,af,af⟩/\s.M b o=aa u:=by rw[qO];intro es e c;exact j es e (by simpa using c)
 constructor
 .unfold results;rw[bL];refine(dA (λr=>Result.andThen r _) (Eq.trans ?_ e1)).trans ?_
  .congr 2
  .simp
 .intro e c;have i:e∈(fn.results.mapM (gb a)).events P w #[]:=by unfold results at c;rw[aM]at c;change e∈((fn.results.mapM (gb a)).run P w).evThen ((fn.results.mapM (gb a)).events P w #[]) _ at c;rw[e1]at c;simpa using c
  grind
section
variable {P:ar}{X:Cx P}{N:Nat}{K:List It}{φ:Fr}{σ:List aP}
def He(T:List (Nat×TI))(rs:List ResultVar)(ks:List Nat)(φ:Fr)(res:D):Option (List Prop) :=
 match zI T φ rs with
 |some ds=>match rX ds with
  |some d=>match vS ks.length res with
   |true=>Ds d (hZ ks res)
   |false=>ae
  |none=>ae
 |none=>ae
def AK.Q7{T:List (Nat×TI)}(hT:cO P T){fn:Func}{a:Nat}{res:D}{σ':List aP}(ks:List Nat){ps:List Prop}(h:He T fn.results.toList ks φ res=aa ps)(d:az ps)(e:jK ks σ=aa σ')(b:ko σ'=ab)(c:dx ks=ab)(hk:∀j,j<a->ks[j]?=aa j):
  AK X N (qV P fn a res σ') (.code .ret::K) .normal φ σ:=by refine AK.ret ⟨.inl rfl,ks,?_⟩;unfold He at h;grind[zH.Uo]
def Ev.rZ{f:aJ}{fn:Func}{c:Code}{args:List D}{σ σ':List aP}{res:D}(d:P.funcs[f]?=aa fn)(a:(fn.name== "runtime.NumGoroutine")=af)(e:fn.body=aa c)(b:bu args.length fn.ntmps=ab)(h:Fits args σ->AK X fn.ntmps (qV P fn σ.length res σ') [.code c] .normal (iZ 0 args) σ):Ev X f args σ res σ':=by refine⟨⟨fn,d,a,by grind⟩,λs vs hr hh=>?_⟩;have:=eb.Jk (X:=X) (ι:=Unit) (σ':=λ_=>σ') (res:=λ_=>res) d a e (cV b) (AW.mono (AK.of_code (h ⟨s,vs,hr,hh⟩)) λ_ _ _ q=>⟨(),q⟩);exact this.DJ.2 s vs hr hh
def cp.mk{fn:Func}{a:Nat}{res:D}{σ':List aP}(ks:List Nat){ps:List Prop}(h:zL fn.results.toList ks φ res=aa ps)(d:az ps)(e:jK ks σ=aa σ')(b:ko σ'=ab)(c:dx ks=ab)(hk:∀j,j<a->ks[j]?=aa j):cp fn a res σ' .ret φ σ:=by refine⟨.inl rfl,ks,?_⟩;unfold zL at h;grind
end
def Ga{α:Type}{l:Nat}{x:α}:∀{ks:List Nat}{a r:List α},jK ks a=aa r->l∉ks->jK ks (a.set l x)=aa r
 |[],a,r,h,_=>h
 |k::ks,a,r,h,c=>by
  simp only[eE,not_or]at c;simp only[jK,ff]at h⊢;rw[j7 c.1];cases hk:a[k]? with
  |none=>simp[hk]at h
  |some y =>
   simp only[hk]at h⊢;cases b:jK ks a with
   |none=>simp[b]at h
   |some q=>rw[Ga b c.2];simp only[b]at h;exact h
def B9{k:Nat}{l:List Nat}(h:ia k l=af):k∉l:=λhk=>by rw[vh hk]at h;cases h
def oR:Option (Tmp×E1)->List ResultVar
 |none=>[]
 |some q=>[.tmp q.1]
def oD(cs:List A):Option (Tmp×E1)->D
 |none=>.e (.agg cs)
 |some q=>.eX [.agg cs,q.2]
def Km(T:List (Nat×TI))(fn:Func)(a:Nat)(res:D)(σ':List aP):Post:=λe φ σ1 =>
 (e=.ret∨e=.normal)/\∃ks l E cs t ty it ps,∃o:Option (Tmp×E1),(∀q,o=aa q->look φ q.1=.e q.2)/\fn.results.toList=.cell t ty::oR o/\bD T ty=aa it/\it.agg=ab/\cs.length=it.size/\look φ t=.e (.one (.ptr l 0))/\σ1[l]?=aa (.cells E cs)/\l∉ks /\
  Ds (oD cs o) (hZ ks res)=aa ps/\az ps/\vS ks.length res=ab/\jK ks σ1=aa σ'/\ko σ'=ab/\dx ks=ab/\(∀j,j<a->ks[j]?=aa j)
def eb.RU{P:ar}{ι:Type}{X:Cx P}{T:List (Nat×TI)}(hT:cO P T){f:aJ}{fn:Func}{c:Code}{args:List D}{σ:List aP}{σ':ι->List aP}{res:ι->D}(hf:P.funcs[f]?=aa fn)(RI:(fn.name== "runtime.NumGoroutine")=af)(p:fn.body=aa c)(hlen:args.length<=fn.ntmps)(h:∀s a,cm fn.ntmps σ s (iZ 0 args) a->aF σ s->∀(b:aR) (k:List Item) (cs:List aR) (S:av->St->Prop),b.kind≠.early->b.roundOf=ae ->
  (∀e φ' σ1 s' a',(∃j,Km T fn σ.length (res j) (σ' j) e φ' σ1)->cm fn.ntmps σ1 s' φ' a'->aF σ1 s'->cR σ s σ1 s'->ends X S b k cs e a' s')->fz X S (G (b.aT a (.code c::k)) cs) s):eb X f args σ res σ':=by
 refine⟨⟨fn,hf,RI,by rw[p];rfl⟩,λs vs hr hh S cs hS=>?_⟩;obtain⟨hl,hg⟩:=cg.get hr;let b:aR:={fn:=f,tmps:=#[],todo:=[],defers:=[],mode:=.run,kind:=.normal,roundOf:=ae}
 have J:Frame.enter P f vs.toArray .normal=b.aT {tmps:=vs.toArray++Array.replicate (fn.ntmps-vs.toArray.size) ai,defers:=[]} [.code c]:=by simp[Frame.enter,Frame.aT,hf,p,b]
 rw[J];refine h s {tmps:=vs.toArray++Array.replicate (fn.ntmps-vs.toArray.size) ai,defers:=[]} ⟨by simp;omega,⟨[],ay⟩,λt=>?_⟩ hh b [] cs S (by simp[b]) rfl ?_
 .rw[om];simp only[lk,cj,lG];have:=hg t;rcases cC t vs.length with ta|TK
  .have e:(vs.toArray++Array.replicate (fn.ntmps-vs.toArray.size) ai).getD t ai=(vs[t]?).getD ai:=by simp only[dM];grind
   rw[e];exact this
  .rw[rG (by omega)];trivial
 .rintro e φ' σ0 s0 a1 ⟨jj,he,ks,l,E,rcs,t,ty,it,ps,o,q0,q1,q2,q3,q4,q5,q6,q7,h3,h4,h5,h6',h7',h8,h9⟩ f0 h0 Ya;obtain⟨h7,h7n⟩:=yy h7';have C:=f0.slot t;rw[q5]at C;obtain⟨_,L,bb,r,Xj,YF⟩:=C;obtain⟨b2,d,Ut,U,hrv,hM⟩:=h0.box l _ L q6 r;subst Ut;cases Xj;let M':Mem:=λm o=>if m=bb then d[o]? else s0.M m o;have Ul:∀o v,d[o]?=aa v->s0.w.cell? ⟨bb,o,ae⟩=aa v:=λo v ho=>by simpa[aV,U]using ho
  have T9:∀m o v,s0.M m o=aa v->M' m o=aa v:=λm o v hv=>by grind
  have hcM:∀m o v,M' m o=aa v->s0.w.cell? ⟨m,o,ae⟩=aa v:=λm o v hv=>by
   by_cases e:m=bb
   .grind
   .simp only[M',e,b7]at hv;exact h0.mem m o v hv
  obtain⟨h',I⟩:=h0.gz (M':=M') (w':=s0.w) (B':=.dead) (L':=⟨.pointer (aa ⟨bb,0,ae⟩),[]⟩) q6 r rfl (bh _) (λ_ _ _=>rfl) (λm _ Q o=>by grind) T9 hcM (by simp) rfl rfl rfl ay
  have Xg:eu s0 ⟨s0.β.set l ⟨.pointer (aa ⟨bb,0,ae⟩),[]⟩,M',s0.w,s0.own⟩:=⟨rfl,T9,λm Q o=>by
   have:m≠bb:=by rintro rfl;exact Q _ (bJ r) (by simp)
   simp only[M',this,b7],hcM,λm Q=>by grind⟩
  have f':cm fn.ntmps (σ0.set l .dead) ⟨s0.β.set l ⟨.pointer (aa ⟨bb,0,ae⟩),[]⟩,M',s0.w,s0.own⟩ φ' a1:=⟨f0.size,f0.defers.imp λ_ h1=>h1.mono I.ext,λu=>(f0.slot u).mono I.ext h0.len⟩
  have h6:=Ga (x:=aP.dead) h6' q7;have YG:dX (σ0.set l .dead) ⟨s0.β.set l ⟨.pointer (aa ⟨bb,0,ae⟩),[]⟩,M',s0.w,s0.own⟩ d rcs:=hrv.mono I.ext h0.len;have st:=Ya.trans (I.na h0);let V:ah:=match o with|none=>.agg d.toArray|some q=>.tuple #[.agg d.toArray,a1.tmps.getD q.1 ai]
  have N:∀w,(∀b o u,M' b o=aa u->w.cell? ⟨b,o,ae⟩=aa u)->(results fn a1.tmps).run P w=.ok V w/\∀e∈(results fn a1.tmps).events P w #[],∃b o u,e=⟨.cell ⟨b,o,ae⟩,af,af⟩/\M' b o=aa u:=by
   intro w hw;have R:=hT ty it q2;have hrl:d.length=it.size:=by rw[hrv.length,q4]
   have W:∀j v,d[j]?=aa v->w.cell? ⟨bb,0+j,ae⟩=aa v:=λj v hj=>hw _ _ _ (by grind);have W5:=run_loadCells_list (P:=P) w ⟨bb,0,ae⟩ d (λj v hj=>by rw[dm];exact W j v hj);rw[hrl]at W5;have G7:(loadVar ty ⟨bb,0,ae⟩).run P w=.ok (.agg d.toArray) w:=by simp only[loadVar,bL,R.kl,bU,q3];simp[R.run_sizeOf,W5]
   have WZ:fn.results=(ResultVar.cell t ty::oR o).toArray:=by apply Array.ext';simpa using q1
   have K:asAddr (a1.tmps[t]?.getD ai)=(pure ⟨bb,0,ae⟩:Sem Addr):=by rw[<-dM,YF];rfl
   refine⟨by cases o<;>simp[results,WZ,K,G7,V,oR],λe he=>?_⟩;have Uu:e∈(loadVar ty ⟨bb,0,ae⟩).events P w #[]:=by cases o<;>simpa[results,WZ,K,G7,oR]using he
   obtain⟨j,hj,rfl⟩:=ga R (w:=w) (n:=d.length) (λj hj=>⟨_,W j d[j] (br hj)⟩) (by rw[q3,hrl];simp) e Uu;exact⟨bb,0+j,d[j],rfl,by grind⟩
  have fin:∀(fr:aR) s2,ck (⟨s0.β.set l ⟨.pointer (aa ⟨bb,0,ae⟩),[]⟩,M',s0.w,s0.own⟩:St) s2->fr.fn=f->fr.tmps=a1.tmps->fr.defers=a1.defers->fr.mode=.returning->fr.kind=.normal->fz X S (G fr cs) s2:=by
   intro fr s2 sX e1 e2 e3 e4 e5;have f2:=f'.rely sX h';have A:=h'.rely sX;have g:=st.trans sX.stepW;have r2:dk (σ0.set l .dead) s2 V (oD rcs o):=by
    have hr3:=YG.mono sX.stepW.ext h'.len;cases o with
    |none=>exact⟨d,rfl,hr3⟩
    |some q =>
     have hx:=f2.slot q.1;rw[q0 q rfl]at hx;exact⟨[.agg d.toArray,a1.tmps.getD q.1 ai],rfl,⟨d,rfl,hr3⟩,hx,ay⟩
   obtain⟨i,H⟩:=vP (l':=s2.β) h6 A.len;have r4:=(oo h3 h4 r2).sub h6 H h5;obtain⟨c1,c2⟩:=iJ h6;obtain⟨d1,d2⟩:=iJ H;have O:∀L∈i,L∈s2.β:=zG H;have TO:aF (σ' jj) {s2 with β:=i}:=by obtain⟨Y,_⟩:=A.sub h6 H h7 h8;refine⟨Y.mem,Y.len,λj B L hB r=>?_,Y.eB,Y.lt,λb p=>⟨(A.own b p).1,λL r=>(A.own b p).2 L (O L r)⟩⟩;exact et.plain (σ:=σ' jj) (s:={s2 with β:=i,own:=vU s2 i}) (s':={s2 with β:=i}) rfl rfl (kK h7 B (bJ hB)) (Y.box j B L hB r)
   have RS:cR σ s (σ' jj) {s2 with β:=i}:=by refine⟨g.size,g.fb,g.mem,g.iV,λL r b p=>g.vd _ (O L r) b p,λl B L hB r=>?_,g.os,g.tape,g.output,g.own⟩;have hl:l<σ.length:=(bY.1 hB).1;obtain⟨B',L',p1,p2,p3⟩:=g.box l B L hB r;grind
   obtain⟨ls,RE⟩:=f2.defers;refine q8 ls fr s2 _ A.lI (by grind) e4 (by rw[e3];exact RE.taken A) λZ z=>?_;have F:ck {s2 with β:=i} {Z with β:=i}:=by
    refine⟨rfl,z.M,z.own,z.size,λb p=>z.fb b (p.imp id ?_),z.mem,z.os,z.tape,z.output⟩;rintro⟨L,r,p⟩;obtain⟨j,hj,rfl⟩:=dL r;have hj':j<ks.length:=by rw[<-d1];exact hj
    obtain⟨y,y1,y2⟩:=d2 j _ (br hj');obtain⟨x,x1,x2⟩:=c2 j _ (br hj');rw[br hj]at y1;cases y1;refine⟨_,_,y2,λhc=>?_,p⟩;rw[RE.BU _ hc]at x2;cases x2;exact nq h7n _ (bJ x1) rfl
   have hG:eu Z {Z with β:=i}:=⟨rfl,λ_ _ _ h=>h,λ_ _ _=>rfl,λb o v hv=>z.mem b o v (by rw[<-z.M];exact hv),λb p=>p.imp id λ⟨L,r,p⟩=>⟨L,by rw[z.β];exact O L r,p⟩⟩
   have YH:s2.M=M':=sX.M;refine .ghost hG (hS jj _ V _ ⟨e1,e4,rfl,e5,fn,by grind,λw hw=>?_⟩ (r4.mono F.stepW.ext TO.len) (TO.rely F) (RS.trans F.stepW));show(results fn fr.tmps).run P w=_/\∀e∈(results fn fr.tmps).events P w #[],_;rw[e2];have hw':∀b o u,M' b o=aa u->w.cell? ⟨b,o,ae⟩=aa u:=λb o u h=>hw b o u (by show Z.M b o=aa u;rw[z.M,YH];exact h);refine⟨(N w hw').1,λe he=>?_⟩;obtain⟨b,o,u,q1,q2⟩:=(N w hw').2 e he;exact⟨b,o,u,q1,by show Z.M b o=aa u;rw[z.M,YH];exact q2⟩
  rcases he with rfl|rfl
  .intro pre;exact .ghost Xg (.ctl h' rfl (λ_=>DC rfl) λs2 sX=>fin _ s2 sX rfl rfl (iQ _) rfl rfl)
  .exact .ghost Xg (.ctl h' rfl (λ_=>DD rfl) λs2 sX=>fin _ s2 sX rfl rfl (iQ _) rfl rfl)
def eb.rZ{P:ar}{ι:Type}{X:Cx P}{T:List (Nat×TI)}(hT:cO P T){f:aJ}{fn:Func}{c:Code}{args:List D}{σ:List aP}{σ':ι->List aP}{res:ι->D}(l:P.funcs[f]?=aa fn)(d:(fn.name== "runtime.NumGoroutine")=af)(i:fn.body=aa c)(g:bu args.length fn.ntmps=ab)(h:Fits args σ->AK X fn.ntmps (λe φ σ1=>∃j,Km T fn σ.length (res j) (σ' j) e φ σ1) [.code c] .normal (iZ 0 args) σ):eb X f args σ res σ':=by refine⟨⟨fn,l,d,by rw[i];rfl⟩,λs0 vs hr IN=>?_⟩;have:=eb.RU (X:=X) (σ':=σ') (res:=res) hT l d i (cV g) λs a f hh b k cs S hk _ m=>(show AW X fn.ntmps c _ (iZ 0 args) σ from AK.of_code (h ⟨s0,vs,hr,IN⟩)) s a f hh b k cs S hk m;exact this.2 s0 vs hr IN
def dX.set{σ:List aP}{s:St}{a:A}{v:ah}:∀{vs:List ah}{cs:List A}{j:Nat},dX σ s vs cs->vs[j]?=aa v->gn σ s v a->dX σ s vs (cs.set j a)
 |[],[],_,_,h,_=>by grind
 |[],_::_,_,h,_,_=>h.elim
 |_::_,[],_,h,_,_=>h.elim
 |u::vs,c::cs,0,h,b,d=>by simp at b;subst b;exact⟨d,h.2⟩
 |u::vs,c::cs,j+1,h,b,d=>⟨h.1,dX.set h.2 (by grind) d⟩
section
variable {P:ar}{X:Cx P}{N:Nat}{Qf:Post}{K:List It}{φ:Fr}{σ:List aP}{c:Code}
def AK.g7(l j:Nat)(E k:Nat)(es':Nat->List C){E0:aj}{cs:List A}{k':Nat}{z:Nat->List C}(hl:du l σ=aa (.cells E0 cs))(hj:du j cs=aa (.c (.sl ab k' 0 z)))(kk:AK X N Qf (.code c::K) .normal φ ((σ++[aP.vec E k 0 es']).set l (.cells E0 (cs.set j (.vec σ.length k 0 es'))))):AK X N Qf (.code c::K) .normal φ σ:=by
 refine AK.ghost (λs a D hh=>?_) kk;have hB:=bZ hl;have J:=bZ hj;have H:l<σ.length:=(bY.1 hB).1;have n:l<s.β.length:=by rw[hh.len];grind
 have r:=br n;generalize s.β[l]=L at r;obtain⟨b,vs,t,d,g,R⟩:=hh.box l _ L hB r;obtain⟨v,O,S⟩:=g.get J;have h1:Rd s.M v (.sl ab k 0 es'):=(Rd.vb (k:=k') (k':=k) (.inr rfl) S).Dx λi hi=>by omega
 have y:et (σ++[aP.vec E k 0 es']) {s with β:=s.β++[⟨v,[]⟩]} (.vec E k 0 es') ⟨v,[]⟩:=⟨h1.loose,.inl ⟨⟨rfl,rfl⟩,h1⟩⟩;obtain⟨F,G⟩:=hh.hO (.refl _ _) rfl hh y (by simp)
 have x:(σ++[aP.vec E k 0 es'])[l]?=aa (.cells E0 cs):=by grind
 have p:(s.β++[(⟨v,[]⟩:Loc)])[l]?=aa L:=by grind
 have f:(s.β++[(⟨v,[]⟩:Loc)]).set l L=s.β++[⟨v,[]⟩]:=by apply iO;grind
 have q:gy (.cells E0 cs) L (.cells E0 (cs.set j (.vec σ.length k 0 es'))) L:=rfl;have T:σ.length≠l:=by omega
 have m:et ((σ++[aP.vec E k 0 es']).set l (.cells E0 (cs.set j (.vec σ.length k 0 es')))) ⟨(s.β++[(⟨v,[]⟩:Loc)]).set l L,s.M,s.w,s.own⟩ (.cells E0 (cs.set j (.vec σ.length k 0 es'))) L:=by
  rw[f];refine⟨b,vs,t,d,?_,R⟩;have ex:Ext (σ++[aP.vec E k 0 es']) {s with β:=s.β++[⟨v,[]⟩]} ((σ++[aP.vec E k 0 es']).set l (.cells E0 (cs.set j (.vec σ.length k 0 es')))) {s with β:=s.β++[⟨v,[]⟩]}:=by
   refine⟨λ_ _ _ h=>h,λi B L' j1 fe=>?_⟩;by_cases e:l=i
   .grind
   .exact⟨B,L',by grind,fe,.refl _ _⟩
  have o:dX (σ++[aP.vec E k 0 es']) {s with β:=s.β++[⟨v,[]⟩]} vs cs:=g.mono G.ext hh.len;refine dX.set (o.mono ex F.len) O ?_;refine⟨h1.loose,by simp,λE2 k2 n2 zv h=>?_⟩;rw[j7 (by omega),fT (by omega),Nat.sub_self]at h;cases h;refine⟨bh _,λ_=>⟨⟨v,[]⟩,?_,rfl⟩⟩;simp[<-hh.len]
 obtain⟨Q,q2⟩:=F.gz (M':=s.M) (w':=s.w) (L':=L) x p q (bh _) (λ_ _ _=>rfl) (λ_ _ _ _=>rfl) (λ_ _ _ h=>h) hh.mem (λb I=>⟨.inl I,hh.lt L (bJ r) b I⟩) rfl rfl rfl m;have st:=G.trans q2;exact⟨⟨(s.β++[(⟨v,[]⟩:Loc)]).set l L,s.M,s.w,s.own⟩,rfl,⟨D.size,D.defers.imp λ_ h1=>h1.mono st.ext,λu=>(D.slot u).mono st.ext hh.len⟩,Q,st⟩
end
section
variable {P:ar}{X:Cx P}{N:Nat}{Qf:Post}{K:List It}{φ:Fr}{σ:List aP}{c:Code}
def AK.Vb(t:Nat)(E k:Nat)(es':Nat->List C){k':Nat}{f:Nat->List C}(j:look φ t=.e (.one (.c (.sl ab k' 0 f))))(kk:AK X N Qf (.code c::K) .normal ((t,.e (.one (.bp σ.length (.sl 0 k 0 0))))::φ) (σ++[.buf E k 0 es'])):AK X N Qf (.code c::K) .normal φ σ:=by
 refine AK.ghost (λs a b hh=>?_) kk;have g:=b.slot t;rw[j]at g;obtain⟨i,d⟩:=hh.hO (B:=.buf E k 0 es') (L:=⟨.slice ae 0 0,[]⟩) (.refl _ _) rfl hh (.inl ⟨rfl,rfl⟩) (by simp);refine⟨{s with β:=s.β++[⟨.slice ae 0 0,[]⟩]},rfl,⟨b.size,b.defers.imp λ_ h1=>h1.mono d.ext,λu=>?_⟩,i,d⟩;simp only[look];cases h:aB t u with
 |false=>exact(b.slot u).mono d.ext hh.len
 |true =>
  have e:=bP h;subst e;exact vc (E:=E) (es:=es') (eT g) (by simp) (by simp[<-hh.len])
def AK.sC(l j:Nat)(E k:Nat)(es':Nat->List C){E0:aj}{cs:List A}{k':Nat}{F:Nat->List C}(hl:du l σ=aa (.cells E0 cs))(hj:du j cs=aa (.c (.sl ab k' 0 F)))(kk:AK X N Qf (.code c::K) .normal φ ((σ++[aP.buf E k 0 es']).set l (.cells E0 (cs.set j (.bp σ.length (.sl 0 k 0 0)))))):AK X N Qf (.code c::K) .normal φ σ:=by
 refine AK.ghost (λs a G hh=>?_) kk;have hB:=bZ hl;have R:=bZ hj;have J:l<σ.length:=(bY.1 hB).1;have p:l<s.β.length:=by rw[hh.len];grind
 have x:=br p;generalize s.β[l]=L at x;obtain⟨b,vs,y,f,m,U⟩:=hh.box l _ L hB x;obtain⟨v,S,V⟩:=m.get R;let d:Loc:=⟨.slice ae 0 0,[]⟩
 obtain⟨H,I⟩:=hh.hO (B:=.buf E k 0 es') (L:=d) (.refl _ _) rfl hh (.inl ⟨rfl,rfl⟩) (by grind);have z:(σ++[aP.buf E k 0 es'])[l]?=aa (.cells E0 cs):=by grind
 have r:(s.β++[d])[l]?=aa L:=by grind
 have g:(s.β++[d]).set l L=s.β++[d]:=by apply iO;grind
 have t:gy (.cells E0 cs) L (.cells E0 (cs.set j (.bp σ.length (.sl 0 k 0 0)))) L:=rfl;have o:et ((σ++[aP.buf E k 0 es']).set l (.cells E0 (cs.set j (.bp σ.length (.sl 0 k 0 0))))) ⟨(s.β++[d]).set l L,s.M,s.w,s.own⟩ (.cells E0 (cs.set j (.bp σ.length (.sl 0 k 0 0)))) L:=by
  rw[g];refine⟨b,vs,y,f,?_,U⟩;have ex:Ext (σ++[aP.buf E k 0 es']) {s with β:=s.β++[d]} ((σ++[aP.buf E k 0 es']).set l (.cells E0 (cs.set j (.bp σ.length (.sl 0 k 0 0))))) {s with β:=s.β++[d]}:=by
   refine⟨λ_ _ _ h=>h,λi B L Q D=>?_⟩;by_cases e:l=i
   .grind
   .exact⟨B,L,by grind,D,.refl _ _⟩
  have q:dX (σ++[aP.buf E k 0 es']) {s with β:=s.β++[d]} vs cs:=m.mono I.ext hh.len;exact dX.set (q.mono ex H.len) S (vc (E:=E) (es:=es') V (by grind) (by simp[<-hh.len,d]))
 obtain⟨T,q2⟩:=H.gz (M':=s.M) (w':=s.w) (L':=L) z r t (bh _) (λ_ _ _=>rfl) (λ_ _ _ _=>rfl) (λ_ _ _ h=>h) hh.mem (λb O=>⟨.inl O,hh.lt L (bJ x) b O⟩) rfl rfl rfl o;have st:=I.trans q2;exact⟨⟨(s.β++[d]).set l L,s.M,s.w,s.own⟩,rfl,⟨G.size,G.defers.imp λ_ h1=>h1.mono st.ext,λu=>(G.slot u).mono st.ext hh.len⟩,T,st⟩
end
def qX:Nat->(Nat->List C)->Nat->List C
 |0,es=>es
 |o+1,es=>lZ (o+1) es
def vk(o:Nat)(es:Nat->List C)(i:Nat):qX o es i=es (o+i):=by cases o<;>simp[qX,lZ]
def Am(l k n:Nat)(es:Nat->List C)(a:A):Option (A×List Prop):=match Hc l a with
 |true=>aa (a,[])
 |false=>match a with
  |.bp l' (.sl g k' o m)=>match aB l' l,aB k' k with
   |true,ab=>aa (.c (.sl af k m (qX o es)),[g=n,o+m<=n])
   |_,_=>ae
  |_=>ae
def An(l k n:Nat)(es:Nat->List C):List A->Option (List A×List Prop)
 |[]=>aa ([],[])
 |a::r=>match Am l k n es a with
  |some (a',p)=>match An l k n es r with
   |some (r',q)=>aa (a'::r',kM p q)
   |none=>ae
  |none=>ae
def w7(l k n:Nat)(es:Nat->List C):E1->Option (E1×List Prop)
 |.one a=>match Am l k n es a with|some (a,p)=>aa (.one a,p)|none=>ae
 |.agg cs=>match An l k n es cs with|some (cs,p)=>aa (.agg cs,p)|none=>ae
def vv(l k n:Nat)(es:Nat->List C):List E1->Option (List E1×List Prop)
 |[]=>aa ([],[])
 |a::r=>match w7 l k n es a with
  |some (a',p)=>match vv l k n es r with
   |some (r',q)=>aa (a'::r',kM p q)
   |none=>ae
  |none=>ae
def w8(l k n:Nat)(es:Nat->List C):D->Option (D×List Prop)
 |.e x=>match w7 l k n es x with|some (x,p)=>aa (.e x,p)|none=>ae
 |.eX xs=>match vv l k n es xs with|some (xs,p)=>aa (.eX xs,p)|none=>ae
 |.any=>aa (.any,[])
section
variable {σ1:List aP}{s s2:St}{E k n:Nat}{es:Nat->List C}
structure l6(σ1:List aP)(E k n:Nat)(es:Nat->List C)(s s2:St):Prop where
 fb:∀v a,gn (σ1++[.buf E k n es]) s v a->Hc σ1.length a=ab->gn σ1 s2 v a
 Jm:∀v k' o m,gn (σ1++[.buf E k n es]) s v (.bp σ1.length (.sl n k' o m))->k'=k->o+m<=n->Rd s2.M v (.sl af k m (qX o es))
def l6.a(h:l6 σ1 E k n es s s2){v:ah}{a a':A}{ps:List Prop}(b:Am σ1.length k n es a=aa (a',ps))(e:az ps)(r:gn (σ1++[.buf E k n es]) s v a):gn σ1 s2 v a':=by
 unfold Am at b;split at b
 .rename_i d;cases b;exact h.fb v a r d
 .split at b
  .rename_i l' g k' o m _;split at b
   .rename_i e1 e2;cases b;have e1:=bP e1;have e2:=bP e2;subst e1 e2;obtain⟨rfl,h2⟩:g=n/\o+m<=n:=e;exact h.Jm v _ _ _ r rfl h2
   grind
  grind
def l6.l(h:l6 σ1 E k n es s s2):∀{vs:List ah}{cs nb:List A}{ps:List Prop},An σ1.length k n es cs=aa (nb,ps)->az ps->dX (σ1++[.buf E k n es]) s vs cs->dX σ1 s2 vs nb
 |[],[],_,_,b,_,_=>by cases b;trivial
 |[],_::_,_,_,_,_,r=>r.elim
 |_::_,[],_,_,_,_,r=>r.elim
 |v::vs,c::cs,nb,ps,b,d,r=>by
  simp only[An]at b;split at b
  .rename_i a' p h1;split at b
   .rename_i r' q h2;cases b;rw[az.cat]at d;exact⟨h.a h1 d.1 r.1,h.l h2 d.2 r.2⟩
   grind
  grind
def l6.e(h:l6 σ1 E k n es s s2){v:ah}{x d:E1}{ps:List Prop}(b:w7 σ1.length k n es x=aa (d,ps))(f:az ps)(r:m8 (σ1++[.buf E k n es]) s v x):m8 σ1 s2 v d:=by
 cases x with
 |one a =>
  simp only[w7]at b;split at b
  .rename_i a' p h1;cases b;exact h.a h1 f r
  grind
 |agg cs =>
  simp only[w7]at b;split at b
  .rename_i a' p h1;cases b;obtain⟨vs,g,i⟩:=r;exact⟨vs,g,h.l h1 f i⟩
  grind
def l6.es'(h:l6 σ1 E k n es s s2):∀{vs:List ah}{cs nb:List E1}{ps:List Prop},vv σ1.length k n es cs=aa (nb,ps)->az ps->g6 (σ1++[.buf E k n es]) s vs cs->g6 σ1 s2 vs nb
 |[],[],_,_,a,_,_=>by cases a;trivial
 |[],_::_,_,_,_,_,r=>r.elim
 |_::_,[],_,_,_,_,r=>r.elim
 |v::vs,c::cs,nb,ps,a,b,r=>by
  simp only[vv]at a;split at a
  .rename_i a' p h1;split at a
   .rename_i r' q h2;cases a;rw[az.cat]at b;exact⟨h.e h1 b.1 r.1,h.es' h2 b.2 r.2⟩
   grind
  grind
def l6.d(h:l6 σ1 E k n es s s2){v:ah}{x b:D}{ps:List Prop}(a:w8 σ1.length k n es x=aa (b,ps))(f:az ps)(r:dk (σ1++[.buf E k n es]) s v x):dk σ1 s2 v b:=by
 cases x with
 |e x =>
  simp only[w8]at a;split at a
  .rename_i a' p h1;cases a;exact h.e h1 f r
  grind
 |eX xs =>
  simp only[w8]at a;split at a
  .rename_i a' p h1;cases a;obtain⟨vs,g,i⟩:=r;exact⟨vs,g,h.es' h1 f i⟩
  grind
 |any=>cases a;trivial
def aF.Jm(hh:aF (σ1++[.buf E k n es]) s)(D:r5 σ1.length σ1=ab):
  ∃s2:St,aF σ1 s2/\eu s s2/\l6 σ1 E k n es s s2/\∀{σ0:List aP} {s0:St},cR σ0 s0 (σ1++[.buf E k n es]) s->σ0.length<=σ1.length->cR σ0 s0 σ1 s2:=by
 have hB:(σ1++[aP.buf E k n es])[σ1.length]?=aa (.buf E k n es):=by simp
 have Q:s.β.length=σ1.length+1:=by rw[hh.len];simp
 have t:s.β[σ1.length]?=aa s.β[σ1.length]:=br (by omega);generalize s.β[σ1.length]=L at t;have A:=hh.box _ _ L hB t;obtain⟨M',O,F,J,V⟩:∃M':Mem,(∀b o v,s.M b o=aa v->M' b o=aa v)/\(∀b,b∉L.bs->∀o,M' b o=s.M b o)/\(∀b o v,M' b o=aa v->s.w.cell? ⟨b,o,ae⟩=aa v) /\
   (∀v k' o m,gn (σ1++[.buf E k n es]) s v (.bp σ1.length (.sl n k' o m))->k'=k->o+m<=n->Rd M' v (.sl af k m (qX o es))):=by
  rcases A with⟨rfl,rfl⟩|⟨b,c0,vs,zs,rfl,hw,G9,S,I6,R,hM⟩
  .refine⟨s.M,λ_ _ _ h=>h,λ_ _ _=>rfl,hh.mem,λv k' o m r e l=>?_⟩;obtain⟨lv,⟨a,a0,cap,c0,p,h1,h2,T,y,U⟩,_,H⟩:=r;grind[Rd.jG]
  .let M':Mem:=λd o=>if d=b then vs[o]? else s.M d o;have G:∀d o v,s.M d o=aa v->M' d o=aa v:=λd o v p=>by grind
   refine⟨M',G,λd W o=>?_,λd o v p=>?_,λv k' o m r e l=>?_⟩
   .grind
   .by_cases e:d=b
    .subst e;simp only[M',cj]at p;simp only[aV,hw];grind
    .simp only[M',e,b7]at p;exact hh.mem d o v p
   .subst e;obtain⟨lv,⟨a,a0,cap,c1,p,h1,h2,T,y,U⟩,_,H⟩:=r;obtain⟨L',f,B⟩:=(H _ _ _ _ hB).2 rfl;rw[t]at f;cases f;rw[y]at B;cases B;rw[p];have z:∀i,i<m->∀j c,(qX o es i)[j]?=aa c->∃u,vs[(o+i)*k'+j]?=aa u/\Rd s.M u c:=λi hi j c hj=>by rw[vk]at hj;exact R.rd (o+i) (by omega) j c hj
    refine .sl b (o*k') (λi j=>(vs[(o+i)*k'+j]?).getD ai) h1 (by omega) (by simp) (λi hi=>by rw[vk];exact R.width _ (by omega)) (λhm=>?_) (λi hi j c hj=>?_) (λi hi j c hj=>?_)
    .grind
    .grind
    .obtain⟨u,Z,Y⟩:=z i hi j c hj;rw[Z];exact Y.mono G
 have q:(σ1++[aP.buf E k n es]).set σ1.length .dead=σ1++[.dead]:=by simp
 obtain⟨I,q2⟩:=hh.gz (M':=M') (w':=s.w) (B':=.dead) (L':=⟨L.v,[]⟩) hB t ay (bh _) (λ_ _ _=>rfl) (λb _ g o=>F b g o) O J (by simp) rfl rfl rfl ay;rw[q]at I q2;have q3:=I.drop (rest:=[.dead]) D;refine⟨_,q3,⟨rfl,O,λb g o=>F b (g L (bJ t)) o,J,λb g=>?_⟩,⟨λv a r x=>?_,λv k' o m r e l=>V v k' o m r e l⟩,λ{σ0 s0} st hle=>(st.trans (q2.na hh)).drop (rest:=[.dead]) hle⟩
 .rcases g with g|⟨L',f,g⟩
  .exact .inl g
  .have:=fW f;grind
 .exact(r.mono q2.ext hh.len).drop (rest:=[.dead]) x
end
def eb.Kv{P:ar}{ι:Type}{X:Cx P}{f:aJ}{args:List D}{σ:List aP}{res tz:ι->D}{σ1:ι->List aP}{E k:Nat}{n:ι->Nat}{es:ι->Nat->List C}(h:eb X f args σ res (λi=>σ1 i++[.buf E k (n i) (es i)])){ps:ι->List Prop}(e:∀i,w8 (σ1 i).length k (n i) (es i) (res i)=aa (tz i,ps i))(g:∀i,az (ps i))(b:∀i,r5 (σ1 i).length (σ1 i)=ab)(a:∀i,σ.length<=(σ1 i).length):eb X f args σ tz σ1:=by refine⟨h.1,λs vs hr hh S cs hS=>h.2 s vs hr hh S cs λi fr v s' hl ml iY st=>?_⟩;obtain⟨s2,c1,c2,c3,c4⟩:=iY.Jm (b i);exact .ghost c2 (hS i fr v s2 (hl.mono c2.mem) (c3.d (e i) (g i) ml) c1 (c4 st (a i)))
def Ev.Kv{P:ar}{X:Cx P}{f:aJ}{args:List D}{σ:List aP}{res tz:D}{σ1:List aP}{E k n:Nat}{es:Nat->List C}(h:Ev X f args σ res (σ1++[.buf E k n es])){ps:List Prop}(d:w8 σ1.length k n es res=aa (tz,ps))(e:az ps)(b:r5 σ1.length σ1=ab)(a:σ.length<=σ1.length):Ev X f args σ tz σ1 :=
 (eb.Kv (ι:=Unit) h.te (λ_=>d) (λ_=>e) (λ_=>b) (λ_=>a)).DJ
section
variable {P:ar}{T:List (Nat×TI)}{o:au}{d:ak->D}{σ:List aP}
def zM{x:ak}{t:aj}(h:o.op=.call {callee:=.builtin .clear,args:=#[x],argTypes:=#[t]})(a:ak->ah):
  aw a o=(do pure (.value (<-Builtin.clear_ #[t] o.type #[a x]))):=by simp[aw,h,resolve,invoke,builtin]
def Jl{M:Mem}{z:ah}{f:List C}{m k:Nat}(n:z.cells.toList.map qW=f.map aa)(hk:f.length=k):Flat M k m (λ_=>f) (Builtin.zeroCells z.cells m).toList:=by
 have e:z.cells.size=k:=by have:=dA List.length n;grind
 have g:dX [] ⟨[],M,default,λ_=>False⟩ z.cells.toList (f.map A.c):=kJ n;refine⟨by simp[Builtin.zeroCells,e],λ_ _=>hk,λi hi j c t=>?_⟩;have q:j<k:=by grind
 obtain⟨v,v1,r⟩:=g.get (j:=j) (a:=A.c c) (by grind);refine⟨v,?_,r⟩;have l:i*k+j<m*k:=by
  have:i*k+k<=m*k:=by rw[<-lj];exact eC k hi
  omega
 have b:(i*k+j) % k=j:=by grind[Nat.add_mul_mod_self_right,Nat.mod_eq_of_lt]
 have p:j<z.cells.size:=by omega
 have s:z.cells[j]=v:=by grind
 have h:z.cells[j]! = v:=by grind
 simp[Builtin.zeroCells,e,l,b,h]
def bF.Q8(hT:cO P T){x:ak}{t:aj}(h:o.op=.call {callee:=.builtin .clear,args:=#[x],argTypes:=#[t]}){i c:TI}{E:aj}(hi:bD T t=aa i)(hd:i.desc=.slice E)(hE:bD T E=aa c){l n q m:Nat}{J:aj}{es:Nat->List C}(hx:d x=.e (.one (.bp l (.sl n c.size q m))))(hl:σ[l]?=aa (.buf J c.size n es))(F:q+m<=n):
  bF P o d σ .any (σ.set l (.buf J c.size n (tj q (q+m) c.zero es))):=by
 intro s ρ hh hr;have h1:=hr x;rw[hx]at h1;change gn σ s (ρ x) (.bp l _)at h1;obtain⟨lv,⟨a,a0,cap,c0,hv,W0,TB,Xr,O,R⟩,_,X⟩:=h1;obtain⟨L,N,y⟩:=(X _ _ _ _ hl).2 rfl;rw[O]at y;have f:=(hT t i hi).TE;rw[hd]at f;rw[zM h,hv];by_cases hm:m=0
 .subst hm;have hz:tj q (q+0) c.zero es=es:=by funext j;simp only[tj];grind
  have hs:σ.set l (.buf J c.size n es)=σ:=by apply iO;grind
  rw[hz,hs];refine⟨.value (.tuple #[]),s,?_,ay,hh,.refl _ _,?_⟩
  .cases a<;>simp[Builtin.clear_,run_underlying f]
  .intro S p;cases a<;>simp[Builtin.clear_,run_underlying f,aM]at p
 .obtain⟨b,rfl,rfl⟩:=R (by omega);rcases hh.box l _ L hl N with⟨_,rfl⟩|⟨b',c1,vs,H,rfl,g,W,U,Q,hF,hM⟩
  .cases y
  .cases y;obtain⟨inf,z,Z,z2,z3,Y,z5,z6,z7⟩:=(hT E c hE).info;have r:=Jl (M:=s.M) (m:=m) z5 z7;have hlen:(Builtin.zeroCells z.cells m).toList.length=m*c.size:=r.len;have PO:=hF.len;have hb:q*c.size+m*c.size<=n*c.size:=by rw[<-iu];exact eC _ F
   have q2:=hF.T3 r F;have he:(λi=>if q<=i/\i<q+m then(λ_=>c.zero) (i-q)else es i)=tj q (q+m) c.zero es:=rfl;rw[he]at q2;obtain⟨t1,t2⟩:=hh.dH hl N W U Q g q2 (by grind) hM;have k:∀v∈(Builtin.zeroCells z.cells m).toList,v.oneCell'=ab:=r.cell;have A:=run_storeCells_at P b (q*c.size) J (Builtin.zeroCells z.cells m).toList 0 (vs++H).toArray s.w g (by grind) k;have G:((vs++H).toArray.toList.take (q*c.size+0)++(Builtin.zeroCells z.cells m).toList++(vs++H).toArray.toList.drop (q*c.size+0+(Builtin.zeroCells z.cells m).toList.length))=vs.take (q*c.size)++(Builtin.zeroCells z.cells m).toList++vs.drop (q*c.size+(Builtin.zeroCells z.cells m).toList.length)++H:=by grind
   rw[G]at A;have I:∀u,(zeroValue E).run P u=.ok z u:=λu=>by simp[zeroValue,typeInfo,Z,Y]
   have V:∀u es,(zeroValue E).events P u es=es:=λu es=>by simp[zeroValue,typeInfo,Z,Y,aM]
   obtain⟨K,rfl⟩:∃K,m=K+1:=⟨m-1,by omega⟩
   refine⟨.value (.tuple #[]),_,?_,ay,t1,t2,?_⟩
   .simp[Builtin.clear_,run_underlying f,I,A]
   .intro S p;have B:S∈(storeCells ⟨b,q*c.size,ae⟩ (Builtin.zeroCells z.cells (K+1)).toList).events P s.w #[]:=by simp only[Builtin.clear_,aM,ik,la]at p;simpa[run_underlying f,I,V,A]using p
    rcases dE (Builtin.zeroCells z.cells (K+1)).toList 0 (vs++H).toArray s.w #[] g (by grind) k S B with IN|⟨j,_,_,rfl⟩
    .grind
    .exact jF (bJ N) (by simp) (hM _)
end
section
variable {P:ar}{X:Cx P}{N:Nat}{Qf:Post}{K:List It}{φ:Fr}{σ:List aP}{all rest:List au}{o:au}
theorem AK.J6{φ':Fr}{σ':List aP}(h:∀s a,cm N σ s φ a->aF σ s->∃s':St,s'.w=s.w/\cm N σ' s' φ' a/\aF σ' s'/\Step σ s σ' s')(k:AK X N Qf (.ops all rest::K) .normal φ' σ'):AK X N Qf (.ops all rest::K) .normal φ σ:=by intro s a g hh b kk cs S idx hb jm hQ;obtain⟨s',i,e,c,st⟩:=h s a g hh;have d:=st.na hh;refine .ghost (.of hh c i d) ?_;exact k s' a e c b kk cs S idx hb jm λf σ2 s2 a2 q j h2 mg=>hQ f σ2 s2 a2 q j h2 (d.trans mg)
def AK.F0(t:Nat)(E k:Nat)(es':Nat->List C){k':Nat}{f:Nat->List C}(j:look φ t=.e (.one (.c (.sl ab k' 0 f))))(kk:AK X N Qf (.ops all rest::K) .normal ((t,.e (.one (.bp σ.length (.sl 0 k 0 0))))::φ) (σ++[.buf E k 0 es'])):AK X N Qf (.ops all rest::K) .normal φ σ:=by
 refine AK.J6 (λs a b hh=>?_) kk;have g:=b.slot t;rw[j]at g;obtain⟨i,d⟩:=hh.hO (B:=.buf E k 0 es') (L:=⟨.slice ae 0 0,[]⟩) (.refl _ _) rfl hh (.inl ⟨rfl,rfl⟩) (by simp);refine⟨{s with β:=s.β++[⟨.slice ae 0 0,[]⟩]},rfl,⟨b.size,b.defers.imp λ_ h1=>h1.mono d.ext,λu=>?_⟩,i,d⟩;simp only[look];cases h:aB t u with
 |false=>exact(b.slot u).mono d.ext hh.len
 |true =>
  have e:=bP h;subst e;exact vc (E:=E) (es:=es') (eT g) (by simp) (by simp[<-hh.len])
def AK.F1{T:List (Nat×TI)}(hT:cO P T){t ty:aj}{x:ak}{j d:Nat}(h:o.op=.binOp .eql t x (.const (.slice ae j d)) ty){i:TI}{E:aj}(hi:bD T t=aa i)(B:i.desc=.slice E){tt:Bool}{k n:Nat}{es:Nat->List C}(v:bM φ x=.e (.one (.c (.sl tt k n es))))(D:o.guard=ae)(F:fR N o.dst=ab)(kk:∀b:Bool,(b=ab->n=0)->AK X N Qf (.ops all rest::K) .normal (km o.dst (.e (.one (.c (.bool b)))) φ) σ):AK X N Qf (.ops all (o::rest)::K) .normal φ σ:=by
 refine AK.hand (ι:={b:Bool // b=ab->n=0}) (λb=>.e (.one (.c (.bool b.1)))) (λ_=>σ) D F (λs a A hh=>?_) λb=>kk b.1 b.2;have m:=cY A x;rw[v]at m;obtain⟨ad,cap,vs,m,_,_,_,_,H⟩:=(eT m).flat;have g:=(hT t i hi).TE;rw[B]at g;have r:=eT (by have:=cY A x;rw[v]at this;exact this);have p:ad.isNone=ab->n=0:=by
  intro J;rw[m]at r;cases r with
  |sl b off f z M I hk ha H u =>
   grind
 refine⟨⟨ad.isNone,p⟩,.value (.bool ad.isNone),s,.bool ad.isNone,?_,.inl rfl,Rd.bool,hh,.refl _ _,?_⟩
 .have u:(binOp .eql t (.slice ad n cap) (.slice ae j d)).run P s.w=.ok (.bool ad.isNone) s.w:=Go.Lib.run_eql_slice_nil s.w t E ad n cap j d g;have l:∀y,eqGuard .eql t x y (.slice ad n cap) (.slice ae j d)=pure ():=λy=>by simp[eqGuard]
  have e1:a.eval (.const (.slice ae j d))=.slice ae j d:=rfl;simp only[aw,h,m,e1,l];simp[u]
 .have G:∀es,(Op.equal t (.slice ad n cap) (.slice ae j d)).events P s.w es=es:=λes=>by show(aY (9999+1) t _ _).events P s.w es=es;unfold aY;cases ad<;>simp[underlying,g]
  have u:(Op.equal t (.slice ad n cap) (.slice ae j d)).run P s.w=.ok ad.isNone s.w:=by show(aY (9999+1) t _ _).run P s.w=_;grind[Go.Lib.run_equalIn_slice_nil]
  have l:∀y,eqGuard .eql t x y (.slice ad n cap) (.slice ae j d)=pure ():=λy=>by simp[eqGuard]
  have e1:a.eval (.const (.slice ae j d))=.slice ae j d:=rfl;intro L q;exfalso;simp only[aw,h,m,e1,l,binOp]at q;simp[u,G,aM]at q
end
def ey{P:ar}{t:aj}{i:TypeInfo}(h:P.types[t]?=aa i):P.info? t=aa i:=by unfold Tables.info?;rw[bl (ij.1 h).1];exact h
def cO.nil{P:ar}:cO P []:=λ_ _ h=>by cases h
def cO.cons{P:ar}{t:aj}{i:TI}{T:List (Nat×TI)}(h:dy P t i)(r:cO P T):cO P ((t,i)::T):=by
 intro b i2 h2;simp only[bD]at h2;cases a:aB t b with
 |true=>rw[a]at h2;cases h2;rw[<-bP a];exact h
 |false=>rw[a]at h2;exact r b i2 h2
def dy.mk1{P:ar}{t:aj}{i:TI}{n:TypeInfo}(h:P.underlying t=aa i.desc)(k:P.types[t]?=aa n)(a:(Ai i.desc==i.agg&&n.size==i.size&&n.bytes==i.bytes&&(!i.agg||n.zero.any λz=>match z with|.agg _=>ab|_=>af)&&i.zero.length==i.size&&i.eq.isEmpty)=ab:=by rfl)(b:n.zero.map (λz=>z.cells.toList.map qW)=aa (i.zero.map aa):=by rfl):dy P t i:=by
 simp only[bR,hI,List.isEmpty_iff]at a;obtain⟨⟨⟨⟨⟨a1,a2⟩,a3⟩,a4⟩,a5⟩,a6⟩:=a;cases c:n.zero with
 |none=>rw[c]at b;cases b
 |some z =>
  rw[c]at b a4;refine⟨h,a1,⟨n,z,ey k,a2,a3,c,rN b,?_,a5⟩,λh=>absurd a6 h⟩;cases d:i.agg with
  |false=>exact⟨#[],rfl⟩
  |true =>
   rw[d]at a4;cases z<;>first|exact⟨_,rfl⟩|cases a4
def cO.c1{P:ar}{t:aj}{i:TI}{n:TypeInfo}{T:List (Nat×TI)}(h:P.underlying t=aa i.desc)(k:P.types[t]?=aa n)(r:cO P T)(a:(Ai i.desc==i.agg&&n.size==i.size&&n.bytes==i.bytes&&(!i.agg||n.zero.any λz=>match z with|.agg _=>ab|_=>af)&&i.zero.length==i.size&&i.eq.isEmpty)=ab:=by rfl)(b:n.zero.map (λz=>z.cells.toList.map qW)=aa (i.zero.map aa):=by rfl):cO P ((t,i)::T):=cO.cons (dy.mk1 h k a b) r
namespace R1
abbrev pI:= "loop.example/depositary/impl"
abbrev pS:= "loop.example/depositary/spec"
abbrev f0(a:String)(b c:Nat)(d:String)(e:Nat)(f:Bool:=af):Field:={name:=a,type:=b,offset:=c,embedded:=f,tag:= "",pkgPath:=d,byteOffset:=e}
abbrev zS:C:=.sl ab 0 0 (λ_=>[])
@[simp] def E3(n:aj):TI:=⟨1,24,af,.slice n,[zS],[]⟩
@[simp] def I0(n:aj):TI:=⟨1,8,af,.pointer n,[.hY],[]⟩
@[simp] def CV(b:Nat)(k:IntKind):TI:=⟨1,b,af,.int k,[.int k 0],[]⟩
@[simp] def uT(s b:Nat)(f:Array Field)(z:List C)(e:List TypeDesc:=[]):TI:=⟨s,b,ab,.struct f,z,e⟩
def i2:TI:=CV 8 .i64
def i3:TI:=CV 8 .i64
def i4:TI:=⟨1,1,af,TypeDesc.bool,[.bool af],[]⟩
def i5:TI:=CV 1 .u8
def i6:TI:=CV 1 .u8
def i8:TI:=uT 4 24 #[f0 "x" 2 0 "runtime" 0,f0 "y" 3 1 "runtime" 8,f0 "signed" 4 2 "runtime" 16,f0 "code" 6 3 "runtime" 17] [.int .i64 0,.int .i64 0,.bool af,.int .u8 0]
def i9:TI:=⟨1,16,af,TypeDesc.string,[.str []],[]⟩
def i12:TI:=CV 8 .u64
def i16:TI:=I0 313
def i17:TI:=I0 320
def i20:TI:=⟨1,16,af,TypeDesc.interface #[],[.iy],[]⟩
def i21:TI:=CV 4 .i32
def i22:TI:=E3 5
def i23:TI:=E3 37
def i24:TI:=E3 41
def i25:TI:=E3 106
def i27:TI:=uT 3 72 #[f0 "Packs" 23 0 "" 0,f0 "Snaps" 24 1 "" 24,f0 "Log" 25 2 "" 48] [zS,zS,zS]
def i28:TI:=E3 76
def i35:TI:=E3 66
def i37:TI:=uT 2 32 #[f0 "No" 3 0 "" 0,f0 "Item" 35 1 "" 8] [.int .i64 0,zS]
def i39:TI:=E3 69
def i41:TI:=uT 2 32 #[f0 "No" 3 0 "" 0,f0 "All" 39 1 "" 8] [.int .i64 0,zS]
def i43:TI:=E3 9
def i45:TI:=E3 81
def i48:TI:=I0 90
def i57:TI:=⟨1,16,af,TypeDesc.interface #[("Error",252)],[.iy],[]⟩
def i60:TI:=I0 115
def i62:TI:=I0 60
def i66:TI:=uT 2 24 #[f0 "Name" 3 0 "" 0,f0 "Body" 9 1 "" 8] [.int .i64 0,.str []] [.int .i64,.string]
def g66:dy ag 66 i66:=⟨Tryz.underlying66,rfl,⟨_,_,ey Tryz.type66,rfl,rfl,rfl,rfl,⟨_,rfl⟩,rfl⟩,λ_=>kV (fs:=[f0 "Name" 3 0 "" 0,f0 "Body" 9 1 "" 8]) Tryz.underlying66 (by decide +kernel) Tryz.eqGuardType66 ⟨by decide,rfl,Tryz.underlying3,ay,by decide,rfl,Tryz.underlying9,ay,ay⟩⟩
def i67:TI:=E3 3
def i69:TI:=uT 2 40 #[f0 "Path" 9 0 "" 0,f0 "Names" 67 1 "" 16] [.str [],zS]
def i73:TI:=I0 142
def i76:TI:=uT 2 32 #[f0 "Path" 9 0 "" 0,f0 "Text" 9 1 "" 16] [.str [],.str []] [.string,.string]
def g76:dy ag 76 i76:=⟨Tryz.underlying76,rfl,⟨_,_,ey Tryz.type76,rfl,rfl,rfl,rfl,⟨_,rfl⟩,rfl⟩,λ_=>kV (fs:=[f0 "Path" 9 0 "" 0,f0 "Text" 9 1 "" 16]) Tryz.underlying76 (by decide +kernel) Tryz.eqGuardType76 ⟨by decide,rfl,Tryz.underlying9,ay,by decide,rfl,Tryz.underlying9,ay,ay⟩⟩
def i81:TI:=uT 2 16 #[f0 "Name" 3 0 "" 0,f0 "Pack" 3 1 "" 8] [.int .i64 0,.int .i64 0] [.int .i64,.int .i64]
def g81:dy ag 81 i81:=⟨Tryz.underlying81,rfl,⟨_,_,ey Tryz.type81,rfl,rfl,rfl,rfl,⟨_,rfl⟩,rfl⟩,λ_=>kV (fs:=[f0 "Name" 3 0 "" 0,f0 "Pack" 3 1 "" 8]) Tryz.underlying81 (by decide +kernel) Tryz.eqGuardType81 ⟨by decide,rfl,Tryz.underlying3,ay,by decide,rfl,Tryz.underlying3,ay,ay⟩⟩
def i84:TI:=E3 37
def i86:TI:=uT 3 72 #[f0 "packed" 84 0 pI 0 ab,f0 "snaps" 24 1 pI 24,f0 "log" 25 2 pI 48] [zS,zS,zS]
def i90:TI:=uT 2 32 #[f0 "b" 22 0 pS 0,f0 "p" 3 1 pS 24] [zS,.int .i64 0]
def i106:TI:=uT 2 16 #[f0 "By" 3 0 "" 0,f0 "Snap" 3 1 "" 8] [.int .i64 0,.int .i64 0] [.int .i64,.int .i64]
def Zg:dy ag 106 i106:=⟨Tryz.underlying106,rfl,⟨_,_,ey Tryz.type106,rfl,rfl,rfl,rfl,⟨_,rfl⟩,rfl⟩,λ_=>kV (fs:=[f0 "By" 3 0 "" 0,f0 "Snap" 3 1 "" 8]) Tryz.underlying106 (by decide +kernel) Tryz.eqGuardType106 ⟨by decide,rfl,Tryz.underlying3,ay,by decide,rfl,Tryz.underlying3,ay,ay⟩⟩
def i115:TI:=uT 1 16 #[f0 "what" 9 0 pI 0] [.str []] [.string]
def Zh:dy ag 115 i115:=⟨Tryz.underlying115,rfl,⟨_,_,ey Tryz.type115,rfl,rfl,rfl,rfl,⟨_,rfl⟩,rfl⟩,λ_=>kV (fs:=[f0 "what" 9 0 pI 0]) Tryz.underlying115 (by decide +kernel) Tryz.eqGuardType115 ⟨by decide,rfl,Tryz.underlying9,ay,ay⟩⟩
def i120:TI:=⟨1,8,af,TypeDesc.unsafePointer,[.hY],[]⟩
def i121:TI:=CV 8 .u64
def i123:TI:=uT 3 24 #[f0 "typ_" 17 0 "internal/reflectlite" 0,f0 "ptr" 120 1 "internal/reflectlite" 8,f0 "flag" 121 2 "internal/reflectlite" 16 ab] [.hY,.hY,.int .u64 0]
def i126:TI:=⟨1,16,af,TypeDesc.interface #[("AssignableTo",131),("Comparable",130),("Elem",127),("Implements",131),("Kind",129),("Name",252),("PkgPath",252),("Size",321),("String",252),("internal/reflectlite.common",314),("internal/reflectlite.uncommon",322)],[.iy],[]⟩
def i128:TI:=CV 1 .u8
def i136:TI:=E3 45
def i142:TI:=uT 4 32 #[f0 "spot" 81 0 pI 0,f0 "left" 73 2 pI 16,f0 "right" 73 3 pI 24] [.int .i64 0,.int .i64 0,.hY,.hY]
def i143:TI:=CV 8 .i64
def i169:TI:=I0 170
def i170:TI:=E3 66
def i179:TI:=⟨1,16,af,TypeDesc.interface #[("As",181)],[.iy],[]⟩
def i182:TI:=⟨1,16,af,TypeDesc.interface #[("Unwrap",183)],[.iy],[]⟩
def i184:TI:=⟨1,16,af,TypeDesc.interface #[("Unwrap",186)],[.iy],[]⟩
def i185:TI:=E3 57
def i200:TI:=CV 8 .u64
def i205:TI:=⟨1,16,af,TypeDesc.interface #[("Len",167),("Less",188),("Pop",210),("Push",206),("Swap",208)],[.iy],[]⟩
def i212:TI:=⟨1,16,af,TypeDesc.interface #[("Is",214)],[.iy],[]⟩
def i219:TI:=CV 8 .i64
def i227:TI:=CV 4 .u32
def i229:TI:=CV 8 .u64
def i230:TI:=E3 241
def i232:TI:=uT 0 0 #[] []
def i233:TI:=uT 0 0 #[] []
def i234:TI:=uT 0 0 #[] []
def i236:TI:=uT 1 8 #[f0 "_" 233 0 "sync/atomic" 0,f0 "_" 234 0 "sync/atomic" 0,f0 "v" 229 0 "sync/atomic" 0] [.int .u64 0]
def i238:TI:=uT 2 16 #[f0 "noCopy" 232 0 "sync" 0,f0 "state" 236 0 "sync" 0,f0 "sema" 227 1 "sync" 8] [.int .u64 0,.int .u32 0]
def i241:TI:=uT 2 24 #[f0 "piece" 9 0 pI 0,f0 "ok" 4 1 pI 16] [.str [],.bool af] [.string,.bool]
def Zi:dy ag 241 i241:=⟨Tryz.underlying241,rfl,⟨_,_,ey Tryz.type241,rfl,rfl,rfl,rfl,⟨_,rfl⟩,rfl⟩,λ_=>kV (fs:=[f0 "piece" 9 0 pI 0,f0 "ok" 4 1 pI 16]) Tryz.underlying241 (by decide +kernel) Tryz.eqGuardType241 ⟨by decide,rfl,Tryz.underlying9,ay,by decide,rfl,Tryz.underlying4,ay,ay⟩⟩
def i247:TI:=I0 249
def i249:TI:=uT 2 32 #[f0 "addr" 247 0 "strings" 0,f0 "buf" 22 1 "strings" 8] [.hY,zS]
def i254:TI:=CV 8 .u64
def i258:TI:=I0 3
def i278:TI:=I0 5
def i285:TI:=I0 281
def i306:TI:=uT 2 2 #[f0 "lo" 5 0 "unicode/utf8" 0,f0 "hi" 5 1 "unicode/utf8" 1] [.int .u8 0,.int .u8 0] [.int .u8,.int .u8]
def Zj:dy ag 306 i306:=⟨Tryz.underlying306,rfl,⟨_,_,ey Tryz.type306,rfl,rfl,rfl,rfl,⟨_,rfl⟩,rfl⟩,λ_=>kV (fs:=[f0 "lo" 5 0 "unicode/utf8" 0,f0 "hi" 5 1 "unicode/utf8" 1]) Tryz.underlying306 (by decide +kernel) Tryz.eqGuardType306 ⟨by decide,rfl,Tryz.underlying5,ay,by decide,rfl,Tryz.underlying5,ay,ay⟩⟩
def i307:TI:=⟨32,32,ab,TypeDesc.array 16 306,[.int .u8 0,.int .u8 0,.int .u8 0,.int .u8 0,.int .u8 0,.int .u8 0,.int .u8 0,.int .u8 0,.int .u8 0,.int .u8 0,.int .u8 0,.int .u8 0,.int .u8 0,.int .u8 0,.int .u8 0,.int .u8 0,.int .u8 0,.int .u8 0,.int .u8 0,.int .u8 0,.int .u8 0,.int .u8 0,.int .u8 0,.int .u8 0,.int .u8 0,.int .u8 0,.int .u8 0,.int .u8 0,.int .u8 0,.int .u8 0,.int .u8 0,.int .u8 0],[]⟩
def i308:TI:=I0 326
def i311:TI:=⟨0,0,ab,TypeDesc.array 0 16,[],[]⟩
def i313:TI:=uT 0 0 #[f0 "_" 311 0 "runtime" 0] []
def i315:TI:=CV 1 .u8
def i317:TI:=CV 4 .i32
def i318:TI:=CV 4 .i32
def i320:TI:=uT 11 48 #[f0 "Size_" 12 0 "" 0,f0 "PtrBytes" 12 1 "" 8,f0 "Hash" 227 2 "" 16,f0 "TFlag" 315 3 "" 20,f0 "Align_" 5 4 "" 21,f0 "FieldAlign_" 5 5 "" 22,f0 "Kind_" 128 6 "" 23,f0 "Equal" 316 7 "" 24,f0 "GCData" 278 8 "" 32,f0 "Str" 317 9 "" 40,f0 "PtrToThis" 318 10 "" 44] [.int .u64 0,.int .u64 0,.int .u32 0,.int .u8 0,.int .u8 0,.int .u8 0,.int .u8 0,.x4,.hY,.int .i32 0,.int .i32 0]
def i326:TI:=uT 1 16 #[f0 "s" 9 0 "errors" 0] [.str []] [.string]
def Zk:dy ag 326 i326:=⟨Tryz.underlying326,rfl,⟨_,_,ey Tryz.type326,rfl,rfl,rfl,rfl,⟨_,rfl⟩,rfl⟩,λ_=>kV (fs:=[f0 "s" 9 0 "errors" 0]) Tryz.underlying326 (by decide +kernel) Tryz.eqGuardType326 ⟨by decide,rfl,Tryz.underlying9,ay,ay⟩⟩
def tt:List (Nat×TI):=[(2,i2),(3,i3),(4,i4),(5,i5),(6,i6),(8,i8),(9,i9),(12,i12),(16,i16),(17,i17),(20,i20),(21,i21),(22,i22),(23,i23),(24,i24),(25,i25),(27,i27),(28,i28),(35,i35),(37,i37),(39,i39),(41,i41),(43,i43),(45,i45),(48,i48),(57,i57),(60,i60),(62,i62),(66,i66),(67,i67),(69,i69),(73,i73),(76,i76),(81,i81),(84,i84),(86,i86),(90,i90),(106,i106),(115,i115),(120,i120),(121,i121),(123,i123),(126,i126),(128,i128),(136,i136),(142,i142),(143,i143),(169,i169),(170,i170),(179,i179),(182,i182),(184,i184),(185,i185),(200,i200),(205,i205),(212,i212),(219,i219),(227,i227),(229,i229),(230,i230),(232,i232),(233,i233),(234,i234),(236,i236),(238,i238),(241,i241),(247,i247),(249,i249),(254,i254),(258,i258),(278,i278),(285,i285),(306,i306),(307,i307),(308,i308),(311,i311),(313,i313),(315,i315),(317,i317),(318,i318),(320,i320),(326,i326)]
def tok:cO ag tt:=cO.c1 Tryz.underlying2 Tryz.type2 ( cO.c1 Tryz.underlying3 Tryz.type3 ( cO.c1 Tryz.underlying4 Tryz.type4 ( cO.c1 Tryz.underlying5 Tryz.type5 ( cO.c1 Tryz.underlying6 Tryz.type6 ( cO.c1 Tryz.underlying8 Tryz.type8 ( cO.c1 Tryz.underlying9 Tryz.type9 ( cO.c1 Tryz.underlying12 Tryz.type12 ( cO.c1 Tryz.underlying16 Tryz.type16 ( cO.c1 Tryz.underlying17 Tryz.type17 ( cO.c1 Tryz.underlying20 Tryz.type20 ( cO.c1 Tryz.underlying21 Tryz.type21 ( cO.c1 Tryz.underlying22 Tryz.type22 ( cO.c1 Tryz.underlying23 Tryz.type23 ( cO.c1 Tryz.underlying24 Tryz.type24 ( cO.c1 Tryz.underlying25 Tryz.type25 ( cO.c1 Tryz.underlying27 Tryz.type27 ( cO.c1 Tryz.underlying28 Tryz.type28 ( cO.c1 Tryz.underlying35 Tryz.type35 ( cO.c1 Tryz.underlying37 Tryz.type37 ( cO.c1 Tryz.underlying39 Tryz.type39 ( cO.c1 Tryz.underlying41 Tryz.type41 ( cO.c1 Tryz.underlying43 Tryz.type43 ( cO.c1 Tryz.underlying45 Tryz.type45 ( cO.c1 Tryz.underlying48 Tryz.type48 ( cO.c1 Tryz.underlying57 Tryz.type57 ( cO.c1 Tryz.underlying60 Tryz.type60 ( cO.c1 Tryz.underlying62 Tryz.type62 ( cO.cons g66 ( cO.c1 Tryz.underlying67 Tryz.type67 ( cO.c1 Tryz.underlying69 Tryz.type69 ( cO.c1 Tryz.underlying73 Tryz.type73 ( cO.cons g76 ( cO.cons g81 ( cO.c1 Tryz.underlying84 Tryz.type84 ( cO.c1 Tryz.underlying86 Tryz.type86 ( cO.c1 Tryz.underlying90 Tryz.type90 ( cO.cons Zg ( cO.cons Zh ( cO.c1 Tryz.underlying120 Tryz.type120 ( cO.c1 Tryz.underlying121 Tryz.type121 ( cO.c1 Tryz.underlying123 Tryz.type123 ( cO.c1 Tryz.underlying126 Tryz.type126 ( cO.c1 Tryz.underlying128 Tryz.type128 ( cO.c1 Tryz.underlying136 Tryz.type136 ( cO.c1 Tryz.underlying142 Tryz.type142 ( cO.c1 Tryz.underlying143 Tryz.type143 ( cO.c1 Tryz.underlying169 Tryz.type169 ( cO.c1 Tryz.underlying170 Tryz.type170 ( cO.c1 Tryz.underlying179 Tryz.type179 ( cO.c1 Tryz.underlying182 Tryz.type182 ( cO.c1 Tryz.underlying184 Tryz.type184 ( cO.c1 Tryz.underlying185 Tryz.type185 ( cO.c1 Tryz.underlying200 Tryz.type200 ( cO.c1 Tryz.underlying205 Tryz.type205 ( cO.c1 Tryz.underlying212 Tryz.type212 ( cO.c1 Tryz.underlying219 Tryz.type219 ( cO.c1 Tryz.underlying227 Tryz.type227 ( cO.c1 Tryz.underlying229 Tryz.type229 ( cO.c1 Tryz.underlying230 Tryz.type230 ( cO.c1 Tryz.underlying232 Tryz.type232 ( cO.c1 Tryz.underlying233 Tryz.type233 ( cO.c1 Tryz.underlying234 Tryz.type234 ( cO.c1 Tryz.underlying236 Tryz.type236 ( cO.c1 Tryz.underlying238 Tryz.type238 ( cO.cons Zi ( cO.c1 Tryz.underlying247 Tryz.type247 ( cO.c1 Tryz.underlying249 Tryz.type249 ( cO.c1 Tryz.underlying254 Tryz.type254 ( cO.c1 Tryz.underlying258 Tryz.type258 ( cO.c1 Tryz.underlying278 Tryz.type278 ( cO.c1 Tryz.underlying285 Tryz.type285 ( cO.cons Zj ( cO.c1 Tryz.underlying307 Tryz.type307 ( cO.c1 Tryz.underlying308 Tryz.type308 ( cO.c1 Tryz.underlying311 Tryz.type311 ( cO.c1 Tryz.underlying313 Tryz.type313 ( cO.c1 Tryz.underlying315 Tryz.type315 ( cO.c1 Tryz.underlying317 Tryz.type317 ( cO.c1 Tryz.underlying318 Tryz.type318 ( cO.c1 Tryz.underlying320 Tryz.type320 ( cO.cons Zk (cO.nil))))))))))))))))))))))))))))))))))))))))))))))))))))))))))))))))))))))))))))))))))
end R1
abbrev Bs:=List UInt8
abbrev dS(s:Bs):D:=.e (.one (.c (.str s)))
abbrev dI(n:Int):D:=.e (.one (.c (.int .i64 n)))
abbrev dU(n:Int):D:=.e (.one (.c (.int .u8 n)))
abbrev dB(b:Bool):D:=.e (.one (.c (.bool b)))
def ky{s:Bs}{i:Nat}:iS s i=s.getD i 0:=rfl
namespace R1
variable {X:Cx ag}
def ja:Tryz.prog.follows Departure.mixedOrders=ab:=rfl
def Zl{X:Cx ag}{CT:List (Nat×dt)}(c:bE X CT)(ds:List (Nat×Bool)){N:Nat}{Qf:Post}(n:Nat){K b:List It}{φ φ':Fr}{σ σ':List aP}{a:List Prop}(h:AM.kW tt CT ds N n K φ σ []=aa (b,φ',σ',a))(d:az a)(k:AK X N Qf b .normal φ' σ'):AK X N Qf K .normal φ σ:=AK.kW ja tok c ds n h d k
def qE{X:Cx ag}(ds:List (Nat×Bool)){N:Nat}{Qf:Post}(n:Nat){K b:List It}{φ φ':Fr}{σ σ':List aP}{a:List Prop}(h:AM.kW tt [] ds N n K φ σ []=aa (b,φ',σ',a))(c:az a)(k:AK X N Qf b .normal φ' σ'):AK X N Qf K .normal φ σ:=AK.kW ja tok bE.nil ds n h c k
def bt{X:Cx ag}{N:Nat}{Qf:Post}{K b:List It}{φ φ':Fr}{σ σ':List aP}{a:List Prop}(h:AM.kW tt [] [] N 100 K φ σ []=aa (b,φ',σ',a))(c:az a)(k:AK X N Qf b .normal φ' σ'):AK X N Qf K .normal φ σ:=AK.kW ja tok bE.nil [] 100 h c k
def c8{X:Cx ag}{N:Nat}{Qf:Post}{K b:List It}{φ φ':Fr}{σ σ':List aP}{a:List Prop}(h:AM.kW tt [] [] N 200 K φ σ []=aa (b,φ',σ',a))(c:az a)(k:AK X N Qf b .normal φ' σ'):AK X N Qf K .normal φ σ:=AK.kW ja tok bE.nil [] 200 h c k
def aW{X:Cx ag}{CT:List (Nat×dt)}(c:bE X CT)(ds:List (Nat×Bool)){N:Nat}{Qf:Post}{K b:List It}{φ φ':Fr}{σ σ':List aP}{a:List Prop}(h:AM.kW tt CT ds N 100 K φ σ []=aa (b,φ',σ',a))(d:az a)(k:AK X N Qf b .normal φ' σ'):AK X N Qf K .normal φ σ:=AK.kW ja tok c ds 100 h d k
def bq{X:Cx ag}{CT:List (Nat×dt)}(c:bE X CT)(ds:List (Nat×Bool)){N:Nat}{Qf:Post}{K b:List It}{φ φ':Fr}{σ σ':List aP}{a:List Prop}(h:AM.kW tt CT ds N 200 K φ σ []=aa (b,φ',σ',a))(d:az a)(k:AK X N Qf b .normal φ' σ'):AK X N Qf K .normal φ σ:=AK.kW ja tok c ds 200 h d k
def aX{X:Cx ag}(ds:List (Nat×Bool)){N:Nat}{Qf:Post}{K b:List It}{φ φ':Fr}{σ σ':List aP}{a:List Prop}(h:AM.kW tt [] ds N 100 K φ σ []=aa (b,φ',σ',a))(c:az a)(k:AK X N Qf b .normal φ' σ'):AK X N Qf K .normal φ σ:=AK.kW ja tok bE.nil ds 100 h c k
def bH{X:Cx ag}(ds:List (Nat×Bool)){N:Nat}{Qf:Post}{K b:List It}{φ φ':Fr}{σ σ':List aP}{a:List Prop}(h:AM.kW tt [] ds N 200 K φ σ []=aa (b,φ',σ',a))(c:az a)(k:AK X N Qf b .normal φ' σ'):AK X N Qf K .normal φ σ:=AK.kW ja tok bE.nil ds 200 h c k
def cf{X:Cx ag}{CT:List (Nat×dt)}(c:bE X CT){N:Nat}{Qf:Post}{K b:List It}{φ φ':Fr}{σ σ':List aP}{a:List Prop}(h:AM.kW tt CT [] N 100 K φ σ []=aa (b,φ',σ',a))(d:az a)(k:AK X N Qf b .normal φ' σ'):AK X N Qf K .normal φ σ:=AK.kW ja tok c [] 100 h d k
def cx{X:Cx ag}{CT:List (Nat×dt)}(c:bE X CT){N:Nat}{Qf:Post}{K b:List It}{φ φ':Fr}{σ σ':List aP}{a:List Prop}(h:AM.kW tt CT [] N 200 K φ σ []=aa (b,φ',σ',a))(d:az a)(k:AK X N Qf b .normal φ' σ'):AK X N Qf K .normal φ σ:=AK.kW ja tok c [] 200 h d k
def l9(b:Int):Bool:=decide (97<=b)&&decide (b<=101)
theorem O2(b:Int):Ev X 94 [dU b] [] (dB (l9 b)) []:=by
 refine Ev.bQ Tryz.func94 rfl λ_=>?_;by_cases h:97<=b
 .refine aX [(4,ab)] rfl ?_ (AK.bw rfl ?_)<;>simp[h,l9]
 .refine aX [(4,af)] rfl ?_ (AK.bw rfl ?_)<;>simp[h,l9]
def eP(b:UInt8):Bool:=decide (97<=b.toNat)&&decide (b.toNat<=122)
def b6(s:Bs):Bool:=s.all eP
def sQ{s:Bs}(h:∀j,j<s.length->eP (s.getD j 0)=ab):b6 s=ab:=by simp only[b6,List.all_eq_true];grind[List.getElem_of_mem]
def kG{s:Bs}{j:Nat}(h:j<s.length)(b:eP (s.getD j 0)=af):b6 s=af:=by
 cases a:b6 s with
 |false=>rfl
 |true =>
  simp only[b6,List.all_eq_true]at a;grind
theorem E4(s:Bs):Ev X 95 [dS s] [] (dB (b6 s)) []:=by
 refine Ev.bQ Tryz.func95 rfl λe=>?_;have k:=e.str 0 rfl;refine bt rfl ay ?_;refine AK.wM (λi=>i<=s.length/\∀j,j<i->eP (s.getD j 0)=ab) (λi:Nat=>[(0,dS s),(3,dI i)]) (λ_=>[]) (λi=>s.length-i) 0 rfl (by simp) ⟨by omega,by omega⟩ rfl ?_;rintro i ⟨hi,c⟩;by_cases h:i<s.length
 .generalize a:s.getD i 0=b;by_cases f:b.toNat<97
  .refine aX [(7,ab),(13,ab)] rfl ?_ (AK.iD (cp.zero rfl ?_))
   .simp only[az,ky,ba,a];omega
   .rw[az,kG h (by rw[a];simp only[eP,pO,bO];omega)]
  .by_cases g:b.toNat>122
   .refine aX [(7,ab),(13,af),(18,ab)] rfl ?_ (AK.iD (cp.zero rfl ?_))
    .simp only[az,ky,ba,bO,a];omega
    .rw[az,kG h (by rw[a];simp only[eP,pO,bO];omega)]
   .refine aX [(7,ab),(13,af),(18,af)] rfl ?_ (AK.again (i+1) rfl ?_ ?_ ?_ rfl)
    .simp only[az,ky,ba,bO,a,bA];omega
    .simp
    .refine⟨by omega,λj d=>?_⟩;rcases zo.1 d with d|rfl
     .grind
     .rw[a];simp only[eP,bR,ba];omega
    .omega
 .refine aX [(7,af)] rfl (by simp;omega) (AK.leave rfl rfl ?_);refine bt rfl ay (AK.bw rfl ?_);rw[az,sQ (λj d=>c j (by omega))]
end R1
def Ev.args{P:ar}{X:Cx P}{f:aJ}{args CW:List D}{σ σ':List aP}{res:D}(h:Ev X f CW σ res σ')(hl:∀s vs,cg σ s vs args->cg σ s vs CW):Ev X f args σ res σ' :=
 ⟨h.1,λs vs hr hh=>h.2 s vs (hl s vs hr) hh⟩
def kX(a:Nat):D->Option (Nat×(Nat->List C))
 |.e (.one (.c (.sl _ k n es)))=>match aB k a with
  |true=>aa (n,es)
  |false=>match aB n 0 with
   |true=>aa (0,λ_=>[])
   |false=>ae
 |_=>ae
def LM{g:Nat}{d:D}{n:Nat}{es:Nat->List C}(h:kX g d=aa (n,es)){σ:List aP}{s:St}{v:ah}(r:dk σ s v d):Rd s.M v (.sl af g n es):=by
 unfold kX at h;split at h
 .rename_i t k l es';split at h
  .rename_i hk;have e:=bP hk;subst e;cases h;exact(eT r).loose
  .split at h
   .rename_i j;have e:=bP j;subst e;cases h;have r':=eT r;cases r' with
    |sl b off f a i m hk ha hm hr=>exact Rd.sl b off f a i (by simp) (by omega) (by omega) (by omega) (by omega)
   grind
 grind
def AF{α:Type}(enc:α->List C)(b5:α)(l:List α):Nat->List C:=λi=>enc (l.getD i b5)
structure mh(α:Type) where
 k:Nat
 enc:α->List C
 dec:List C->α
 b5:α
 inv:∀a,dec (enc a)=a
 len:∀a,(enc a).length=k
namespace mh
variable {α:Type}(c:mh α)
def list(n:Nat)(es:Nat->List C):List α:=(bg n).map λi=>c.dec (es i)
def fn(l:List α):Nat->List C:=AF c.enc c.b5 l
def fits(n:Nat)(es:Nat->List C):Prop:=∀i,i<n->es i=c.enc (c.dec (es i))
def sl(l:List α):D:=.e (.one (.c (.sl af c.k l.length (c.fn l))))
def CX{n:Nat}{es:Nat->List C}:(c.list n es).length=n:=by simp[list]
def list_fn(l:List α):c.list l.length (c.fn l)=l:=by
 apply rL
 .simp[list]
 .intro i b a;simp[list,fn,AF,aq,br a,c.inv]
def aU(l:List α){n:Nat}:c.fits n (c.fn l):=λi _=>by simp[fn,AF,c.inv]
def O3{n:Nat}{es:Nat->List C}(h:c.fits n es):cv n es (c.fn (c.list n es)):=by intro i hi;rw[h i hi];simp[fn,AF,list,aq,hi]
def jT{d:D}{n:Nat}{es:Nat->List C}(h:kX c.k d=aa (n,es))(a:c.fits n es){σ:List aP}{s:St}{v:ah}(r:dk σ s v d):dk σ s v (c.sl (c.list n es)):=by have e:=LM h r;have b:=e.Dx (c.O3 a);show Rd s.M v (.sl af c.k (c.list n es).length _);rw[c.CX];exact b
end mh
def cK(s:Bs)(i:Nat):Int:=(s.getD i 0).toNat
theorem cN(s:Bs)(j:Int):((iS s j).toNat:Int)=cK s j.toNat:=rfl
abbrev bx:=Bs×Bs
def Ck(cs:List C)(j:Nat):Bs:=match du j cs with|some (.str s)=>s|_=>[]
def xg(cs:List C)(j:Nat):Int:=match du j cs with|some (.int _ s)=>s|_=>0
def cF:mh bx:={k:=2,enc:=λf=>[.str f.1,.str f.2],dec:=λcs=>(Ck cs 0,Ck cs 1),b5:=([],[]),inv:=λ_=>rfl,len:=λ_=>rfl}
namespace R1
variable {X:Cx ag}
def Zm:dt:=λargs σ=>match args,σ with
 |[.e (.one (.c (.int .u8 b)))],[]=>aa (dB (l9 b),[],[])
 |_,_=>ae
def t94:ef X 94 Zm:=by intro args σ res σ' obs h _;unfold Zm at h;grind[O2]
def Xm:dt:=λargs σ=>match args,σ with
 |[.e (.one (.c (.str b)))],[]=>aa (dB (b6 b),[],[])
 |_,_=>ae
def t95:ef X 95 Xm:=by intro args σ res σ' obs h _;unfold Xm at h;grind[E4]
def ct1:List (Nat×dt):=[(94,Zm),(95,Xm)]
def CY:bE X ct1:=bE.cons t94 (bE.cons t95 bE.nil)
def dD(s:Bs):Bool:=if s.length=1 then l9 (cK s 0)else if s.length=3 then l9 (cK s 0)&&(cK s 1==47)&&l9 (cK s 2)else af
theorem Io(s:Bs):Ev X 50 [dS s] [] (dB (dD s)) []:=by
 refine Ev.bQ Tryz.func50 rfl λf=>?_;by_cases e:s.length=1
 .refine aW CY [(6,ab)] rfl ?_ (AK.bw rfl ?_)
  .simp[e]
  .simp[dD,e,cN]
 .by_cases a:s.length=3
  .by_cases b:l9 (cK s 0)=ab
   .by_cases d:cK s 1=47
    .refine aW CY [(6,af),(11,ab),(14,ab),(18,ab)] rfl ?_ (AK.bw rfl ?_)
     .simp[a,cN,b,d]
     .simp[dD,a,b,d,cN]
    .refine aW CY [(6,af),(11,ab),(14,ab),(18,af)] rfl ?_ (AK.bw rfl ?_)
     .simp[a,cN,b,d]
     .simp[dD,a,b,d]
   .refine aW CY [(6,af),(11,ab),(14,af)] rfl ?_ (AK.bw rfl ?_)
    .simp[a,cN,b]
    .simp[dD,a,b]
  .refine aW CY [(6,af),(11,af)] rfl ?_ (AK.bw rfl ?_)
   .simp;omega
   .simp[dD,e,a]
def eg(s:Bs):Bool:=decide (s.length<=40)&&b6 s
theorem Ip(s:Bs):Ev X 51 [dS s] [] (dB (eg s)) []:=by
 refine Ev.bQ Tryz.func51 rfl λb=>?_;by_cases a:s.length<=40
 .refine aW CY [(5,ab)] rfl ?_ (AK.bw rfl ?_)
  .simp;omega
  .simp[eg,a]
 .refine aW CY [(5,af)] rfl ?_ (AK.bw rfl ?_)
  .simp;omega
  .simp[eg,a]
def clash(a b:Bs):Bool:=(a.length != b.length)&&(cK a 0==cK b 0)
def LN(a b:Bs)(h:a≠[])(g:b≠[]):Ev X 52 [dS a,dS b] [] (dB (clash a b)) []:=by
 have d:=List.length_pos_iff.2 h;have e:=List.length_pos_iff.2 g;refine Ev.bQ Tryz.func52 rfl λi=>?_;by_cases f:a.length=b.length
 .refine aX [(9,af)] rfl ?_ (AK.bw rfl ?_)
  .simp[f]
  .simp[clash,f]
 .refine aX [(9,ab)] rfl ?_ (AK.bw rfl ?_)
  .simp[d,e];omega
  .simp[clash,f,cN]
end R1
section
variable {P:ar}{X:Cx P}
def Yields{ι:Type}(X:Cx P)(d:Nat)(ds:List D)(σ:List aP)(res:Bool)(σ':ι->List aP):Prop :=
 ∀s (vs:List ah) (l:Nat),cg σ s vs ds->aF σ s->(∃L,s.β[d]?=aa L/\L.v=.func (.yield l) #[] #[]) ->
  ∃fn tmps assign body,(Instr.yield l vs.toArray).run P s.w=.ok (.round l fn tmps assign body) s.w/\(Instr.yield l vs.toArray).events P s.w #[]=#[⟨.obj l,af,af⟩] /\
  ∀(S:av->St->Prop) (c:aR) (cs:List aR),(∀i s',aF (σ' i) s'->cR σ s (σ' i) s'->fz X S (G (c.finish (.bool res)) cs) s') ->
   fz X S (G (Frame.round l fn tmps assign body .normal) (c::cs)) s
def mF{w:aA}{l:Nat}{r:Loop}(h:w.heap[l]?=aa (.loop r)):(Instr.getLoop l).run P w=.ok r w/\∀es,(Instr.getLoop l).events P w es=es.push ⟨.obj l,af,af⟩:=by
 have c:(getObj l).run P w=.ok (.loop r) w:=by simp only[getObj,Sem.run,h]
 have d:∀es,(getObj l).events P w es=es.push ⟨.obj l,af,af⟩:=λes=>by simp only[getObj,Sem.events,Sem.runT,h];rfl
 constructor
 .simp[Instr.getLoop,c]
 .intro es;simp[Instr.getLoop,c,d]
def pr{w:aA}{l:Nat}{r r':Loop}(h:w.heap[l]?=aa (.loop r)):(setObj l (.loop r')).run P w=.ok () {w with heap:=w.heap.setIfInBounds l (.loop r')}/\∀es,(setObj l (.loop r')).events P w es=es.push ⟨.obj l,ab,af⟩:=by
 constructor
 .simp only[setObj,Sem.run,h]
 .intro es;simp only[setObj,Sem.events,Sem.runT,h];rfl
def Hr{w:aA}{l:Nat}{r:Loop}{args:Array ah}(h:w.heap[l]?=aa (.loop r))(c:args.size=r.params.size):
  (Instr.yield l args).run P w=.ok (.round l r.fn ((r.params.zip args).foldl (λtmps (t,a)=>tmps.setIfInBounds t a) r.tmps) r.assign r.body) w/\(Instr.yield l args).events P w #[]=#[⟨.obj l,af,af⟩]:=by
 obtain⟨d,e⟩:=mF (P:=P) h;constructor
 .simp[Instr.yield,d,c]
 .simp[Instr.yield,d,e,c]
def Hs{w:aA}{l:Nat}{r:Loop}(h:w.heap[l]?=aa (.loop r))(d:r.state=.ready):
  (Instr.beginRound l).run P w=.ok () {w with heap:=w.heap.setIfInBounds l (.loop {r with state:=.busy})}/\(Instr.beginRound l).events P w #[]=#[⟨.obj l,af,af⟩,⟨.obj l,ab,af⟩]:=by
 obtain⟨e,g⟩:=mF (P:=P) h;obtain⟨c,f⟩:=pr (P:=P) (r':={r with state:=.busy}) h;constructor
 .simp[Instr.beginRound,e,c,d]
 .simp[Instr.beginRound,e,g,c,f,d]
def zZ{w:aA}{l:Nat}{r:Loop}(h:w.heap[l]?=aa (.loop r))(j:Option Code):
  (Instr.endRound l j).run P w=.ok (.bool j.isNone) {w with heap:=w.heap.setIfInBounds l (.loop {r with state:=if j.isNone then .ready else .done,pending:=j})}/\(Instr.endRound l j).events P w #[]=#[⟨.obj l,af,af⟩,⟨.obj l,ab,af⟩]:=by
 obtain⟨d,e⟩:=mF (P:=P) h;obtain⟨c,f⟩:=pr (P:=P) (r':={r with state:=if j.isNone then .ready else .done,pending:=j}) h;constructor
 .simp only[Instr.endRound,bL,d,c,bU,dq]
 .simp only[Instr.endRound,aM,d,e,c,f,aO,Sem.events_pure];rfl
def BQ{w:aA}{l:Nat}{r:Loop}(h:w.heap[l]?=aa (.loop r))(c:r.state≠.busy):
  (Instr.endLoop l).run P w=.ok r.pending {w with heap:=w.heap.setIfInBounds l (.loop {r with state:=.exhausted})}/\(Instr.endLoop l).events P w #[]=#[⟨.obj l,af,af⟩,⟨.obj l,ab,af⟩]:=by
 obtain⟨d,g⟩:=mF (P:=P) h;obtain⟨f,e⟩:=pr (P:=P) (r':={r with state:=.exhausted}) h;have i:(r.state==.busy)=af:=by cases j:r.state<;>simp_all
 constructor
 .simp[Instr.endLoop,d,f,c]
 .simp[Instr.endLoop,d,g,e,c]
section steps
variable {b:aR}{a:Act}{k:List Item}{cs:List aR}{w:aA}{main:Bool}
def BR{o:au}{e:ak}{xs:Array ak}{c:Array aj}{l:Nat}(f:o.op=.call {callee:=.value e,args:=xs,argTypes:=c})(d:a.eval e=.func (.yield l) #[] #[]):
  (aw a.eval o).run P w=(Instr.yield l (xs.toList.map a.eval).toArray).run P w/\(aw a.eval o).events P w #[]=(Instr.yield l (xs.toList.map a.eval).toArray).events P w #[]:=by
 have g:xs.map a.eval=(xs.toList.map a.eval).toArray:=by grind
 constructor
 .simp[aw,f,resolve,d,Deferred.ofValue,invoke,g]
 .simp[aw,f,resolve,d,Deferred.ofValue,invoke,g]
def J0{ops:Array au}{i:Nat}{rest:List Nat}{o:au}{l:Nat}{fn:aJ}{tmps:Array ah}{assign body:Code}{w':aA}(f:ops[i]?=aa o)(g:bd o (yielded ops a.tmps)=ab)(hk:b.kind≠.early)(e:(aw a.eval o).run P w=.ok (.round l fn tmps assign body) w'):
  aH P main (G (b.aT a (.inRegion ops (i::rest)::k)) cs) w=.go (G (Frame.round l fn tmps assign body .normal) (b.aT a (.inRegion ops (i::rest)::k)::cs)) w' (Go.Conc.listed P b.fn a o w):=by
 have d:(b.kind==CallKind.early)=af:=by grind
 rw[vf f g (λc h=>by grind[rV])];simp[stepG.apply,e,G,Frame.aT,d,GStep.after,Go.Conc.listed]
def J1{l:Nat}{r:Loop}(d:b.roundOf=aa l)(hk:b.kind≠.early)(h:w.heap[l]?=aa (.loop r))(e:r.state=.ready):
  aH P main (G (b.aT a (.beginRound::k)) cs) w=.go (G (b.aT a k) cs) {w with heap:=w.heap.setIfInBounds l (.loop {r with state:=.busy})} (seen P b.fn #[⟨.obj l,af,af⟩,⟨.obj l,ab,af⟩]):=by
 obtain⟨g,f⟩:=Hs (P:=P) h e;have c:(b.kind==CallKind.early)=af:=by grind
 simp[G,aH,stepG.exec,stepG.apply,Frame.aT,d,c,g,f,GStep.after,Frame.finish]
def BS{l:Nat}{r:Loop}{j:Option Code}{e:List Item}{c:aR}(f:b.roundOf=aa l)(hk:b.kind=.normal)(h:w.heap[l]?=aa (.loop r))(m:(j=ae/\e=[])∨(j=aa .ret/\∃k1,e=.code .ret::k1)∨(∃id k1,j=aa (.exit id)/\e=.code (.exit id)::k1/\exitTo id k1=ae)):
  aH P main (G (b.aT a e) (c::cs)) w=.go (G (c.finish (.bool j.isNone)) cs) {w with heap:=w.heap.setIfInBounds l (.loop {r with state:=if j.isNone then .ready else .done,pending:=j})} (seen P b.fn #[⟨.obj l,af,af⟩,⟨.obj l,ab,af⟩]):=by
 obtain⟨d,g⟩:=zZ (P:=P) h j;rcases m with⟨rfl,rfl⟩|⟨rfl,k1,rfl⟩|⟨id,k1,rfl,rfl,i⟩
 .simp only[Option.isNone_none,cj]at d;simp[G,aH,stepG.exec,Frame.aT,f,d,g,GStep.after,doReturn,hk]
 .simp only[Option.isNone_some,b7,jA]at d;simp[G,aH,stepG.exec,Frame.aT,f,d,g,GStep.after,doReturn,hk]
 .simp only[Option.isNone_some,b7,jA]at d;simp[G,aH,stepG.exec,Frame.aT,f,d,g,GStep.after,doReturn,hk,i]
def D2{l:Nat}{r:Loop}(h:w.heap[l]?=aa (.loop r))(d:r.state≠.busy):
  aH P main (G (b.aT a (.endRangeFunc l::k)) cs) w=.go (G (b.aT a ((r.pending.map Item.code).toList++k)) cs) {w with heap:=w.heap.setIfInBounds l (.loop {r with state:=.exhausted})} (seen P b.fn #[⟨.obj l,af,af⟩,⟨.obj l,ab,af⟩]):=by obtain⟨e,c⟩:=BQ (P:=P) h d;simp[G,aH,stepG.exec,Frame.aT,e,c,GStep.after]
def yd{fn:aJ}{tmps:Array ah}{params:Array Tmp}{assign body:Code}:
  (Instr.enterLoop fn tmps params assign body ae).run P w=.ok (w.heap.size+1,[{target:=.collected w.heap.size,args:=#[]}]) {w with heap:=(w.heap.push (.deferred (aa []))).push (.loop {state:=.ready,pending:=ae,fn,tmps,params,assign,body,defers:=w.heap.size})} /\
  (Instr.enterLoop fn tmps params assign body ae).events P w #[]=#[]:=by
 have c:∀(o:Obj) (w:aA),(newObj o).run P w=.ok w.heap.size {w with heap:=w.heap.push o}:=λo w=>by simp only[newObj,Sem.run]
 have d:∀(o:Obj) (w:aA) es,(newObj o).events P w es=es:=λo w es=>by simp only[newObj,Sem.events,Sem.runT]
 constructor
 .simp[Instr.enterLoop,c];rfl
 .simp[Instr.enterLoop,c,d]
def z0{f:ak}{ps:Array Tmp}{assign body:Code}{F:aJ}{fn:Func}{c:List ah}(p:b.roundOf=ae)(hk:b.kind≠.early)(j:P.funcs[F]?=aa fn)(n:(fn.name== "runtime.NumGoroutine")=af)(h:fn.body.isNone=af)(o:a.eval f=.func (.func F) #[] c.toArray):
  aH P main (G (b.aT a (.code (.rangeFunc f ps assign body)::k)) cs) w =
   .go (G (Frame.enter P F (Value.func (.yield (w.heap.size+1)) #[] #[]::c).toArray .normal) (b.aT {a with defers:={target:=.collected w.heap.size,args:=#[]}::a.defers} (.inRangeFunc (w.heap.size+1)::k)::cs))
    {w with heap:=(w.heap.push (.deferred (aa []))).push (.loop {state:=.ready,pending:=ae,fn:=b.fn,tmps:=a.tmps,params:=ps,assign,body,defers:=w.heap.size})} #[]:=by
 obtain⟨q,r⟩:=yd (P:=P) (w:=w) (fn:=b.fn) (tmps:=a.tmps) (params:=ps) (assign:=assign) (body:=body);have i:(b.kind==CallKind.early)=af:=by grind
 have g:fn.name≠ "runtime.NumGoroutine":=by grind
 have e:fn.body≠ae:=by grind
 have l:∀(d:List Deferred) (t:List Item) (m:FrameMode),({fn:=b.fn,tmps:=a.tmps,todo:=t,defers:=d,mode:=m,kind:=b.kind,roundOf:=b.roundOf}:aR).eval f=.func (.func F) #[] c.toArray:=by intro d t m;rw[<-o];cases f<;>rfl
 simp only[G,aH,stepG.exec,Frame.aT,p]at l⊢;simp[q,r,GStep.after,stepG.apply,resolve,l,Deferred.ofValue,invoke,callFunc,j,g,e,i,seen];rfl
end steps
end
section
variable {P:ar}{X:Cx P}
def aF.z8{σ:List aP}{s:St}(hh:aF σ s){a N:Nat}{φ0:Fr}{r:Loop}(hB:σ[a]?=aa (.loop N φ0 r)){l:Nat}(hl:∃L,s.β[a]?=aa L/\L.v=.func (.yield l) #[] #[]):
  ∃tmps fn df,s.β[a]?=aa ⟨.func (.yield l) #[] #[],[l]⟩/\s.w.heap[l]?=aa (.loop {r with tmps:=tmps,fn:=fn,defers:=df})/\tmps.size=N/\(∀t,dk σ s (tmps.getD t ai) (look φ0 t))/\(∀o,s.M l o=ae):=by obtain⟨L,h1,h2⟩:=hl;obtain⟨l',tmps,fn,df,d,c,f,e,b⟩:=hh.box a _ L hB h1;grind
def aF.z9{σ:List aP}{s:St}(hh:aF σ s){a N:Nat}{φ0:Fr}{r r':Loop}{B':aP}(hB:σ[a]?=aa (.loop N φ0 r)){l:Nat}{tmps:Array ah}{fn df:Nat}(k:s.β[a]?=aa ⟨.func (.yield l) #[] #[],[l]⟩)(A:s.w.heap[l]?=aa (.loop {r with tmps:=tmps,fn:=fn,defers:=df}))(y:tmps.size=N)(g:∀t,dk σ s (tmps.getD t ai) (look φ0 t))(p:∀o,s.M l o=ae)(c:B'=.dead∨B'=.loop N φ0 r'):
  aF (σ.set a B') {s with w:={s.w with heap:=s.w.heap.setIfInBounds l (.loop {r' with tmps:=tmps,fn:=fn,defers:=df})}}/\Step σ s (σ.set a B') {s with w:={s.w with heap:=s.w.heap.setIfInBounds l (.loop {r' with tmps:=tmps,fn:=fn,defers:=df})}}:=by
 have x:l<s.w.heap.size:=hh.lt _ (bJ k) l (by simp);have hk:∀b,b≠l->(s.w.heap.setIfInBounds l (.loop {r' with tmps:=tmps,fn:=fn,defers:=df}))[b]?=s.w.heap[b]?:=λb j=>by grind
 have n:s.β.set a ⟨.func (.yield l) #[] #[],[l]⟩=s.β:=by apply iO;grind
 have m:a<σ.length:=(bY.1 hB).1;have f:gy (.loop N φ0 r) ⟨.func (.yield l) #[] #[],[l]⟩ B' ⟨.func (.yield l) #[] #[],[l]⟩:=by rcases c with rfl|rfl<;>rfl
 have ex:Ext σ s (σ.set a B') {s with w:={s.w with heap:=s.w.heap.setIfInBounds l (.loop {r' with tmps:=tmps,fn:=fn,defers:=df})}}:=by
  refine⟨λ_ _ _ h=>h,λi B L z d=>?_⟩;by_cases e:a=i
  .grind
  .exact⟨B,L,by grind,d,.refl _ _⟩
 have:=hh.gz (M':=s.M) (w':={s.w with heap:=s.w.heap.setIfInBounds l (.loop {r' with tmps:=tmps,fn:=fn,defers:=df})}) (B':=B') (L':=⟨.func (.yield l) #[] #[],[l]⟩) hB k f (by simp) (λb _ j=>hk b (by grind)) (λ_ _ _ _=>rfl) (λ_ _ _ h=>h)
  (λb o v u=>by
   have q:b≠l:=by grind
   rw[<-hh.mem b o v u];simp only[aV]
   grind) (λb j=>by grind) rfl rfl rfl (by
   rcases c with rfl|rfl
   .trivial
   .refine⟨l,tmps,fn,df,rfl,?_,y,λt=>?_,p⟩
    .grind
    .have:=(g t).mono ex hh.len
     grind)
 grind
def AK.yield{ι:Type}{N:Nat}{Qf:Post}{K:List It}{φ:Fr}{σ:List aP}{σ':ι->List aP}{all rest:List au}{o:au}{p:ak}{xs:Array ak}{A:Array aj}{h:Nat}{ds:List D}{res:Bool}(Y:Yields X h ds σ res σ')(U:o.guard=ae)(W:fR N o.dst=ab)(V:o.op=.call {callee:=.value p,args:=xs,argTypes:=A}){N0:Nat}{φ0:Fr}{r:Loop}(C:σ[h]?=aa (.loop N0 φ0 r))(Z:bM φ p=.e (.one (.ref h)))(u:xs.toList.map (bM φ)=ds)(k:∀j,AK X N Qf (.ops all rest::K) .normal (km o.dst (.e (.one (.c (.bool res)))) φ) (σ' j)):AK X N Qf (.ops all (o::rest)::K) .normal φ σ:=by
 intro s a f hh b kk cs S idx hb jm hQ;cases idx with
 |nil=>exact jm.elim
 |cons j idx =>
 refine .next rfl λi n=>?_;have B:=X.iw n;have d:=hh.rely B;have x:=f.rely B hh;have F:=cY x p;rw[Z]at F;obtain⟨_,L,m,y,_⟩:=(show gn _ i _ (.ref h)from F)
 obtain⟨l,tmps,fn,df,I,h4,h5,h6,h7⟩:=d.box h _ L C m;subst I;have v:cg σ i (xs.toList.map a.eval) ds:=by grind[lJ,cY]
 obtain⟨M,E,assign,body,T,y2,R⟩:=Y i (xs.toList.map a.eval) l v d ⟨_,m,rfl⟩;obtain⟨J,Q⟩:=BR (P:=P) (w:=i.w) (a:=a) V y;refine⟨_,i,_,J0 jm.1 (dC U) hb (J.trans T),⟨⟨σ,σ,d,d,.refl _ _⟩,eY.seen ?_⟩,R S _ _ λG s' iY st=>?_⟩
 .rw[Q,y2];exact .one (pd (L:=⟨.func (.yield l) #[] #[],[l]⟩) (bJ m) (by simp))
 have g:=ki (b:=b) (a:=a) (k:=kk) all.toArray j idx (.bool res);rw[jm.1]at g;simp only[n3]at g;rw[g];refine k G s' _ ?_ iY b kk cs S idx hb jm.2 λz σ2 s2 a2 q O h2 mg=>hQ z σ2 s2 a2 q O h2 ((B.stepW.trans st).trans mg);cases H:o.dst with
 |none=>exact x.mono st d.len
 |some t=>exact(x.mono st d.len).put (gA W t H) (show dk (σ' G) s' (.bool res) (.e (.one (.c (.bool res))))from Rd.bool)
def rj:List Tmp->List D->Fr->Fr
 |t::ts,d::ds,φ=>rj ts ds ((t,d)::φ)
 |_,_,φ=>φ
def N3(N:Nat):List Tmp->Bool
 |[]=>ab
 |t::ts=>match bu (t+1) N with|true=>N3 N ts|false=>af
def FY{N:Nat}{σ:List aP}{s:St}:∀{ps:List Tmp}{ds:List D}{vs:List ah}{φ:Fr}{a:Act},cm N σ s φ a->cg σ s vs ds->N3 N ps=ab->cm N σ s (rj ps ds φ) {a with tmps:=(ps.zip vs).foldl (λtmps (t,v)=>tmps.setIfInBounds t v) a.tmps}
 |[],ds,vs,φ,a,h,_,_=>by simpa[rj]using h
 |_::_,[],[],φ,a,h,_,_=>by simpa[rj]using h
 |_::_,[],_::_,φ,a,h,b,_=>b.elim
 |_::_,_::_,[],φ,a,h,b,_=>b.elim
 |t::ts,d::ds,v::vs,φ,a,h,b,c=>by
  simp only[N3]at c;split at c
  .rename_i e;have:=FY (h.put (d:=t) (cV e) b.1) b.2 c;simpa[rj,Act.put]using this
  grind
def RB:Exit->Option (Option Code)
 |.normal=>aa ae
 |.ret=>aa (aa .ret)
 |.exit id=>aa (aa (.exit id))
 |_=>ae
def Yields.intro{ι:Type}{g N:Nat}{φ0:Fr}{r:Loop}{ds:List D}{σ:List aP}{σ':ι->List aP}{j:Option Code}(p:σ[g]?=aa (.loop N φ0 r))(FT:r.state=.ready)(hlen:ds.length=r.params.size)(V:N3 N r.params.toList=ab)(h:AW X N r.assign (λe E σ1=>e=.normal/\σ1[g]?=aa (.loop N φ0 r)/\AW X N r.body (λe φ2 σ2=>RB e=aa j/\σ2[g]?=aa (.loop N φ0 {r with state:=.busy}) /\
   ∃i,D3 (σ2.set g (.loop N φ0 {r with state:=if j.isNone then .ready else .done,pending:=j})) (σ' i)) E (σ1.set g (.loop N φ0 {r with state:=.busy}))) (rj r.params.toList ds φ0) σ):Yields X g ds σ j.isNone σ':=by
 intro s vs l R hh hl;obtain⟨tmps,fn,df,h1,h2,h3,h4,h5⟩:=hh.z8 p hl;have PO:vs.length=r.params.size:=by grind[cg.get]
 obtain⟨y1,y2⟩:=Hr (P:=P) (args:=vs.toArray) h2 (by grind);refine⟨_,_,_,_,y1,y2,λS c cs hS=>?_⟩;let b:aR:={fn:=fn,tmps:=#[],todo:=[],defers:=[],mode:=.run,kind:=.normal,roundOf:=aa l}
 have M:b.kind≠.early:=by simp[b]
 have hf:cm N σ s (rj r.params.toList ds φ0) {tmps:=(r.params.zip vs.toArray).foldl (λtmps (t,a)=>tmps.setIfInBounds t a) tmps,defers:=[]}:=by
  have:=FY (a:={tmps:=tmps,defers:=[]}) (φ:=φ0) ⟨h3,⟨[],ay⟩,h4⟩ R V;have e:(r.params.zip vs.toArray).foldl (λtmps (x:Tmp×ah)=>tmps.setIfInBounds x.1 x.2) tmps=(r.params.toList.zip vs).foldl (λtmps (x:Tmp×ah)=>tmps.setIfInBounds x.1 x.2) tmps:=by rw[<-Array.foldl_toList];simp
  grind
 show fz X S (G (b.aT {tmps:=(r.params.zip vs.toArray).foldl (λtmps (t,a)=>tmps.setIfInBounds t a) tmps,defers:=[]} [.code r.assign,.beginRound,.code r.body]) (c::cs)) s;refine h s _ hf hh b [.beginRound,.code r.body] (c::cs) S M ?_;rintro e E σ1 s1 a1 ⟨rfl,n,q⟩ f1 z I;refine .next rfl λs2 sX=>?_;have K:=X.iw sX;have k:=z.rely K;have f2:=f1.rely K z;have Y:∃L,s2.β[g]?=aa L/\L.v=.func (.yield l) #[] #[]:=by obtain⟨B',L',k1,W,O⟩:=(I.trans K.stepW).box g _ _ p h1;rw[n]at k1;cases k1;exact⟨L',W,O⟩
 obtain⟨Z,fn2,Xd,g1,g2,g3,g4,g5⟩:=k.z8 n Y;have J:=k.z9 (r':={r with state:=.busy}) n g1 g2 g3 g4 g5 (.inr rfl);have y:∀{s:St} {σ:List aP} {L:Loc},s.β[g]?=aa L->L.bs=[l]->eY s #[⟨.obj l,af,af⟩,⟨.obj l,ab,af⟩]:=λ{s σ L} hL M =>
  .two (pd (bJ hL) (by grind)) (pd (bJ hL) (by grind))
 refine⟨_,_,_,J1 (l:=l) rfl M g2 FT,⟨⟨_,_,k,J.1,J.2⟩,eY.seen (y (σ:=σ1) g1 rfl)⟩,?_⟩;have A:=J.2.na k;have Q:=J.1;refine q _ a1 (f2.mono A k.len) Q b [] (c::cs) S M ?_;rintro e φ3 U s3 a3 ⟨hj,o,ii,F⟩ f3 u T;have stA:=((I.trans K.stepW).trans A).trans T;have fin:∀B f,ck s3 f->((j=ae/\B=[])∨(j=aa .ret/\∃k1,B=.code .ret::k1)∨(∃id k1,j=aa (.exit id)/\B=.code (.exit id)::k1/\exitTo id k1=ae)) ->
   ∃g' s' es,aH P X.main (G (b.aT a3 B) (c::cs)) f.w=.go g' s'.w es/\qS f s' es/\fz X S g' s':=by
  intro B f d Xz;have m:=u.rely d;have C:∃L,f.β[g]?=aa L/\L.v=.func (.yield l) #[] #[]:=by obtain⟨B',L',k1,W,O⟩:=(stA.trans d.stepW).box g _ _ p h1;rw[o]at k1;cases k1;exact⟨L',W,O⟩
  obtain⟨aam,fn5,df5,p1,p2,p3,p4,p5⟩:=m.z8 o C;have H:=m.z9 (r':={r with state:=if j.isNone then .ready else .done,pending:=j}) o p1 p2 p3 p4 p5 (.inr rfl);obtain⟨p7,p8,_⟩:=F _ H.1;exact⟨_,_,_,BS (l:=l) rfl rfl p2 Xz,⟨⟨_,_,m,H.1,H.2⟩,eY.seen (y (σ:=U) p1 rfl)⟩,hS ii _ p7 (((stA.trans d.stepW).trans (H.2.na m)).trans (p8.na H.1))⟩
 cases e with
 |normal =>
  cases hj;exact .next rfl λf d=>fin [] f (X.iw d) (.inl ⟨rfl,rfl⟩)
 |ret =>
  cases hj;intro pre;exact .next rfl λf d=>fin _ f (X.iw d) (.inr (.inl ⟨rfl,pre,rfl⟩))
 |exit id =>
  cases hj;intro pre hp;refine .next rfl λf d=>fin _ f (X.iw d) (.inr (.inr ⟨id,_,rfl,rfl,?_⟩));have:=hp [];simpa[exitTo]using this
 |_=>cases hj
end
def kT{P:ar}(X:Cx P)(N:Nat)(c:Code)(Q:Post)(φ:Fr)(σ:List aP):Prop :=
 ∀s a,cm N σ s φ a->aF σ s->∀(b:aR) (k:List Item) (cs:List aR) (S:av->St->Prop),b.kind≠.early->b.roundOf=ae ->
  (∀e φ' σ' s' a',Q e φ' σ'->cm N σ' s' φ' a'->aF σ' s'->cR σ s σ' s'->ends X S b k cs e a' s')->fz X S (G (b.aT a (.code c::k)) cs) s
section
variable {P:ar}{X:Cx P}{N:Nat}{Q:Post}{φ:Fr}{σ:List aP}
def AW.top{c:Code}(h:AW X N c Q φ σ):kT X N c Q φ σ:=λs a f hh b k cs S d _ e=>h s a f hh b k cs S d e
theorem kT.seq{x y:Code}(h:kT X N x (BT (kT X N y Q) Q) φ σ):kT X N (.seq x y) Q φ σ:=by
 intro s a m hh b k cs S g d i;refine .ctl hh rfl (λ_=>oe) λn h1=>?_;refine h n a (m.rely h1 hh) (hh.rely h1) b (.code y::k) cs S g d ?_;intro e φ' σ' s' a' q l j st;have c:=h1.stepW.trans st;cases e with
 |normal=>exact q s' a' l j b k cs S g d λe f σ2 s2 a2 q2 f2 h2 mg=>i e f σ2 s2 a2 q2 f2 h2 (c.trans mg)
 |_=>exact ends.cons (λ_ _=>rfl) (by simp) (i _ _ _ _ _ q l j c)
theorem kT.block{id:Nat}{c:Code}(h:kT X N c (wK id Q) φ σ):kT X N (.block id c) Q φ σ:=by
 intro s a o hh b k cs S m j g;refine .ctl hh rfl (λ_=>rU) λp h1=>?_;refine h p a (o.rely h1 hh) (hh.rely h1) b (.inBlock id::k) cs S m j ?_;intro e φ' σ' s' a' q i f st;have d:=h1.stepW.trans st;cases e with
 |normal =>
  exact .ctl f rfl (λ_=>qU) λs2 h2=>g .normal φ' σ' s2 a' q (i.rely h2 f) (f.rely h2) (d.trans h2.stepW)
 |exit IX =>
  simp only[wK]at q;split at q
  .rename_i e;subst e;intro pre hp;refine .ctl f rfl (λ_=>zy (k':=k) (by rw[hp];simp[exitTo])) λs2 h2=>?_;exact g .normal φ' σ' s2 a' q (i.rely h2 f) (f.rely h2) (d.trans h2.stepW)
  .rename_i n
   intro pre hp;have:=g (.exit IX) φ' σ' s' a' q i f d (pre++[.inBlock id]) (λk'=>by
    rw[lS,hp];have:(id==IX)=af:=by grind
    simp[exitTo,this])
   grind
 |ret=>exact g _ _ _ _ _ q i f d
 |panic ch=>exact g _ _ _ _ _ q i f d
 |goto l=>exact g _ _ _ _ _ q i f d
 |outgrown=>exact g _ _ _ _ _ q i f d
def aF.RD{s:St}(h:aF σ s){o:Nat->Prop}(c:∀b,o b->b<s.w.heap.size/\∀L∈s.β,b∉L.bs):aF σ {s with own:=o} :=
 ⟨h.mem,h.len,λl B L hB hL=>et.carry (σ:=σ) (s:=s) (σ':=σ) (s':={s with own:=o}) ⟨λ_ _ _ h=>h,λ_ B L h a=>⟨B,L,h,a,.refl _ _⟩⟩ h.len (λ_ _=>⟨rfl,λ_=>rfl⟩) (h.box l B L hB hL),h.eB,h.lt,c⟩
def aF.iC{s:St}(h:aF σ s){r:Nat}{o:Nat->Prop}(j:s.own r)(k:∀b,o b->s.own b)(g:¬o r)(f:∀i,s.M r i=ae)(e:s.w.heap[r]?=aa (.deferred (aa []))):
  aF (σ++[.qT]) {s with β:=s.β++[⟨.int .i64 r,[r]⟩],own:=o}/\eu s {s with β:=s.β++[⟨.int .i64 r,[r]⟩],own:=o}:=by
 obtain⟨n,p⟩:=h.own r j;have ex:Ext σ s (σ++[.qT]) {s with β:=s.β++[⟨.int .i64 r,[r]⟩],own:=o}:=by
  refine⟨λ_ _ _ h=>h,λl B L hB hL=>⟨B,L,?_,?_,.refl _ _⟩⟩
  .grind
  grind
 refine⟨⟨h.mem,by simp[h.len],?_,?_,?_,?_⟩,⟨rfl,λ_ _ _ h=>h,λ_ _ _=>rfl,h.mem,?_⟩⟩
 .intro l B L hB hL;rcases fZ hL with c|⟨hl,rfl⟩
  .have hl:l<σ.length:=by rw[<-h.len];grind
   rw[jz hl]at hB;exact(h.box l B L hB c).carry ex h.len λ_ _=>⟨rfl,λ_=>rfl⟩
  .rw[hl,h.len,fT (bh _)]at hB;simp at hB;subst hB;exact⟨r,rfl,e,f⟩
 .intro l l' L L' hL fe b a d;rcases fZ hL with k1|⟨e1,rfl⟩<;>rcases fZ fe with m|⟨e2,rfl⟩
  .exact h.eB l l' L L' k1 m b a d
  .grind
  .grind
  grind
 .intro L hL b a;simp only[fY,fX]at hL;rcases hL with hL|rfl
  .exact h.lt L hL b a
  grind
 .intro b a;obtain⟨q,p2⟩:=h.own b (k b a);grind
 grind
def FX:Option Code->Option Exit
 |none=>aa .normal
 |some .ret=>aa .ret
 |some (.exit id)=>aa (.exit id)
 |_=>ae
def kT.rangeFunc{ι:Type}{f:ak}{ps:Array Tmp}{assign body:Code}{F:aJ}{capD:List D}{res:ι->D}{σ':ι->List aP}{r':ι->Loop}(G9:∀s a,cm N σ s φ a->aF σ s->∃n:List ah,a.eval f=.func (.func F) #[] n.toArray/\cg σ s n capD)(I5:eb X F (.e (.one (.ref σ.length))::capD) (σ++[.loop N φ {state:=.ready,pending:=ae,fn:=0,tmps:=#[],params:=ps,assign:=assign,body:=body,defers:=0}]) res σ')(hl:∀i,(σ' i)[σ.length]?=aa (.loop N φ (r' i))/\(r' i).state≠.busy)(k:∀i,∃e,FX (r' i).pending=aa e/\Q e φ ((σ' i).set σ.length .dead++[.qT])):kT X N (.rangeFunc f ps assign body) Q φ σ:=by
 intro s a fr hh b kk cs S m N1 hQ;obtain⟨⟨fn,UO,W,z⟩,I⟩:=I5;refine .next rfl λd Yo=>?_;have hr:=X.iw Yo;have g:=hh.rely hr;have f1:=fr.rely hr hh;obtain⟨n,hv,E⟩:=G9 d a f1 g;generalize WO:d.w.heap.size=r;have q:=λmain=>z0 (P:=P) (main:=main) (k:=kk) (cs:=cs) (ps:=ps) (assign:=assign) (body:=body) (b:=b) (w:=d.w) N1 m UO W z hv;rw[WO]at q;let w1:aA:={d.w with heap:=d.w.heap.push (.deferred (aa []))}
 let lo:Loop:={state:=.ready,pending:=ae,fn:=b.fn,tmps:=a.tmps,params:=ps,assign:=assign,body:=body,defers:=r}
 let w2:aA:={d.w with heap:=(d.w.heap.push (.deferred (aa []))).push (.loop lo)}
 have IM:w2.heap.size=r+2:=by grind
 have acL:w1.heap.size=r+1:=by grind
 have hk1:∀b,b<d.w.heap.size->w1.heap[b]?=d.w.heap[b]?:=λb m=>by grind
 have Yp:∀b,b<w1.heap.size->w2.heap[b]?=w1.heap[b]?:=λb m=>by grind
 have U:∀b,b<d.w.heap.size->w2.heap[b]?=d.w.heap[b]?:=λb m=>by grind
 have Y:w2.heap[r]?=aa (.deferred (aa [])):=by grind
 have Yq:w2.heap[r+1]?=aa (.loop lo):=by grind
 have nM:∀b,d.w.heap.size<=b->∀o,d.M b o=ae:=λb m o=>by
  cases y:d.M b o with
  |none=>rfl
  |some v=>have:=g.block y;omega
 let L1:Loc:=⟨.func (.yield (r+1)) #[] #[],[r+1]⟩
 let L2:Loc:=⟨.int .i64 r,[r]⟩
 let V:Loop:={state:=.ready,pending:=ae,fn:=0,tmps:=#[],params:=ps,assign:=assign,body:=body,defers:=0}
 obtain⟨g1,g2⟩:=g.grow (M':=d.M) (w':=w2) (by omega) U (λ_ _ _=>rfl) (λb m o v y=>by grind) rfl rfl rfl;have J:Ext σ d (σ++[.loop N φ V]) ⟨d.β++[L1],d.M,w2,d.own⟩:=by
  refine⟨λ_ _ _ h=>h,λl B L hB hL=>⟨B,L,?_,?_,.refl _ _⟩⟩
  .grind
  grind
 obtain⟨a1,a2⟩:=g1.hO (B:=.loop N φ V) (L:=L1) g2 rfl g ⟨r+1,a.tmps,b.fn,r,rfl,Yq,f1.size,λt=>(f1.slot t).mono J g.len,λo=>nM _ (by omega) o⟩ (λb m=>by grind)
 have hD:=a1.RD (o:=λb=>d.own b∨b=r) (by
  rintro b (m|rfl)
  .exact a1.own b m
  .refine⟨by grind,λL hL=>?_⟩;simp only[fY,fX]at hL;rcases hL with hL|rfl
   .intro T;have:=g.lt L hL b T;omega
   grind)
 have d1:=g.lI;obtain⟨e1,e2⟩:=d1.grow (M':=d.M) (w':=w1) (by omega) hk1 (λ_ _ _=>rfl) (λb m o v y=>by grind) rfl rfl rfl;obtain⟨e3,e4⟩:=e1.hO (B:=.dead) (L:=L2) e2 rfl d1 ay (λb m=>by grind)
 obtain⟨e5,e6⟩:=e3.grow (M':=d.M) (w':=w2) (by grind) Yp (λ_ _ _=>rfl) (λb m o v y=>by grind) rfl rfl rfl
 obtain⟨e7,e8⟩:=e5.hO (B:=.dead) (L:=L1) e6 rfl e3 ay (λb m=>by grind);have Xg:eu ⟨d.β++[L2]++[L1],d.M,w2,d.own⟩ ⟨d.β++[L1],d.M,w2,λb=>d.own b∨b=r⟩:=by
  refine⟨rfl,λ_ _ _ h=>h,λ_ _ _=>rfl,a1.mem,?_⟩;rintro b ((m|rfl)|⟨L,hL,m⟩)
  .grind
  .exact .inr ⟨L2,by simp,by grind⟩
  grind
 refine⟨_,⟨d.β++[L2]++[L1],d.M,w2,d.own⟩,_,q X.main,⟨⟨_,_,d1,e7,e4.trans e8⟩,.nil⟩,.ghost Xg (I _ (Value.func (.yield (r+1)) #[] #[]::n) ?_ hD S _ λi TG v s4 H ml R Yr=>?_)⟩
 .refine⟨⟨λB p=>?_,L1,?_,rfl,rfl⟩,?_⟩
  .rw[fT (bh _)]at p;simp at p;subst p;rfl
  .show (d.β++[L1])[σ.length]?=_;rw[<-g.len,fT (bh _)];simp
  .exact E.mono (σ:=σ) (s:=d) (σ':=σ++[.loop N φ V]) (s':=⟨d.β++[L1],d.M,w2,λb=>d.own b∨b=r⟩) ⟨J.mem,J.box⟩ g.len
 have Ys:(b.aT {a with defers:={target:=.collected r,args:=#[]}::a.defers} (.inRangeFunc (r+1)::kk)).finish v=b.aT {a with defers:={target:=.collected r,args:=#[]}::a.defers} (.endRangeFunc (r+1)::kk):=by simp[Frame.finish,Frame.aT]
 refine qb (cs:=cs) (c:=b.aT {a with defers:={target:=.collected r,args:=#[]}::a.defers} (.inRangeFunc (r+1)::kk)) R H λs5 hr5=>?_;rw[Ys];refine .next rfl λs6 Yt=>?_;have Z:=X.iw Yt;have x:=(R.rely hr5).rely Z;have O:=(Yr.trans hr5.stepW).trans Z.stepW;obtain⟨A,UP⟩:=hl i;have hLl:∃L,s6.β[σ.length]?=aa L/\L.v=.func (.yield (r+1)) #[] #[]:=by
  obtain⟨B',L',k1,k2,k3⟩:=O.box σ.length (.loop N φ V) L1 (show(σ++[aP.loop N φ V])[σ.length]?=_ from List.getElem?_concat_length) (by show(d.β++[L1])[σ.length]?=_;rw[<-g.len,fT (bh _)];simp)
  rw[A]at k1;cases k1;exact⟨L',k2,k3⟩
 obtain⟨K,fn6,df6,p1,p2,p3,p4,p5⟩:=x.z8 A hLl;obtain⟨q1,q2⟩:=x.z9 (r':={r' i with state:=.exhausted}) (B':=.dead) A p1 p2 p3 p4 p5 (.inl rfl);refine⟨_,_,_,D2 p2 UP,⟨⟨_,_,x,q1,q2⟩,eY.seen (.two (pd (bJ p1) (by simp)) (pd (bJ p1) (by simp)))⟩,?_⟩;have j:=O.trans (q2.na x);generalize hs7:({s6 with w:={s6.w with heap:=s6.w.heap.setIfInBounds (r+1) (.loop {{r' i with state:=.exhausted}with tmps:=K,fn:=fn6,defers:=df6})}}:St)=s7 at q1 q2 j;have h7r:s7.own r:=by rw[j.own];grind
 have h7d:s7.w.heap[r]?=aa (.deferred (aa [])):=by rw[j.fb r (.inr rfl)];exact Y
 have h7M:∀o,s7.M r o=ae:=λo=>by rw[j.iV r (by grind) (λL hL=>(hD.own r (.inr rfl)).2 L hL)];grind
 obtain⟨t1,t2⟩:=q1.iC (r:=r) (o:=d.own) h7r (λb m=>by rw[j.own];grind) (λT=>by have:=(g.own r T).1;omega) h7M h7d;refine .ghost t2 ?_;have C:cR σ d ((σ' i).set σ.length .dead++[.qT]) {s7 with β:=s7.β++[⟨.int .i64 r,[r]⟩],own:=d.own}:=by
  refine⟨?_,λb m=>?_,λb o v y=>j.mem b o v y,λb m hn o=>?_,λL hL b m=>?_,λl B L hB hL=>?_,j.os,j.tape,j.output,rfl⟩
  .grind
  .show s7.w.heap[b]?=_;rw[j.fb b (.inl m)];exact U b (g.own b m).1
  .show s7.M b o=_;rw[j.iV b (by grind) (λL hL=>?_)];grind
  .simp only[fY,fX]at hL;rcases hL with hL|rfl
   .rcases j.vd L hL b m with h1|⟨L0,h1,h2⟩
    .grind
    grind
   grind
  .have QW:=(bY.1 hB).1;have QX:=(bY.1 hL).1;obtain⟨B',L',k1,k2,k3⟩:=j.box l B L (by grind) (by grind);grind
 have fF:cm N ((σ' i).set σ.length .dead++[.qT]) {s7 with β:=s7.β++[⟨.int .i64 r,[r]⟩],own:=d.own} φ {a with defers:={target:=.collected r,args:=#[]}::a.defers}:=by
  have y:=f1.mono C g.len;obtain⟨ls,RE⟩:=f1.defers;refine⟨y.size,⟨((σ' i).set σ.length .dead).length::ls,⟨⟨?_,⟨.int .i64 r,[r]⟩,r,?_,rfl,rfl⟩,λT=>?_,RE.mono C.ext⟩⟩,y.slot⟩
  .grind
  .show (s7.β++_)[_]?=_;rw[<-q1.len,fT (bh _)];simp
  .have h1:=RE.BU _ T;grind
 obtain⟨e,p,hq⟩:=k i;have u:=hQ e φ _ _ _ hq fF t1 (hr.stepW.trans C);revert p;show FX (r' i).pending=aa e->fz X S (G (b.aT _ (((r' i).pending.map Item.code).toList++kk)) cs) _;intro p;cases hp:(r' i).pending with
 |none=>rw[hp]at p;cases p;exact u
 |some c =>
  rw[hp]at p;cases c<;>simp only[FX,reduceCtorEq,dn]at p
  .subst p;exact u [] (λ_=>rfl)
  .subst p;exact u kk
def cm.callee{t:Nat}{F:aJ}{cap:List C}(hl:look φ t=.e (.one (.c (.fn (.func F) [] cap)))):∀s a,cm N σ s φ a->aF σ s->∃b:List ah,a.eval (.tmp t)=.func (.func F) #[] b.toArray/\cg σ s b (fJ cap):=by
 intro s a d _;have h:=d.slot t;rw[hl]at h;have h:=eT h;show ∃b:List ah,a.tmps.getD t ai=.func (.func F) #[] b.toArray/\_;generalize a.tmps.getD t ai=v at h;cases h with
 |fn fs cs hl Dq f1 f2 h1 h2 r1 r2 =>
  grind[nk]
def eb.D4{ι:Type}{f:aJ}{fn:Func}{c:Code}{args:List D}{σ':ι->List aP}{res:ι->D}(l:P.funcs[f]?=aa fn)(d:(fn.name== "runtime.NumGoroutine")=af)(m:fn.body=aa c)(g:bu args.length fn.ntmps=ab)(h:Fits args σ->kT X fn.ntmps c (λe φ σ1=>∃j,cp fn σ.length (res j) (σ' j) e φ σ1) (iZ 0 args) σ):eb X f args σ res σ':=by refine⟨⟨fn,l,d,by grind⟩,λs0 vs hr hh=>?_⟩;exact(eb.Qa l d m (cV g) λs a f i b k cs S hk N1 hQ=>h ⟨s0,vs,hr,hh⟩ s a f i b k cs S hk N1 hQ).2 s0 vs hr hh
def Yu(fn:Func)(res:D)(σ':List aP):Post:=λe φ σ1 =>
 (e=.ret∨e=.normal)/\σ1=σ'/\lA σ'=ab/\∃ds d ps,x6 φ fn.results.toList=aa ds/\rX ds=aa d/\Ds d res=aa ps/\az ps
def eb.J2{ι:Type}{f:aJ}{fn:Func}{c:Code}{args:List D}{σ':ι->List aP}{res:ι->D}(q:P.funcs[f]?=aa fn)(k:(fn.name== "runtime.NumGoroutine")=af)(F:fn.body=aa c)(g:bu args.length fn.ntmps=ab)(h:AW X fn.ntmps c (λe φ σ1=>∃j,Yu fn (res j) (σ' j) e φ σ1) (iZ 0 args) σ):eb X f args σ res σ':=by
 refine⟨⟨fn,q,k,by grind⟩,λs vs hr hh S cs hS=>?_⟩;obtain⟨hl,E⟩:=cg.get hr;let b:aR:={fn:=f,tmps:=#[],todo:=[],defers:=[],mode:=.run,kind:=.normal,roundOf:=ae}
 have a:Frame.enter P f vs.toArray .normal=b.aT {tmps:=vs.toArray++Array.replicate (fn.ntmps-vs.toArray.size) ai,defers:=[]} [.code c]:=by simp[Frame.enter,Frame.aT,q,F,b]
 rw[a];have g:=cV g;refine h s {tmps:=vs.toArray++Array.replicate (fn.ntmps-vs.toArray.size) ai,defers:=[]} ⟨by grind,⟨[],ay⟩,λt=>?_⟩ hh b [] cs S (by simp[b]) ?_
 .rw[om];simp only[lk,cj,lG];have:=E t;rcases cC t vs.length with J|y
  .have e:(vs.toArray++Array.replicate (fn.ntmps-vs.toArray.size) ai).getD t ai=(vs[t]?).getD ai:=by simp only[dM];grind
   grind
  .rw[rG (by omega)];trivial
 .rintro e φ' σ1 s1 a1 ⟨H,o,rfl,n,ds,d,ps,h1,h2,u,A⟩ B m st;have fin:∀(fr:aR) s2,ck s1 s2->fr.fn=f->fr.tmps=a1.tmps->fr.defers=a1.defers->fr.mode=.returning->fr.kind=.normal->fz X S (G fr cs) s2:=by
   intro fr s2 sX e1 e2 e3 e4 e5;have p:=B.rely sX m;obtain⟨v,x,C,z⟩:=ue (P:=P) p h1 h2;obtain⟨ls,i⟩:=p.defers;have I:a1.defers=[]:=by
    cases ls with
    |nil=>cases r:a1.defers with
     |nil=>rfl
     |cons d ds=>rw[r]at i;exact i.elim
    |cons l ls=>exact absurd rfl (nq n _ (bJ (i.BU l (by simp))))
   refine hS H fr v _ ⟨e1,e4,by grind,e5,fn,by grind,λw _=>?_⟩ (oo u A C) (m.rely sX) (st.trans sX.stepW);rw[e2];exact⟨x w,λe o=>by rw[z w #[]]at o;grind⟩
  rcases o with rfl|rfl
  .intro pre;exact .ctl m rfl (λ_=>DC rfl) λs2 sX=>fin _ s2 sX rfl rfl (iQ _) rfl rfl
  .exact .ctl m rfl (λ_=>DD rfl) λs2 sX=>fin _ s2 sX rfl rfl (iQ _) rfl rfl
end
structure Kt{P:ar}(X:Cx P)(N:Nat)(ops:Array au)(φ:Fr)(σ:List aP)(x:Nat->D)(c:Nat->Fr)(idx:Nat->Option Nat)(last:Nat):Prop where
 back:∀i o,ops[i]?=aa o->∀e∈o.after,dj e=ab->e.on<i
 Jp:∀i o d,ops[i]?=aa o->o.dst=aa d->idx d=aa i/\d<N
 x7:∀d i,idx d=aa i->∃o,ops[i]?=aa o/\o.dst=aa d
 one:∀i o,ops[i]?=aa o->i≠last->OA X N ops.toList o (c i) σ (x i) σ
 TG:∀i o,ops[i]?=aa o->i≠last->∀t σ s v,dk σ s v (match idx t with|some j=>(if ∃e∈o.after,dj e=ab/\e.on=j then x j else .any)|none=>look φ t)->dk σ s v (look (c i) t)
 lst:∀o,ops[last]?=aa o->∀j,j<ops.size->j≠last->∃e∈o.after,dj e=ab/\e.on=j
 has:last<ops.size
section
variable {P:ar}{X:Cx P}{N:Nat}{ops:Array au}{φ:Fr}{σ:List aP}{x:Nat->D}{c:Nat->Fr}{idx:Nat->Option Nat}{last:Nat}
theorem B8{a t:Nat}{L:Array Bool}(h:∀i,i<ops.size->L.getD i ab=ab):Region.linearise.go .any ops a t L []=[]:=by
 cases a with
 |zero=>exact wj t L
 |succ n =>
  have b:a9 .any ops L=[]:=by
   cases b:a9 .any ops L with
   |nil=>rfl
   |cons y e =>
    have d:y∈a9 .any ops L:=by grind
    grind[mem_ready]
  grind[pe]
def Kt.arr(h:Kt X N ops φ σ x c idx last){R:av->St->Prop}{b:aR}{kk:List Item}{cs:List aR}(M:b.kind≠.early){s0:St}(hQ:∀s a,a.tmps.size=N->(∀t,dk σ s (a.tmps.getD t ai) (match idx t with|some j=>if j=last then .any else x j|none=>look φ t))->a.defers=[]->aF σ s->cR σ s0 σ s->fz X R (G (b.aT a (.inRegion ops [last]::kk)) cs) s):
  ∀(f:Nat) (L:Array Bool),L.size=ops.size->(L.toList.filter (λb=>!b)).length<=f->¬L.getD last af=ab ->
   (∀i o,ops[i]?=aa o->L.getD i af=ab->∀e∈o.after,dj e=ab->L.getD e.on af=ab) ->
   ∀(s:St) (a:Act),IQ N σ s (gj φ x idx L) a->a.defers=[]->aF σ s->cR σ s0 σ s ->
   ∀t,fz X R (G (b.aT a (.inRegion ops (Region.linearise.go .any ops f t L [])::kk)) cs) s:=by
 intro f;induction f with
 |zero =>
  intro L hs hf l Q s a g F hh st t;exfalso;have hm:L[last]'(by have:=h.has;omega)∈L.toList:=by simp
  have W:=h.has;cases M:L[last]'(by omega)with
  |true=>exact l (by simp[dM,fU (by omega:last<L.size),M])
  |false =>
   have:L[last]'(by omega)∈L.toList.filter (λb=>!b):=lf.2 ⟨hm,by grind⟩;grind
 |succ f ih =>
  intro L hs hf l Q s a g F hh st t;rw[pe];cases I:(a9 .any ops L)[t % (a9 .any ops L).length]? with
  |none =>
   exfalso;have hr:a9 .any ops L=[]:=by
    cases hr:a9 .any ops L with
    |nil=>rfl
    |cons y ys =>
     grind[Nat.mod_lt]
   have J:∀i,i<ops.size->L.getD i af=ab:=by
    intro i;induction i using Nat.strongRecOn with
    |_ i ihi =>
     intro hi;cases M:L.getD i af with
     |true=>rfl
     |false =>
      have hm:i∈a9 .any ops L:=mem_ready.2 ⟨ops[i],fU hi,by
       grind,λe U w=>by
       have:=h.back i _ (fU hi) e U w
       grind⟩
      grind
   exact l (J last h.has)
  |some i =>
   have hi:=bJ I;obtain⟨o,E,W2,Q9⟩:=mem_ready.1 hi;have W:i<ops.size:=(ij.1 E).1;have H:¬L.getD i af=ab:=by grind
   by_cases z:i=last
   .subst z;have A:Region.linearise.go .any ops f (t / (a9 .any ops L).length) (L.setIfInBounds i ab) []=[]:=by
     refine B8 λj hj=>?_;have hj2:(L.setIfInBounds i ab).getD j af=ab:=by
      rw[eJ (by omega)];by_cases e:j=i
      .grind
      .obtain⟨ed,U,w,rfl⟩:=h.lst o E j hj e;grind
     grind
    simp only[A];refine hQ s a g.size (λt=>?_) F hh st;have:=g.slot t;unfold gj at this;cases k:idx t with
    |none=>grind
    |some j =>
     simp only[k]at this⊢;obtain⟨oj,u,_⟩:=h.x7 _ _ k;by_cases e:j=i
     .rw[bl e];trivial
     .rw[aZ e];obtain⟨ed,U,w,rfl⟩:=h.lst o E j (ij.1 u).1 e;grind
   have r:(L.setIfInBounds i ab).size=ops.size:=by grind
   have q:((L.setIfInBounds i ab).toList.filter (λb=>!b)).length<=f:=by
    have h1:L.toList[i]?=aa af:=by rw[zq,fU (by omega:i<L.size)];simpa[dM,fU (by omega:i<L.size)]using H
    grind[count_set]
   have K:∀j o',ops[j]?=aa o'->(L.setIfInBounds i ab).getD j af=ab->∀e∈o'.after,dj e=ab->(L.setIfInBounds i ab).getD e.on af=ab:=by grind[eJ]
   have p:¬(L.setIfInBounds i ab).getD last af=ab:=by grind[eJ]
   have S:cm N σ s (c i) a:=g.Jo λt σ s v C=>h.TG i o E z t σ s v (by
    unfold gj at C;cases k:idx t with
    |none=>grind
    |some j =>
     simp only[k]at C⊢;split
     .grind
     .trivial)
   have B:∀(s':St) (v:ah),cR σ s σ s'->dk σ s' v (x i)->IQ N σ s' (gj φ x idx (L.setIfInBounds i ab)) (a.put o.dst v):=by
    intro s' v m C;cases F:o.dst with
    |none =>
     refine⟨g.size,g.defers.imp λ_ h1=>h1.mono m.ext,λt=>?_⟩;have n:=(g.slot t).mono m.ext hh.len;simp only[Act.put];unfold gj at n⊢;cases k:idx t with
     |none=>grind
     |some j =>
      simp only[k]at n⊢;obtain⟨oj,u,Z⟩:=h.x7 _ _ k;grind[eJ]
    |some d =>
     obtain⟨T,O⟩:=h.Jp i o d E F;refine⟨by simp[Act.put,g.size],g.defers.imp λ_ h1=>h1.mono m.ext,λt=>?_⟩;simp only[Act.put];by_cases e:d=t
     .subst e;have Y:d<a.tmps.size:=by rw[g.size];exact O
      simp only[dM,vH Y,im];unfold gj;simp only[T];rw[bl ((eJ (by omega)).2 (.inl rfl))];exact C
     .have n:=(g.slot t).mono m.ext hh.len;simp only[dM]at n⊢;rw[vJ e];unfold gj at n⊢;cases k:idx t with
      |none=>grind
      |some j =>
       simp only[k]at n⊢;obtain⟨oj,u,Z⟩:=h.x7 _ _ k;grind[eJ]
   have:=h.one i o E z s a S hh b kk cs R i (Region.linearise.go .any ops f (t / (a9 .any ops L).length) (L.setIfInBounds i ab) []) M (by grind);simp only[oV]at this;exact this λv s' C V m=>ih _ r q p K s' _ (B _ _ m C) (by cases o.dst<;>exact F) V (st.trans m) _
theorem Kt.region(h:Kt X N ops φ σ x c idx last)(z:P.follows Departure.mixedOrders=ab){r:av->St->Prop}{b:aR}{kk:List Item}{cs:List aR}(u:b.kind≠.early){s0:St}{a0:Act}{id:Nat}(f0:cm N σ s0 φ a0)(p:a0.defers=[])(n:aF σ s0)(v:∀s a,a.tmps.size=N->(∀t,dk σ s (a.tmps.getD t ai) (match idx t with|some j=>if j=last then .any else x j|none=>look φ t))->a.defers=[]->aF σ s->cR σ s0 σ s->fz X r (G (b.aT a (.inRegion ops [last]::kk)) cs) s):
  fz X r (G (b.aT a0 (.code (.region id ops ab)::kk)) cs) s0:=by
 refine .next rfl λg e=>?_;have e:=X.iw e;have f:=n.rely e;have m:=f0.rely e n;have k:Step σ g σ {g with w:={g.w with drawn:=g.w.drawn+1}}:=Step.same rfl rfl rfl rfl;have l:aF σ {g with w:={g.w with drawn:=g.w.drawn+1}}:=f.same rfl;have q:=e.stepW.trans (k.na f);refine⟨_,{g with w:={g.w with drawn:=g.w.drawn+1}},#[],lV,⟨⟨σ,σ,f,l,k⟩,.nil⟩,?_⟩;simp only[Region.schedule,z,Bool.true_or,cj];refine h.arr u (s0:=s0) v ops.size _ (by simp) (by simp) ?_ ?_ _ a0 ?_ p l q _
 .simp[dM,mS];split<;>simp
 .intro i o A hi;simp[dM,mS]at hi;split at hi<;>simp at hi
 .have d:=m.mono (k.na f) f.len;refine⟨d.size,d.defers,λt=>?_⟩;unfold gj;cases y:idx t with
  |none=>exact d.slot t
  |some j =>
   simp only;rw[aZ]
   .exact d.slot t
   .simp[dM,mS];split<;>simp
end
def mE{P:ar}(X:Cx P)(N:Nat)(all:List au)(o:au)(φ:Fr)(σ:List aP){ι:Type}(x:ι->D)(σ':ι->List aP):Prop :=
 ∀s a,cm N σ s φ a->aF σ s->∀(b:aR) (k:List Item) (cs:List aR) (S:av->St->Prop) (i:Nat) (rest:List Nat),b.kind≠.early->all.toArray[i]?=aa o ->
  (∀j v s',dk (σ' j) s' v (x j)->aF (σ' j) s'->cR σ s (σ' j) s'->fz X S (G (b.aT (a.put o.dst v) (.inRegion all.toArray rest::k)) cs) s')->fz X S (G (b.aT a (.inRegion all.toArray (i::rest)::k)) cs) s
def Ae:List au->Nat->(Nat->D)->List (Option Nat×D)
 |[],_,_=>[]
 |o::r,i,x=>(o.dst,x i)::Ae r (i+1) x
def wO{x:Nat->D}:∀{l:List au}{k j:Nat},(Ae l k x)[j]?=(l[j]?).map λo=>(o.dst,x (k+j))
 |[],k,j=>by simp[Ae]
 |o::r,k,0=>by simp[Ae]
 |o::r,k,j+1=>by simp only[Ae,nV];rw[wO,show k+1+j=k+(j+1) by omega]
def jZ(all:List au)(φ:Fr)(x:Nat->D)(i:Nat):Fr:=jo (λj=>ia j (bT (all.getD i jy).after.toList)) 0 (Ae all 0 x) (uM all φ)
def MZ(all:List au)(φ:Fr)(x:Nat->D):Fr:=jo (λ_=>ab) 0 (Ae all 0 x) (uM all φ)
def oq(N:Nat):List au->Bool
 |[]=>ab
 |o::r=>match fR N o.dst with|true=>oq N r|false=>af
def yA{N:Nat}:∀{l:List au},oq N l=ab->∀(i:Nat)(o:au),l[i]?=aa o->fR N o.dst=ab
 |[],_,i,o,h=>by grind
 |p::r,h,i,o,hi=>by
  simp only[oq]at h;split at h
  .rename_i a;cases i with
   |zero=>grind
   |succ i=>exact yA h i o (by grind)
  grind
def rY:List au->Nat->Bool
 |[],_=>ab
 |o::r,i=>match TJ i (bT o.after.toList)with|true=>rY r (i+1)|false=>af
def B4:∀{l:List au}{k:Nat},rY l k=ab->∀(i:Nat)(o:au),l[i]?=aa o->∀e∈bT o.after.toList,e<k+i
 |[],_,_,i,o,h=>by grind
 |p::r,k,h,i,o,hi=>by
  simp only[rY]at h;split at h
  .rename_i b;cases i with
   |zero=>simp at hi;subst hi;exact DM b
   |succ i=>intro e a;have:=B4 h i o (by grind) e a;omega
  grind
def Af(pre:Nat->Bool):List Nat->Bool
 |[]=>af
 |e::r=>match pre e with|true=>Af pre r|false=>ab
theorem yB{pre:Nat->Bool}:∀{l:List Nat},Af pre l=ab->∃e∈l,pre e=af
 |[],h=>by cases h
 |e::r,h=>by
  simp only[Af]at h;split at h
  .obtain⟨c,a,b⟩:=yB h;grind
  grind
def Ag(pre:Nat->Bool)(m:Nat):List au->Nat->Bool
 |[],_=>ab
 |o::r,i=>match pre i with
  |true=>Ag pre m r (i+1)
  |false=>match aB i m with
   |true=>Ag pre m r (i+1)
   |false=>match Af pre (bT o.after.toList)with|true=>Ag pre m r (i+1)|false=>af
theorem F3{pre:Nat->Bool}{m:Nat}:∀{l:List au}{k:Nat},Ag pre m l k=ab->∀(i:Nat)(o:au),l[i]?=aa o->pre (k+i)=af->k+i≠m->∃e∈bT o.after.toList,pre e=af
 |[],_,_,i,o,h=>by grind
 |p::r,k,h,i,o,hi=>by
  intro c a;simp only[Ag]at h;cases i with
  |zero =>
   simp at hi;subst hi;simp only[ir]at c a;grind[Nat.eq_of_beq_eq_true,yB]
  |succ i =>
   have b:Ag pre m r (k+1)=ab:=by grind
   exact F3 b i o (by grind) (by grind) (by omega)
section
variable {P:ar}{X:Cx P}{N:Nat}{ops:Array au}{φ:Fr}{σ:List aP}{idx:Nat->Option Nat}
def N5{x:Nat->D}{s:St}{a:Act}{L:Array Bool}{i:Nat}{o:au}(c:∀t σ s v,dk σ s v (match idx t with|some j=>(if ∃e∈o.after,dj e=ab/\e.on=j then x j else .any)|none=>look φ t)->dk σ s v (look (jZ ops.toList φ x i) t))(d:IQ N σ s (gj φ x idx L) a)(g:∀e∈o.after,dj e=ab->L.getD e.on af=ab):cm N σ s (jZ ops.toList φ x i) a:=d.Jo λt σ s v f=>c t σ s v (by
 unfold gj at f;cases b:idx t with
 |none=>grind
 |some j =>
  simp only[b]at f⊢;split
  .grind
  .trivial)
def Hv{x y:Nat->D}{σ2:List aP}{s s':St}{a:Act}{v:ah}{L:Array Bool}{i:Nat}{o:au}(f:∀d,o.dst=aa d->idx d=aa i/\d<N)(p:∀d j,idx d=aa j->∃o,ops[j]?=aa o/\o.dst=aa d)(z:ops[i]?=aa o)(w:i<L.size)(r:∀j,L.getD j af=ab->y j=x j)(c:s.β.length=σ.length)(st:cR σ s σ2 s')(b:IQ N σ s (gj φ x idx L) a)(q:dk σ2 s' v (y i)):IQ N σ2 s' (gj φ y idx (L.setIfInBounds i ab)) (a.put o.dst v):=by
 have old:∀t,idx t≠aa i->dk σ2 s' (a.tmps.getD t ai) (gj φ y idx (L.setIfInBounds i ab) t):=by intro t A;have n:=(b.slot t).mono st.ext c;unfold gj at n⊢;grind[eJ]
 cases u:o.dst with
 |none =>
  refine⟨b.size,b.defers.imp λ_ l=>l.mono st.ext,λt=>?_⟩;refine old t λh=>?_;grind
 |some d =>
  obtain⟨k,g⟩:=f d u;refine⟨by simp[Act.put,b.size],b.defers.imp λ_ l=>l.mono st.ext,λt=>?_⟩;simp only[Act.put];by_cases e:d=t
  .subst e;have m:d<a.tmps.size:=by rw[b.size];exact g
   simp only[dM,vH m,im];unfold gj;simp only[k];rw[bl ((eJ w).2 (.inl rfl))];exact q
  .have:=old t (λh=>by grind)
   simp only[dM]at this⊢;grind
def Kb{back:∀i o,ops[i]?=aa o->∀e∈o.after,dj e=ab->e.on<i}{L:Array Bool}(h:L.size=ops.size)(f:a9 .any ops L=[]):∀i,i<ops.size->L.getD i af=ab:=by
 intro i;induction i using Nat.strongRecOn with
 |_ i b =>
  intro hi;cases d:L.getD i af with
  |true=>rfl
  |false =>
   have g:i∈a9 .any ops L:=mem_ready.2 ⟨ops[i],fU hi,by
    grind,λe c a=>by grind⟩
   grind
def D9{L:Array Bool}{t:Nat}(a:(a9 .any ops L)[t % (a9 .any ops L).length]?=ae):a9 .any ops L=[]:=by
 cases c:a9 .any ops L with
 |nil=>rfl
 |cons y b =>
  grind[Nat.mod_lt]
theorem Ah{L:Array Bool}(e:L.size=ops.size)(d:(L.toList.filter (λb=>!b)).length<=0):∀i,i<ops.size->L.getD i af=ab:=by
 intro i hi;have c:L[i]'(by omega)∈L.toList:=by simp
 cases a:L[i]'(by omega)with
 |true=>simp[dM,fU (by omega:i<L.size),a]
 |false =>
  have:L[i]'(by omega)∈L.toList.filter (λb=>!b):=lf.2 ⟨c,by grind⟩;grind
end
def qF(xs:List UInt8):List ah:=xs.map λx=>.int .u8 x.toNat
theorem vg{xs:List UInt8}:(qF xs).length=xs.length:=by simp[qF]
def Nm{xs b:List UInt8}:qF (xs++b)=qF xs++qF b:=by simp[qF]
def o7(bf:Option (Nat×Nat))(n:Nat):ah:=match bf with|none=>.slice ae 0 0|some (g,cap)=>.slice (aa ⟨g,0,ae⟩) n cap
def BB(T E:aj)(a:Bool)(v1:ah)(bf:Option (Nat×Nat))(xs:List UInt8)(f:Nat):ah->(Nat->Option Obj)->Prop:=λv d =>
 ∃b,v=.pointer (aa ⟨b,0,ae⟩)/\cD v1=ab/\d b=aa (.cells #[if a then v else .pointer ae,v1] T (0,0)) /\
 match bf with
 |none=>xs=[]/\∀c,(d c).isSome=ab↔c=b
 |some (g,cap)=>g≠b/\xs.length<=cap/\0<cap/\cap<=9223372036854775807/\f<=xs.length/\(∃e,(qF xs++e).length=cap/\d g=aa (.cells (qF xs++e).toArray E (0,f)))/\∀c,(d c).isSome=ab↔c=b∨c=g
section
variable {P:ar}{X:Cx P}{N:Nat}{m:List (Nat×TI)}{o:au}{k:ak->D}{σ:List aP}{l:Nat}{T E:aj}{a:Bool}{v1:ah}{bf:Option (Nat×Nat)}{xs:List UInt8}{f:Nat}{s:St}
structure vM(P:ar)(σ:List aP)(s:St)(l:Nat)(T E:aj)(a:Bool)(v1:ah)(bf:Option (Nat×Nat))(xs:List UInt8)(f:Nat)(L:Loc)(b:Nat)(ch:Nat->Option Obj):Prop where
 β:s.β[l]?=aa L
 v:L.v=.pointer (aa ⟨b,0,ae⟩)
 bb:BB T E a v1 bf xs f L.v ch
 heap:∀(b:Nat) (o:Obj),ch b=aa o->s.w.heap[b]?=aa o
 bs:∀b,b∈L.bs↔(ch b).isSome=ab
 M:∀b∈L.bs,∀o,s.M b o=ae
 ch:ch b=aa (.cells #[if a then L.v else .pointer ae,v1] T (0,0))
 cell:cD v1=ab
def BB.row(hh:aF σ s)(hl:σ[l]?=aa (.b8 (BB T E a v1 bf xs f))):∃L b ch,vM P σ s l T E a v1 bf xs f L b ch:=by
 have c:l<s.β.length:=by rw[hh.len];grind
 have d:=br c;generalize s.β[l]=L at d;obtain⟨ch,g,h1,h2,j⟩:=hh.box l _ L hl d;have e:=g;obtain⟨b,h,n,i,_⟩:=e;exact⟨L,b,ch,d,h,g,h1,h2,j,i,n⟩
def vM.mem{L:Loc}{b:Nat}{ch:Nat->Option Obj}(r:vM P σ s l T E a v1 bf xs f L b ch):b∈L.bs:=(r.bs b).2 (by rw[r.ch];rfl)
def vM.ptr{L:Loc}{b:Nat}{ch:Nat->Option Obj}(r:vM P σ s l T E a v1 bf xs f L b ch){v:ah}{off:Nat}(h:dk σ s v (.e (.one (.ptr l off)))):v=.pointer (aa ⟨b,off,ae⟩):=by obtain⟨_,d,c,h1,h2,rfl⟩:=(h:gn σ s v (.ptr l off));rw[r.β]at h1;cases h1;rw[r.v]at h2;grind
def I9(hT:cO P m){t:aj}{x:ak}{i:TI}(h:o.op=.load t x)(hi:bD m t=aa i)(H:i.agg=af)(F:σ[l]?=aa (.b8 (BB T E a v1 bf xs f))){off:Nat}{d:D}(K:k x=.e (.one (.ptr l off)))(C:∀s L b ch,aF σ s->vM P σ s l T E a v1 bf xs f L b ch->∃v,(#[if a then L.v else .pointer ae,v1]:Array ah)[off]?=aa v/\dk σ s v d):bF P o k σ d σ:=by
 refine .og λs B A G=>?_;obtain⟨L,b,ch,r⟩:=BB.row (P:=P) A F;have y:=r.ptr (by have:=G x;rwa [K]at this);obtain⟨v,I,u⟩:=C s L b ch A r;have g:s.w.cell? ⟨b,off,ae⟩=aa v:=by simp only[aV,r.heap _ _ r.ch];grind
 have c:(loadVar t ⟨b,off,ae⟩).run P s.w=.ok v s.w:=by simp[loadVar,(hT t i hi).kl,H,run_load,g]
 refine⟨v,by simp[aw,h,y,Instr.loadAt,bo,c],u,λz p=>?_⟩;have q:z∈(loadVar t ⟨b,off,ae⟩).events P s.w #[]:=by
  have e:aw B o=(do pure (.value (<-loadVar t ⟨b,off,ae⟩))):=by simp[aw,h,y,Instr.loadAt,bo]
  rw[e]at p;simpa[c]using p
 obtain⟨j,J,rfl⟩:=ga (hT t i hi) (n:=1) (λj J=>by grind) (by grind) z q
 exact jI (bJ r.β) r.mem
def bF.fh(hT:cO P m){t:aj}{x:ak}{i:TI}(h:o.op=.load t x)(hi:bD m t=aa i)(c:i.agg=af)(hl:σ[l]?=aa (.b8 (BB T E a v1 bf xs f)))(d:k x=.e (.one (.ptr l 1))):bF P o k σ (.e (.one (.v v1))) σ :=
 I9 hT h hi c hl d λs L b ch hh r=>⟨v1,by simp,Rd.val r.cell⟩
def Nn{H:ah->(Nat->Option Obj)->Prop}(b:σ[l]?=aa (.b8 H)):∀B,σ[l]?=aa B->B.gr=af:=by intro B h;rw[b]at h;cases h;rfl
def bF.Ja(hT:cO P m){t:aj}{x:ak}{i:TI}(h:o.op=.load t x)(hi:bD m t=aa i)(c:i.agg=af)(hl:σ[l]?=aa (.b8 (BB T E ab v1 bf xs f)))(d:k x=.e (.one (.ptr l 0))):bF P o k σ (.e (.one (.ptr l 0))) σ :=
 I9 hT h hi c hl d λs L b ch hh r=>⟨L.v,by simp,Nn hl,L,b,r.β,r.v,r.v⟩
def bF.QZ(hT:cO P m){t:aj}{x:ak}{i:TI}(h:o.op=.load t x)(hi:bD m t=aa i)(d:i.agg=af)(hl:σ[l]?=aa (.b8 (BB T E af v1 bf xs f)))(g:k x=.e (.one (.ptr l 0))):bF P o k σ (.e (.one (.c .hY))) σ :=
 I9 hT h hi d hl g λs L b ch hh r=>⟨.pointer ae,by simp,Rd.hY⟩
def setRow_size(w:aA)(b:Nat)(row:Array ah):(w.setRow b row).heap.size=w.heap.size:=by simp[World.setRow]
def Jb(hT:cO P m){t:aj}{x y:ak}{i:TI}(h:o.op=.store t x y)(hi:bD m t=aa i)(O:i.size=1)(hl:σ[l]?=aa (.b8 (BB T E a v1 bf xs f))){off:Nat}{c:Bool}{d:ah}(hx:k x=.e (.one (.ptr l off)))(ho:off<2)(hc:cD d=ab)(hd:∀s L b ch v,aF σ s->vM P σ s l T E a v1 bf xs f L b ch->dk σ s v (k y)->cD v=ab/\(#[if a then L.v else .pointer ae,v1]:Array ah).setIfInBounds off v=#[if c then L.v else .pointer ae,d]):bF P o k σ .any (σ.set l (.b8 (BB T E c d bf xs f))):=by
 intro s u Q Z;obtain⟨L,b,ch,r⟩:=BB.row (P:=P) Q hl;have H:=r.ptr (by have:=Z x;rwa [hx]at this);obtain⟨J,I⟩:=hd s L b ch (u y) Q r (Z y);have q:(u y).cells=#[u y]:=by cases S:u y<;>simp[S,cD,Value.cells]at J⊢
 have A:∀v∈[u y],v.oneCell'=ab:=by intro v H;simp at H;subst H;cases S:u y<;>simp[S,cD,Value.oneCell']at J⊢
 have p:=r.heap _ _ r.ch;have K:=run_storeCells_at P b off T [u y] 0 _ s.w p (by grind) A;have C:((#[if a then L.v else .pointer ae,v1]:Array ah).toList.take (off+0)++[u y]++(#[if a then L.v else .pointer ae,v1]:Array ah).toList.drop (off+0+[u y].length)).toArray=#[if c then L.v else .pointer ae,d]:=by
  rw[<-I]
  match off,ho with
  |0,_=>grind
  |1,_=>grind
 rw[C]at K;have Jc:(s.w.setRow b #[if c then L.v else .pointer ae,d]).heap[b]?=aa (.cells #[if c then L.v else .pointer ae,d] T (0,0)):=setRow_heap s.w b _ _ T _ p;have B:∀g,g≠b->(s.w.setRow b #[if c then L.v else .pointer ae,d]).heap[g]?=s.w.heap[g]?:=λg n=>setRow_other s.w b g _ n;obtain⟨W,V⟩:=Q.jw (l:=l) (H':=BB T E c d bf xs f) (L':=L) (w':=s.w.setRow b #[if c then L.v else .pointer ae,d]) hl r.β rfl (by rw[setRow_size];grind)
  (λg n hn=>B g (by rintro rfl;exact hn r.mem)) (λg n=>.inl n)
  ⟨λg=>if g=b then aa (.cells #[if c then L.v else .pointer ae,d] T (0,0))else ch g,by
   obtain⟨R,Y,q2,q3,q4⟩:=r.bb;have:R=b:=by rw[r.v]at Y;grind
   subst this;have U:∀g,(if g=R then aa (Obj.cells #[if c then L.v else .pointer ae,d] T (0,0))else ch g).isSome=ab↔(ch g).isSome=ab:=by grind
   refine⟨R,Y,hc,by simp,?_⟩;grind,λg o' n=>by
   by_cases e:g=b
   .grind
   .simp only[e,b7]at n;rw[B g e];exact r.heap _ _ n,λg=>by
   rw[r.bs g];by_cases e:g=b
   .subst e;simp[r.ch]
   grind⟩ rfl rfl rfl
 have F:s.β.set l L=s.β:=by
  apply iO;intro j;by_cases e:l=j
  .subst e;rw[fV (bY.1 r.β).1,r.β]
  grind
 rw[F]at W V;refine⟨.skip,{s with w:=s.w.setRow b #[if c then L.v else .pointer ae,d]},?_,rfl,W,V,?_⟩
 .simp[aw,h,H,Instr.storeAt,bo,storeVar,(hT t i hi).run_sizeOf,O,q,K]
 .intro ev z;have e:aw u o=(do storeVar t ⟨b,off,ae⟩ (u y);pure .skip):=by simp[aw,h,H,Instr.storeAt,bo]
  rw[e]at z;have G:ev∈(storeCells ⟨b,off,ae⟩ [u y]).events P s.w #[]:=by
   simp only[storeVar,aM,(hT t i hi).run_sizeOf,q,O,aO,events_sizeOf,dr,fa,b7,bL,bU,Sem.events_pure,List.size_toArray,jh]at z;generalize(storeCells ⟨b,off,ae⟩ [u y]).run P s.w=r at z;cases r with
   |ok v w'=>simpa using z
   |halt x w'=>simpa using z
  rcases dE [u y] 0 _ s.w #[] p (by grind) A ev G with IN|⟨j,_,_,rfl⟩
  .grind
  .exact jF (bJ r.β) r.mem (r.M _ r.mem _)
def bF.zz(hT:cO P m){t:aj}{x y:ak}{i:TI}(h:o.op=.store t x y)(hi:bD m t=aa i)(d:i.size=1)(hl:σ[l]?=aa (.b8 (BB T E a v1 bf xs f))){c:ah}(p:k x=.e (.one (.ptr l 1)))(j:k y=.e (.one (.v c)))(n:cD c=ab):bF P o k σ .any (σ.set l (.b8 (BB T E a c bf xs f))) :=
 Jb hT h hi d hl p (by omega) n λs L b ch v hh r g=>by rw[j]at g;have:=Rd.dZ g;grind
def bF.No(hT:cO P m){t:aj}{x y:ak}{i:TI}(h:o.op=.store t x y)(hi:bD m t=aa i)(c:i.size=1)(hl:σ[l]?=aa (.b8 (BB T E a v1 bf xs f)))(n:k x=.e (.one (.ptr l 0)))(g:k y=.e (.one (.ptr l 0)))(j:cD v1=ab):bF P o k σ .any (σ.set l (.b8 (BB T E ab v1 bf xs f))) :=
 Jb hT h hi c hl n (by omega) j λs L b ch v hh r d=>by rw[g]at d;have:=r.ptr d;subst this;refine⟨rfl,?_⟩;rw[<-r.v];rfl
def bF.Q0{T:aj}(h:o.op=.alloc T)(n:∀w,(zeroValue T).run P w=.ok (.agg #[.pointer ae,.slice ae 0 0]) w)(g:∀w es,(zeroValue T).events P w es=es):bF P o k σ (.e (.one (.ptr σ.length 0))) (σ++[.b8 (BB T E af (.slice ae 0 0) ae [] 0)]):=by
 intro s z hh hr;let w':=s.w.alloc (.cells #[.pointer ae,.slice ae 0 0] T);obtain⟨r,u⟩:=hh.grow (M':=s.M) (w':=w') (by simp[w']) (λb j=>cJ s.w _ j) (λ_ _ _=>rfl) (λb j o v i=>by have:=hh.block i;omega) rfl rfl rfl;have x:w'.heap.size=s.w.heap.size+1:=by simp[w']
 have p:w'.heap[s.w.heap.size]?=aa (.cells #[.pointer ae,.slice ae 0 0] T (0,0)):=dG s.w _;obtain⟨t,y⟩:=r.hO u rfl hh (B:=.b8 (BB T E af (.slice ae 0 0) ae [] 0)) (L:=⟨.pointer (aa ⟨s.w.heap.size,0,ae⟩),[s.w.heap.size]⟩)
  ⟨λd=>if d=s.w.heap.size then aa (.cells #[.pointer ae,.slice ae 0 0] T (0,0))else ae,⟨s.w.heap.size,rfl,rfl,by simp,rfl,λd=>by by_cases e:d=s.w.heap.size<;>simp[e]⟩,λd q c=>by
   grind,λd=>by by_cases e:d=s.w.heap.size<;>simp[e],λd c q=>by
   simp at c;subst c;show s.M _ _=ae;cases i:s.M s.w.heap.size q with
   |none=>rfl
   |some v=>have:=hh.block i;omega⟩ (λd c=>by grind)
 refine⟨.value (.pointer (aa ⟨s.w.heap.size,0,ae⟩)),_,?_,⟨by simp,⟨.pointer (aa ⟨s.w.heap.size,0,ae⟩),[s.w.heap.size]⟩,s.w.heap.size,?_,rfl,rfl⟩,t,y,?_⟩
 .simp[aw,h,Instr.alloc,n,Go.newVar,newRow,Value.cells,w']
 .simp[<-hh.len]
 .simp[aw,h,Instr.alloc,n,g,Go.newVar,newRow];exact .nil
end
section
variable {P:ar}{X:Cx P}{N:Nat}{z:List (Nat×TI)}{o:au}{q:ak->D}{σ:List aP}{l:Nat}{T E:aj}{d:Bool}{v1:ah}{bf:Option (Nat×Nat)}{xs:List UInt8}{k:Nat}{s:St}
def o8{P:ar}{b o:Nat}{t:aj}{k:Nat×Nat}:∀(vs:List ah)(i:Nat)(a:Array ah)(w:aA)(es:Array Event),w.heap[b]?=aa (.cells a t k)->k.2<=o+i->o+i+vs.length<=a.size->(∀v∈vs,v.oneCell'=ab) ->
  ∀e∈(storeCells ⟨b,o,ae⟩ vs i).events P w es,e∈es∨∃j,i<=j/\j<i+vs.length/\e=Hb b (o+j)
 |[],_,_,_,_,_,_,_,_=>λe h=>.inl (by simpa[storeCells]using h)
 |v::rest,i,a,w,es,g,r,y,p=>λe h=>by
  have hi:o+i<a.size:=by grind
  have c:w.cell? ⟨b,o+i,ae⟩=aa a[o+i]:=by simp[aV,g,hi]
  have f:w.frozen? ⟨b,o+i,ae⟩=af:=by obtain⟨lo,x⟩:=k;simp only[World.frozen?,g,pO,bO];grind
  have m:(store (⟨b,o+i,ae⟩:Addr) v).run P w=.ok () (w.setRow b (a.setIfInBounds (o+i) v)):=by grind[run_store,setCell_eq_setRow]
  have n:(store (⟨b,o+i,ae⟩:Addr) v).events P w es=es.push (Hb b (o+i)):=by rw[events_store P w es _ v _ (p v (by simp)),c];simp only[f,jA,b7];rfl
  simp only[storeCells,aM,dm,m,n,aO]at h;rcases o8 rest (i+1) (a.setIfInBounds (o+i) v) _ _ (setRow_heap _ _ _ _ _ _ g) (by omega) (by grind) (λu B=>p u (by grind)) e h with F|⟨j,A,C,rfl⟩
  .grind
  grind
def vM.at{L:Loc}{b g cap:Nat}{ch:Nat->Option Obj}(r:vM P σ s l T E d v1 (aa (g,cap)) xs k L b ch):
  g≠b/\xs.length<=cap/\0<cap/\cap<=9223372036854775807/\k<=xs.length/\(∃a,(qF xs++a).length=cap/\ch g=aa (.cells (qF xs++a).toArray E (0,k)))/\(∀c,(ch c).isSome=ab↔c=b∨c=g)/\g∈L.bs:=by
 obtain⟨i,e,_,_,a1,a2,a3,a4,a5,a6,h⟩:=r.bb;have:i=b:=by rw[r.v]at e;grind
 subst this;obtain⟨a,a6,f⟩:=a6;exact⟨a1,a2,a3,a4,a5,⟨a,a6,f⟩,h,(r.bs g).2 (by grind)⟩
def Jd{L:Loc}(h:s.β[l]?=aa L):s.β.set l L=s.β:=by apply iO;grind
def vM.jw{L:Loc}{b g cap:Nat}{ch:Nat->Option Obj}(hh:aF σ s)(hl:σ[l]?=aa (.b8 (BB T E d v1 (aa (g,cap)) xs k)))(r:vM P σ s l T E d v1 (aa (g,cap)) xs k L b ch){xs':List UInt8}{fz':Nat}{zs':List ah}{w':aA}(f:(qF xs'++zs').length=cap)(u:xs'.length<=cap)(p:fz'<=xs'.length)(t:w'.heap.size=s.w.heap.size)(hk:∀a,a≠g->w'.heap[a]?=s.w.heap[a]?)(y:w'.heap[g]?=aa (.cells (qF xs'++zs').toArray E (0,fz')))(n:w'.os=s.w.os)(x:w'.tape=s.w.tape)(i:w'.output=s.w.output):
  aF (σ.set l (.b8 (BB T E d v1 (aa (g,cap)) xs' fz'))) {s with w:=w'}/\Step σ s (σ.set l (.b8 (BB T E d v1 (aa (g,cap)) xs' fz'))) {s with w:=w'}:=by
 obtain⟨a1,a2,a3,a4,a5,⟨F,a6,B⟩,G,j⟩:=r.at;obtain⟨m,h⟩:=hh.jw (l:=l) (H':=BB T E d v1 (aa (g,cap)) xs' fz') (L':=L) (w':=w') hl r.β rfl (by omega)
  (λa c A=>hk a (by grind)) (λa c=>.inl c)
  ⟨λa=>if a=g then aa (.cells (qF xs'++zs').toArray E (0,fz'))else ch a,⟨b,r.v,r.cell,(show(if b=g then _ else ch b)=_ from(aZ λe=>a1 e.symm).trans r.ch),a1,u,a3,a4,p,⟨zs',f,by simp⟩,λa=>by
   grind⟩,λa C c=>by
   by_cases e:a=g
   .grind
   .simp only[e,b7]at c;rw[hk a e];exact r.heap _ _ c,λa=>by
   rw[r.bs a]
   grind⟩ n x i
 rw[Jd r.β]at m h;grind
def bF.Np{t O:aj}{x y:ak}(ho:o.op=.call {callee:=.builtin .append,args:=#[x,y],argTypes:=#[t,O]}){W:TypeInfo}(Z:P.underlying t=aa (.slice E))(I:P.underlying O=aa .string)(G:P.info? E=aa W)(u:W.size=1){g cap n:Nat}(hl:σ[l]?=aa (.b8 (BB T E d v1 (aa (g,cap)) xs k)))(hx:q x=.e (.one (.v (o7 (aa (g,cap)) n))))(hn:xs.length=n){str:List UInt8}(hy:q y=.e (.one (.c (.str str))))(Xx:n+str.length<=cap):
  bF P o q σ (.e (.one (.v (o7 (aa (g,cap)) (n+str.length))))) (σ.set l (.b8 (BB T E d v1 (aa (g,cap)) (xs++str) k))):=by
 intro s ρ hh hr;subst hn;obtain⟨L,b,ch,r⟩:=BB.row (P:=P) hh hl;obtain⟨a1,a2,a3,a4,a5,⟨a,a6,a7⟩,a8,m⟩:=r.at;have C:=hr x;rw[hx]at C;have C:=Rd.dZ C;have K:=hr y;rw[hy]at K;have K:=eT K;generalize B:ρ y=vy at K;cases K with
 |@str sb _ Y abF =>
 have A:sb.size=str.length:=by rw[<-Y,ji];rfl
 have Q:=r.heap _ _ a7;have hlen:(qF xs++a).toArray.size=cap:=by grind
 have J:=Lib.run_append_room_stringF (P:=P) s.w t O o.type E W Z I G u g xs.length cap _ _ Q a5 sb (by omega) (by grind);have F:((qF xs++a).toArray.toList.take xs.length++Lib.strCells sb++(qF xs++a).toArray.toList.drop (xs.length+sb.size))=qF (xs++str)++a.drop str.length:=by
  have e1:(qF xs++a).take xs.length=qF xs:=by grind[vg]
  have e2:(qF xs++a).drop (xs.length+sb.size)=a.drop str.length:=by rw[List.drop_append,vg,List.drop_eq_nil_of_le (by grind),A];simp
  have e3:Lib.strCells sb=qF str:=by simp[Lib.strCells,qF,Y]
  rw[List.toList_toArray,e1,e2,e3,Nm]
 rw[F,A]at J;have hlz:a.length=cap-xs.length:=by grind[vg]
 have i:(qF (xs++str)++a.drop str.length).length=cap:=by grind[vg]
 have H:(s.w.setRow g (qF (xs++str)++a.drop str.length).toArray).heap[g]?=aa (.cells (qF (xs++str)++a.drop str.length).toArray E (0,k)):=setRow_heap s.w g _ _ E _ Q;obtain⟨t1,R⟩:=r.jw (fz':=k) (w':=s.w.setRow g (qF (xs++str)++a.drop str.length).toArray) hh hl i (by grind) (by grind) (setRow_size _ _ _) (λb' U=>setRow_other s.w g b' _ U) H rfl rfl rfl;refine⟨.value (.slice (aa ⟨g,0,ae⟩) (xs.length+str.length) cap),_,?_,Rd.val rfl,t1,R,?_⟩
 .rw[dg ho,C,B];simp only[bL,dq];have p:(Builtin.append_ #[t,O] o.type #[o7 (aa (g,cap)) xs.length,.string sb]).run P s.w=_:=J;rw[p];rfl
 .rw[dg ho,C,B];refine eH λe he=>?_;have hf:=Lib.run_firstCells_string (P:=P) s.w 1 sb;have V:=run_storeCells_atF P g xs.length E (0,k) (Lib.strCells sb) 0 _ s.w Q (by grind) (by grind) (Lib.strCells_oneCell sb);have f:xs.length+sb.size<=cap:=by omega
  have S:(Builtin.firstCells 1 sb.size (.string sb)).events P s.w #[]=#[]:=rfl;simp[o7,Builtin.append_,run_underlying Z,run_underlying I,sizeOf,typeInfo,G,u,Builtin.lenOf,f,hf,S,dm,V]at he;rcases o8 (Lib.strCells sb) 0 _ s.w _ Q (by grind) (by grind) (Lib.strCells_oneCell sb) e he with h|⟨j,h1,h2,rfl⟩
  .grind
  .exact jF (bJ r.β) m (r.M _ m _)
def bF.Je{t p:aj}{x y:ak}(u:o.op=.call {callee:=.builtin .append,args:=#[x,y],argTypes:=#[t,p]}){n:TypeInfo}(A:P.underlying t=aa (.slice E))(i:P.underlying p=aa .string)(f:P.info? E=aa n)(F:q x=.e (.one (.v (o7 ae 0))))(C:q y=.e (.one (.c (.str [])))):bF P o q σ (.e (.one (.v (o7 ae 0)))) σ:=by
 refine .quiet λs B hh hr=>?_;have b:=hr x;rw[F]at b;have b:=Rd.dZ b;have g:=hr y;rw[C]at g;have g:=eT g;generalize h:B y=vy at g;cases g with
 |@str sb _ G r =>
 have a:sb.size=0:=by
  have:sb.data.toList.length=0:=by grind
  rw[ji]at this;exact this
 have m:=Lib.run_firstCells_string (P:=P) s.w n.size sb;rw[a]at m;have j:(Builtin.firstCells n.size 0 (.string sb)).events P s.w #[]=#[]:=rfl;refine⟨.slice ae 0 0,?_,Rd.val rfl,?_⟩
 .rw[dg u,b,h];simp[o7,Builtin.append_,run_underlying A,run_underlying i,sizeOf,typeInfo,f,Builtin.lenOf,a,m]
 .rw[dg u,b,h];simp[o7,Builtin.append_,run_underlying A,run_underlying i,sizeOf,typeInfo,f,Builtin.lenOf,a,m,j]
def Ub{f:aJ}{fn:Func}{ps:Array aj}{t:aj}(ht:P.underlying t=aa (.slice E))(hf:P.funcs[f]?=aa fn)(C:(fn.name== "runtime.NumGoroutine")=af)(hb:fn.body.isNone=ab)(U:Extern.findNext fn=ae)(M:Extern.find fn=aa (Extern.BytealgMakeNoZero.makeNoZero ps #[t])){I x:ak}{Y:Array aj}(ho:o.op=.call {callee:=.value I,args:=#[x],argTypes:=Y})(WV:q I=.e (.one (.c (.fn (.func f) [] [])))){n:Nat}(hx:q x=.e (.one (.c (.int .i64 n))))(h0:0<n)(abG:n<=140737488355328)(hl:σ[l]?=aa (.b8 (BB T E d v1 ae xs k))):
  ∀s A,aF σ s->(∀y,dk σ s (A y) (q y))->∃(j:{p:Nat×Nat // n<=p.2}) (s':St) (v:ah),(aw A o).run P s.w=.ok (.value v) s'.w/\dk (σ.set l (.b8 (BB T E d v1 (aa j.1) [] 0))) s' v (.e (.one (.v (o7 (aa j.1) n)))) /\
   aF (σ.set l (.b8 (BB T E d v1 (aa j.1) [] 0))) s'/\Step σ s (σ.set l (.b8 (BB T E d v1 (aa j.1) [] 0))) s'/\eY s ((aw A o).events P s.w #[]):=by
 intro s A S hr;obtain⟨L,b,ch,r⟩:=BB.row (P:=P) S hl;have J:A I=.func (.func f) #[] #[]:=by
  have g:=hr I;rw[WV]at g;have g:=eT g;generalize A I=v at g;cases g with
  |fn fs cs a b f1 f2 c1 c2 d1 d2 =>
   grind
 have G:A x=.int .i64 n:=by have g:=hr x;rw[hx]at g;have g:=eT g;generalize A x=v at g;cases g;rfl
 obtain⟨cs,g,R,Q⟩:=Lib.run_makeNoZero (P:=P) s.w ps t E ht n (by omega);have Q:=Q (by simp only[maxLen];omega);have F:(callFunc f #[.int .i64 n]).run P s.w=.ok (.value (.slice (aa ⟨s.w.heap.size,0,ae⟩) n cs.size)) (s.w.drew.drew.alloc (.cells cs E)):=by rw[run_callFunc_extern hf C hb U M,g];rfl
 let w':aA:=s.w.drew.drew.alloc (.cells cs E);have Jc:w'.heap[s.w.heap.size]?=aa (.cells cs E (0,0)):=dG s.w.drew.drew _;have IM:w'.heap.size=s.w.heap.size+1:=by show(s.w.drew.drew.heap.push _).size=_;simp
 obtain⟨B,q1,q2,q3,q4⟩:=r.bb;have hb0:B=b:=by rw[r.v]at q1;grind
 subst hb0;have K:B<s.w.heap.size:=S.lt L (bJ r.β) B r.mem;have O:s.w.heap.size≠B:=by omega
 obtain⟨t1,t2⟩:=S.jw (l:=l) (H':=BB T E d v1 (aa (s.w.heap.size,cs.size)) [] 0) (L':=⟨L.v,[B,s.w.heap.size]⟩) (w':=w') hl r.β rfl (by omega)
  (λu i U=>cJ s.w.drew.drew _ i) (λu i=>by
   simp at i;rcases i with rfl|rfl
   .exact .inl r.mem
   grind)
  ⟨λu=>if u=B then aa (.cells #[if d then L.v else .pointer ae,v1] T (0,0))else if u=s.w.heap.size then aa (.cells cs E (0,0))else ae,⟨B,r.v,r.cell,by simp,O,by simp,by omega,by simp only[maxLen]at Q;omega,by simp,⟨cs.toList,by simp[qF],by simp[O,qF]⟩,λu=>by
   grind⟩,λu o' i=>by
   by_cases e:u=B
   .subst e;simp only[cj]at i;have:w'.heap[u]?=s.w.heap[u]?:=cJ s.w.drew.drew _ K;rw[this,<-i];exact r.heap _ _ r.ch
   grind,λu=>by grind⟩ rfl rfl rfl
 refine⟨⟨(s.w.heap.size,cs.size),R⟩,_,_,?_,Rd.val rfl,t1,t2,?_⟩
 .simp[aw,ho,resolve,Deferred.ofValue,invoke,J,G,F,w',o7]
 .intro ev V;simp only[aw,ho,resolve,Deferred.ofValue,invoke,J,G]at V;have H:ev∈(callFunc f #[.int .i64 n]).events P s.w #[]:=by grind
  have Z:fn.name≠ "runtime.NumGoroutine":=by grind
  have W:fn.body=ae:=by simpa using hb
  have key:∀es:Array Event,∀e∈(Extern.BytealgMakeNoZero.makeNoZero ps #[t] #[.int .i64 n]).events P s.w es,e∈es∨∃m,e=⟨.mark m,af,ab⟩/\Go.Conc.Neutral m:=by
   intro es e M;change e∈Sem.events P (underlying _ >>= _) _ _ at M;have g:¬(n:Int)<0:=by omega
   have R:¬(281474976710656:Int)<(n:Int):=by omega
   have WQ:e∈(askRoom (grownCap s.w n 0 E)).events P s.w.drew es:=by simpa[run_underlying ht,g,R,Question.forced,newRow,grownCap]using M
   grind[Go.Conc.events_askRoom]
  have:ev∈(Extern.BytealgMakeNoZero.makeNoZero ps #[t] #[.int .i64 n]).events P s.w ((#[]:Array Event).push ⟨.mark (.extern f),af,ab⟩):=by have e:callFunc f #[.int .i64 n]=callFunc f #[.int .i64 n]:=rfl;simpa[callFunc,hf,Z,W,U,M,g]using H
  rcases key _ _ this with h|⟨m,rfl,hm⟩
  .simp at h;subst h;exact .inr ⟨f,rfl⟩
  .exact .inl hm
def Uc{C J:aj}{x y:ak}(ho:o.op=.call {callee:=.builtin .unsafeString,args:=#[x,y],argTypes:=#[C,J]})(hp:P.underlying C=aa (.pointer E))(O:P.cellsOf E=1){g cap:Nat}(hl:σ[l]?=aa (.b8 (BB T E d v1 (aa (g,cap)) xs k)))(hx:q x=.e (.one (.v (.pointer (aa ⟨g,0,ae⟩)))))(hy:q y=.e (.one (.c (.int .i64 xs.length)))):
  bF P o q σ (.e (.one (.c (.str xs)))) (σ.set l (.b8 (BB T E d v1 (aa (g,cap)) xs xs.length))):=by
 intro s K Y hr;obtain⟨L,b,ch,r⟩:=BB.row (P:=P) Y hl;obtain⟨a1,a2,a3,a4,a5,⟨R,a6,a7⟩,a8,V⟩:=r.at;have u:=hr x;rw[hx]at u;have u:=Rd.dZ u;have t:K y=.int .i64 xs.length:=by have M:=hr y;rw[hy]at M;have M:=eT M;generalize K y=v at M;cases M;rfl
 have hg:=r.heap _ _ a7;have p:aw K o=(do pure (.value (<-Builtin.unsafeString_ #[C,J] o.type #[K x,K y]))):=by simp[aw,ho,resolve,invoke,builtin]
 have hlen:(qF xs++R).toArray.size=cap:=by grind
 by_cases h0:xs=[]
 .subst h0;have i:=Lib.run_unsafeString_none (P:=P) s.w C J o.type (aa ⟨g,0,ae⟩);obtain⟨t1,Z⟩:=r.jw (xs':=[]) (fz':=0) (zs':=R) (w':=s.w) Y hl a6 a2 (by simp) rfl (λ_ _=>rfl) (by grind) rfl rfl rfl;refine⟨.value (.string .empty),_,?_,Rd.str rfl (by simp),t1,Z,?_⟩
  .rw[p,u,t];simp only[bL,dq];have:(Builtin.unsafeString_ #[C,J] o.type #[.pointer (aa ⟨g,0,ae⟩),.int .i64 ([]:List UInt8).length]).run P s.w=_:=i;rw[this];rfl
  .rw[p,u,t];refine eH ?_;change eY s (Sem.events P (asInt (.int .i64 0) >>= _) _ _);simp[asInt,asIntOf,IntKind.max];exact .nil
 .have n:∀j x,xs[j]?=aa x->s.w.cell? ((⟨g,0,ae⟩:Addr).add j)=aa (.int .u8 x.toNat):=by
   intro j x Q;rw[dm];simp only[aV,hg,bC];have ta:j<xs.length:=(bY.1 Q).1;have:(qF xs)[j]?=aa (.int .u8 x.toNat):=by simp[qF,Q]
   grind
  have A:s.w.shape? g=aa (E,cap):=by simp only[World.shape?,hg];grind
  have i:=Lib.run_unsafeString_row (P:=P) s.w C J o.type E hp O g cap A xs h0 a2 (by omega) n;have f:xs.length≠0:=by grind
  have hfz:(s.w.freeze ⟨g,0,ae⟩ xs.length).heap[g]?=aa (.cells (qF xs++R).toArray E (0,xs.length)):=by simp only[World.freeze,f,b7,Array.getElem?_modify,cj,hg,n5];grind
  obtain⟨t1,Z⟩:=r.jw (xs':=xs) (fz':=xs.length) (zs':=R) (w':=s.w.freeze ⟨g,0,ae⟩ xs.length) Y hl a6 a2 (bh _) (by simp[World.freeze,f]) (λb' Dr=>by
   simp only[World.freeze,f,b7,Array.getElem?_modify]
   grind) hfz (by simp[World.freeze,f]) (by simp[World.freeze,f]) (by simp[World.freeze,f])
  refine⟨.value (.string ⟨xs.toArray⟩),_,?_,Rd.str (by simp) (by omega),t1,Z,?_⟩
  .rw[p,u,t];simp only[bL,dq,i];rfl
  .rw[p,u,t];refine eH λe B=>?_;have H:¬(xs.length:Int)<0:=by omega
   have h63:¬(9223372036854775807:Int)<(xs.length:Int):=by omega
   have m:=Lib.liesAt_bytes (P:=P) O (cap / P.cellsOf E) xs.length (by grind);have G:IntKind.i64.max=9223372036854775807:=rfl;have hlb:=Lib.run_loadBytes (P:=P) s.w xs ⟨g,0,ae⟩ .empty n;have I5:∀(F:List UInt8) (a:Nat) (acc:ByteArray) (es:Array Event),(∀j x,F[j]?=aa x->s.w.cell? ⟨g,a+j,ae⟩=aa (.int .u8 x.toNat))->∀e∈(loadBytes ⟨g,a,ae⟩ acc F.length).events P s.w es,e∈es∨∃j,e=zx g j:=by
    intro F;induction F with
    |nil=>intro a acc es _ e B;exact .inl (by simpa[loadBytes]using B)
    |cons y F ih =>
     intro a acc es O e B;have I:=O 0 y rfl;simp only[ir]at I;have W:(load ⟨g,a,ae⟩).run P s.w=.ok (.int .u8 y.toNat) s.w:=by grind[run_load]
     simp only[eU,loadBytes,aM,W,aO,zA I,dm]at B;rcases ih (a+1) _ _ (λj x Q=>by have:=O (j+1) x (by grind);grind) e B with h|h
     .grind
     grind
   have U:(variablesAt ⟨g,0,ae⟩ E xs.length).run P s.w=.ok ab s.w:=by simp[variablesAt,A,m]
   have hve:∀es,(variablesAt ⟨g,0,ae⟩ E xs.length).events P s.w es=es:=λes=>by simp[variablesAt,A,m]
   have S:e∈(loadBytes ⟨g,0,ae⟩ .empty xs.length).events P s.w #[]:=by change e∈Sem.events P (asInt (.int .i64 (xs.length:Int)) >>= _) _ _ at B;simpa[asInt,asIntOf,G,H,h63,f,elemOf,run_underlying hp,U,hve,hlb]using B
   rcases I5 xs 0 .empty #[] (λj x Q=>by grind[dm]) e S with h|⟨j,rfl⟩
   .grind
   .exact jI (bJ r.β) V
end
section
variable {P:ar}{X:Cx P}{N:Nat}{q:List (Nat×TI)}{o:au}{g:ak->D}{σ:List aP}{l:Nat}{T E:aj}{i:Bool}{v1:ah}{bf:Option (Nat×Nat)}{xs:List UInt8}{p:Nat}{s:St}
def bF.exact{x:ak}{v r:ah}{d:D}(c:g x=.e (.one (.v v)))(h:∀(a:ak->ah) w,a x=v->(aw a o).run P w=.ok (.value r) w/\(aw a o).events P w #[]=#[])(f:∀σ s,dk σ s r d):bF P o g σ d σ:=by refine .quiet λs a hh hr=>?_;have b:=hr x;rw[c]at b;have b:=Rd.dZ b;obtain⟨h1,h2⟩:=h a s.w b;grind
def bF.uJ{x:ak}{b:Array aj}{t E:aj}(h:o.op=.call {callee:=.builtin .len,args:=#[x],argTypes:=b})(k:b[0]?=aa t)(f:P.underlying t=aa (.slice E)){a:Option Addr}{n c:Nat}(j:g x=.e (.one (.v (.slice a n c))))(m:n<=9223372036854775807):bF P o g σ (.e (.one (.c (.int .i64 n)))) σ :=
 .exact j (λr w d=>by constructor<;>simp[aw,h,resolve,invoke,builtin,Builtin.len_,d,run_underlying f,goInt,k]) (λ_ _=>Rd.int (by simp only[bA];omega))
def bF.Nq{x:ak}{b:Array aj}{t E:aj}(h:o.op=.call {callee:=.builtin .cap,args:=#[x],argTypes:=b})(k:b[0]?=aa t)(f:P.underlying t=aa (.slice E)){a:Option Addr}{n c:Nat}(j:g x=.e (.one (.v (.slice a n c))))(m:c<=9223372036854775807):bF P o g σ (.e (.one (.c (.int .i64 c)))) σ :=
 .exact j (λr w d=>by constructor<;>simp[aw,h,resolve,invoke,builtin,Builtin.cap_,d,run_underlying f,goInt,k]) (λ_ _=>Rd.int (by simp only[bA];omega))
def bF.Ud{x:ak}{a:Array aj}(h:o.op=.call {callee:=.builtin .unsafeSliceData,args:=#[x],argTypes:=a}){n c:Nat}(d:g x=.e (.one (.v (.slice ae n c)))):bF P o g σ (.e (.one (.v (.pointer ae)))) σ :=
 .exact d (λf w b=>by
  have e:Builtin.unsafeSliceData_ a o.type #[.slice ae n c]=pure (.pointer ae):=rfl
  constructor<;>simp[aw,h,resolve,invoke,builtin,b,e]) (λ_ _=>Rd.val rfl)
def bF.Ue{x:ak}{b:Array aj}(h:o.op=.call {callee:=.builtin .unsafeSliceData,args:=#[x],argTypes:=b}){a:Addr}{n c:Nat}(j:g x=.e (.one (.v (.slice (aa a) n c))))(f:c≠0):bF P o g σ (.e (.one (.v (.pointer (aa a))))) σ :=
 .exact j (λk w d=>by
  obtain⟨m,rfl⟩:=Nat.exists_eq_succ_of_ne_zero f;have e:Builtin.unsafeSliceData_ b o.type #[.slice (aa a) n (m+1)]=pure (.pointer (aa a)):=rfl
  constructor<;>simp[aw,h,resolve,invoke,builtin,d,e]) (λ_ _=>Rd.val rfl)
def bF.Uf{t E:aj}{x y:ak}(h:o.op=.slice t x ae (aa y) ae)(z:P.underlying t=aa (.slice E)){G:TypeInfo}(hi:P.info? E=aa G){a:Addr}{n c k:Nat}(H:g x=.e (.one (.v (.slice (aa a) n c))))(C:g y=.e (.one (.c (.int .i64 k))))(hk:k<=n)(r:n<=c)(B:c≠0)(F:a.add 0=a):bF P o g σ (.e (.one (.v (.slice (aa a) k c)))) σ:=by
 refine .quiet λs u hh hr=>?_;have b:=hr x;rw[H]at b;have b:=Rd.dZ b;have d:u y=.int .i64 k:=by have h1:=hr y;rw[C]at h1;have h1:=eT h1;generalize u y=v at h1;cases h1;rfl
 have hl:((ae:Option ah)=ae/\(ae:Option Int)=ae)∨∃k j,(ae:Option ah)=aa (.int k j)/\(ae:Option Int)=aa j:=.inl ⟨rfl,rfl⟩;have hh:(aa (Value.int .i64 k)=ae/\(aa (k:Int))=ae)∨∃k' j,aa (Value.int .i64 k)=aa (.int k' j)/\(aa (k:Int))=aa j:=.inr ⟨_,_,rfl,rfl⟩;have A:az (fM n ae (aa (k:Int))):=by simp[fM,hk]
 obtain⟨m,_,_⟩:=lX (P:=P) (isS:=ab) r hl hh A s.w;have f:=nh (P:=P) (isS:=ab) r hl hh A s.w;simp only[dc,b9]at m;refine⟨.slice (aa a) k c,?_,Rd.val rfl,?_⟩
 .simp[aw,h,b,d,Instr.sliceAt,run_underlying z,Instr.slice,m,sizeOf,typeInfo,hi,B,F]
 .simp[aw,h,b,d,Instr.sliceAt,run_underlying z,Instr.slice,m,f,sizeOf,typeInfo,hi,B]
def bF.copyV{t E n:aj}{x y:ak}(h:o.op=.call {callee:=.builtin .copy,args:=#[x,y],argTypes:=#[t,n]})(f:P.underlying t=aa (.slice E)){k:TypeInfo}(hi:P.info? E=aa k){a:Addr}{c:Nat}(m:g x=.e (.one (.v (.slice (aa a) 0 c))))(j:g y=.e (.one (.v (.slice ae 0 0)))):bF P o g σ (.e (.one (.c (.int .i64 0)))) σ:=by
 refine .quiet λs r hh hr=>?_;have b:=hr x;rw[m]at b;have b:=Rd.dZ b;have d:=hr y;rw[j]at d;have d:=Rd.dZ d;refine⟨.int .i64 0,?_,Rd.int (by simp[bA]),?_⟩<;>
 simp[aw,h,resolve,invoke,builtin,Builtin.copy_,b,d,run_underlying f,sizeOf,typeInfo,hi,Builtin.lenOf,Builtin.firstCells,storeCells,goInt]
def bF.Ug{k j:aj}{x y:ak}(n:o.op=.call {callee:=.builtin .unsafeString,args:=#[x,y],argTypes:=#[k,j]})(r:g x=.e (.one (.v (.pointer ae))))(m:g y=.e (.one (.c (.int .i64 ((0:Nat):Int))))):bF P o g σ (.e (.one (.c (.str [])))) σ:=by
 refine .og λs d hh hr=>?_;have a:=hr x;rw[r]at a;have a:=Rd.dZ a;have b:d y=.int .i64 0:=by have h1:=hr y;rw[m]at h1;have h1:=eT h1;generalize d y=v at h1;cases h1;rfl
 have f:aw d o=(do pure (.value (<-Builtin.unsafeString_ #[k,j] o.type #[d x,d y]))):=by simp[aw,n,resolve,invoke,builtin]
 have h:=Lib.run_unsafeString_none (P:=P) s.w k j o.type ae;refine⟨.string .empty,?_,Rd.str rfl (by simp),?_⟩
 .rw[f,a,b];simp only[bL,dq,h];rfl
 .rw[f,a,b];refine eH ?_;change eY s (Sem.events P (asInt (.int .i64 0) >>= _) _ _);simp[asInt,asIntOf,IntKind.max];exact .nil
def bF.bTo(m:σ[l]?=aa (.b8 (BB T E i v1 bf xs p))){d dst:aj}{x:ak}(h:o.op=.convert d dst x)(u:P.underlying d=aa (.pointer T))(t:P.underlying dst=aa .unsafePointer){j:TypeInfo}(hj:P.info? T=aa j)(k:j.size≠0)(y:g x=.e (.one (.ptr l 0))):bF P o g σ (.e (.one (.ptr l 0))) σ:=by
 refine .quiet λs v hh hr=>?_;obtain⟨L,b,ch,r⟩:=BB.row (P:=P) hh m;have c:=hr x;rw[y]at c;have n:=r.ptr c;have f:s.w.shape? b=aa (T,2):=by simp[World.shape?,r.heap _ _ r.ch]
 have a:=Lib.run_to_unsafe (P:=P) s.w ⟨b,0,ae⟩ u t hj k f (by simp);refine⟨v x,by simp[aw,h,n,a],c,?_⟩;have:(convert d dst (.pointer (aa ⟨b,0,ae⟩))).events P s.w #[]=#[]:=by simp[convert,run_underlying u,run_underlying t,Conv.unsafePointer,Conv.seenAt,viewAt,cellsIn,f,sizeOf,typeInfo,hj,k]
 simp[aw,h,n,a,this]
def bF.Uh(n:σ[l]?=aa (.b8 (BB T E i v1 bf xs p))){f dst:aj}{x:ak}(h:o.op=.convert f dst x)(v:P.underlying f=aa .unsafePointer)(u:P.underlying dst=aa (.pointer T)){j:TypeInfo}(hj:P.info? T=aa j)(m:j.size≠0)(a:liesAt P P.depth T (2 / P.cellsOf T) 0 T 1=ab)(z:g x=.e (.one (.ptr l 0))):bF P o g σ (.e (.one (.ptr l 0))) σ:=by
 refine .quiet λs y hh hr=>?_;obtain⟨L,b,ch,r⟩:=BB.row (P:=P) hh n;have d:=hr x;rw[z]at d;have t:=r.ptr d;have k:s.w.shape? b=aa (T,2):=by simp[World.shape?,r.heap _ _ r.ch]
 have c:=Lib.run_from_unsafe (P:=P) s.w ⟨b,0,ae⟩ v u hj k a;refine⟨y x,by simp[aw,h,t,c],d,?_⟩;have:(convert f dst (.pointer (aa ⟨b,0,ae⟩))).events P s.w #[]=#[]:=by simp[convert,run_underlying v,run_underlying u,Conv.unsafePointer,Conv.seenAt,viewAt,variablesAt,k,sizeOf,typeInfo,hj,m,a]
 simp[aw,h,t,c,this]
def bF.Ui{f:aJ}{fn:Func}(F:P.funcs[f]?=aa fn)(j:(fn.name== "runtime.NumGoroutine")=af)(A:fn.body.isNone=ab)(B:Extern.findNext fn=ae)(z:Extern.find fn=aa Extern.AbiNoEscape.same){n x:ak}{u:Array aj}(C:o.op=.call {callee:=.value n,args:=#[x],argTypes:=u})(t:g n=.e (.one (.c (.fn (.func f) [] [])))){d:D}(J:g x=d):bF P o g σ d σ:=by
 refine .og λs m hh hr=>?_;have r:m n=.func (.func f) #[] #[]:=by
  have h1:=hr n;rw[t]at h1;have h1:=eT h1;generalize m n=v at h1;cases h1 with
  |fn fs cs a b G I c1 c2 d1 d2 =>
   grind
 have k:(callFunc f #[m x]).run P s.w=.ok (.value (m x)) s.w:=by rw[run_callFunc_extern F j A B z];rfl
 have y:=lY (P:=P) F j A B z #[m x] (λ_ _=>rfl) s.w #[];refine⟨m x,?_,by grind,λH h=>?_⟩
 .simp[aw,C,resolve,Deferred.ofValue,invoke,r,k]
 .simp[aw,C,resolve,Deferred.ofValue,invoke,r,y]at h;subst h;exact .inr ⟨_,rfl⟩
end
end Go.AM
