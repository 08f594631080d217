/- Part 2. No condition. -/
import Derived.Test.YtmikbgondjokcaaGreatDoorA1
import Derived.MapKept
import Derived.Maps.RangeRun
import Derived.Laws.MakeOwn
import Derived.Lib.SliceRun
import Derived.Test.YtmikbgondjokcaaGreatDoorProg
import Derived.Lib.FrozenHead
import Derived.Lib.UnsafeStr
import Derived.Lib.MakeNoZero
import Derived.Laws.Externs
import Derived.Lib.Builder
set_option linter.all false
set_option maxHeartbeats 8000000
open Go.Proofs
open Go.Conc (G)
open Go renaming Value → ai, TypeId → av, undef → ah, Operand → aB, execOp → aq, World → ay, Program → aJ, Oper → aC, Goroutine → ar, stepG → aG, Frame → aX, FuncId → aH
open Option renaming some → aa, none → ae
open Bool renaming true → ab, false → af
open Go.World renaming cell? → aP
open List renaming getD_eq_getElem?_getD → aj, range → bc, all_eq_true → bz
open Go.Sem renaming events_bind → aR
open Go.Result renaming evThen_ok → aV
open Go.Region renaming wanted → bl, ready → ba
open Go.Instr renaming sureAddr → bt
open Nat renaming beq → aw, ble → bD
open Go.Op renaming equalIn → aZ
open Go.Proofs.Tryz renaming prog → ag, underlying22 → aO
namespace Go.AM
variable {n:Nat}{k:Int}{l b i j:Nat}{E:av}{H:ai->(Nat->Option Obj)->Prop}{L:Array Bool}{M:Mem}{N:Nat}{P:aJ}{S:ar->St->Prop}{c:Code}{g:ar}{o:aC}{s:St}{t:av}{v:ai}{w:ay}{x y:aB}{α:Type}{η:aB->D}{ι:Type}{σ:List bg}{φ:Fr}{all:List aC}{jU:Array av}{cap:List C}{cv:List D}{cs:List aX}{ds:List (Nat×Bool)}{es:Nat->List C}{fo:aB}{ks:List Nat}{obs:List Prop}{off:Nat}{op:BinOp}{ops:Array aC}{ps:List Prop}{rest:List aC}{s':St}{ty:av}{val:Nat->Nat->ai}{vs:List ai}{w':ay}{xs:Array aB}{σ' σs:List bg}{res:ι->D}{σ1:ι->List bg}
section force
variable {p:Type}
def xo:C->(C->Option p)->Option p
 |.int k n,q=>q (.int k n)
 |.bool b,q=>q (.bool b)
 |.str s,q=>q (.str s)
 |.sl ab k n es,q=>q (.sl ab k n es)
 |.sl af k n es,q=>q (.sl af k n es)
 |.rp cs,q=>dG cs λcs=>q (.rp cs)
 |.J0 t cs,q=>dG cs λcs=>q (.J0 t cs)
 |.fn f a b,q=>dG a λa=>dG b λb=>q (.fn f a b)
 |c,q=>q c
def IA(c:C)(q:C->Option p):xo c q=q c:=by
 cases c with
 |sl t=>cases t<;>rfl
 |rp cs=>simp[xo,di]
 |J0 t cs=>simp[xo,di]
 |fn f a b=>simp[xo,di]
 |_=>rfl
def xp:A->(A->Option p)->Option p
 |.c x,q=>xo x λx=>q (.c x)
 |.ptr l o,q=>q (.ptr l o)
 |.vec l k n es,q=>q (.vec l k n es)
 |.ref l,q=>q (.ref l)
 |.bp l (.sl g k o n),q=>q (.bp l (.sl g k o n))
 |.bp l (.el g k i f),q=>q (.bp l (.el g k i f))
 |.any,q=>q .any
def zz(a:A)(q:A->Option p):xp a q=q a:=by
 cases a with
 |bp l w=>cases w<;>simp[xp]
 |_=>simp[xp,IA]
def wC:List A->(List A->Option p)->Option p
 |[],q=>q []
 |a::r,q=>xp a λa=>wC r λr=>q (a::r)
def Ff(l:List A)(q:List A->Option p):wC l q=q l:=by
 induction l generalizing q with
 |nil=>rfl
 |cons a r b=>simp[wC,zz,b]
def A6:E1->(E1->Option p)->Option p
 |.one a,q=>xp a λa=>q (.one a)
 |.agg cs,q=>wC cs λcs=>q (.agg cs)
def zA(a:E1)(q:E1->Option p):A6 a q=q a:=by cases a<;>simp[A6,zz,Ff]
def wD:List E1->(List E1->Option p)->Option p
 |[],q=>q []
 |a::r,q=>A6 a λa=>wD r λr=>q (a::r)
def Fg(l:List E1)(q:List E1->Option p):wD l q=q l:=by
 induction l generalizing q with
 |nil=>rfl
 |cons a r b=>simp[wD,zA,b]
def oU:D->(D->Option p)->Option p
 |.e x,q=>A6 x λx=>q (.e x)
 |.fD xs,q=>wD xs λxs=>q (.fD xs)
 |.any,q=>q .any
theorem nY(a:D)(q:D->Option p):oU a q=q a:=by cases a<;>simp[oU,zA,Fg]
end force
def CW:D->Option (Bool×Nat×Nat×(Nat->List C))
 |.e (.one (.c (.sl t k n es)))=>aa (t,k,n,es)
 |.e (.one (.vec _ k n es))=>aa (af,k,n,es)
 |_=>ae
theorem qW{d:D}{t:Bool}{k:Nat}(h:CW d=aa (t,k,n,es))(σ:List bg)(s:St)(v:ai)(r:du σ s v d):Rd s.M v (.sl t k n es):=by
 unfold CW at h;split at h
 .cases h;exact r
 .cases h;exact r.1
 grind
def jl(l:List UInt8)(j:Int):UInt8:=l.getD j.toNat 0
def SH(T:List (Nat×TI))(t:av)(d:D):Option D :=
 match bJ T t with
 |none=>ae
 |some i=>match i.desc with
  |.slice _=>match CW d with
   |some (_,_,n,_)=>aa (.e (.one (.c (.int .i64 n))))
   |none=>ae
  |.string=>match d with
   |.e (.one (.c (.str s)))=>aa (.e (.one (.c (.int .i64 s.length))))
   |_=>ae
  |_=>ae
def KG(T:List (Nat×TI))(b a:av)(d:D):Option (D×List Prop) :=
 match bJ T b with
 |none=>ae
 |some i1=>match bJ T a with
  |none=>ae
  |some i2=>match i2.desc with
   |.int k'=>match d with
    |.e (.one (.c (.int _ j)))=>aa (.e (.one (.c (.int k' j))),[bE k' j])
    |_=>ae
   |.string=>match d with
    |.e (.one (.c (.str s)))=>aa (.e (.one (.c (.str s))),[])
    |d=>match i1.desc with
     |.slice E=>match bJ T E with
      |some ie=>match ie.desc with
       |.int .u8=>match CW d with
        |some (_,k,n,es)=>match aw k 1 with
         |true=>match xq es 0 n with
          |some r=>aa (.e (.one (.c (.str r))),[])
          |none=>ae
         |false=>ae
        |none=>ae
       |_=>ae
      |none=>ae
     |_=>ae
   |_=>ae
def Fh(T:List (Nat×TI))(η:aB->D)(t:av)(x:aB)(lo hi:Option aB):Option (D×List Prop) :=
 match bJ T t with
 |none=>ae
 |some i=>match sd η lo with
  |none=>ae
  |some l=>match sd η hi with
   |none=>ae
   |some u=>match i.desc with
    |.string=>match η x with
     |.e (.one (.c (.str s)))=>aa (.e (.one (.c (.str (tk s l u)))),gb s.length l u)
     |_=>ae
    |.slice E=>match bJ T E with
     |none=>ae
     |some ie=>match CW (η x)with
      |some (tt,k,n,es)=>match aw k ie.size with
       |true=>aa (.e (.one (.c (.sl (SI tt u) ie.size (dm n u-dm 0 l) (my (dm 0 l) es)))),gb n l u)
       |false=>ae
      |none=>ae
    |_=>ae
def zB(op:BinOp)(k:IntKind)(a:Int)(k':IntKind)(b:Int):Option (D×List Prop) :=
 match CF op k a k' b with
 |some (c,obs)=>aa (.e (.one (.c (.int k c))),obs)
 |none=>ae
theorem tm{k k':IntKind}{a b:Int}{d:D}(h:zB op k a k' b=aa (d,obs)):∃c,d=.e (.one (.c (.int k c)))/\CF op k a k' b=aa (c,obs):=by unfold zB at h;grind
def Rm(T:List (Nat×TI))(op:BinOp)(t:av)(x y:D):Option (D×List Prop) :=
 match x,y with
 |.e (.one (.c (.bool a))),.e (.one (.c (.bool b)))=>match bJ T t with
  |some i=>match i.desc with
   |.bool=>match jv op (a==b)with
    |some c=>aa (.e (.one (.c (.bool c))),[])
    |none=>ae
   |_=>ae
  |none=>ae
 |.e (.one (.c a)),.e (.one (.c b))=>match op with
  |.xor=>match a,b with
   |.int .i64 a,.int .i64 b=>aa (.e (.one (.c (.int .i64 ((a.toNat ^^^ b.toNat:Nat):Int)))),[0<=a,0<=b])
   |.int .u64 a,.int k' b=>zB .xor .u64 a k' b
   |_,_=>ae
  |.shl=>match a,b with
   |.int k a,.int k' b=>zB .shl k a k' b
   |_,_=>ae
  |.shr=>match a,b with
   |.int k a,.int k' b=>zB .shr k a k' b
   |_,_=>ae
  |.and=>match a,b with
   |.int k a,.int k' b=>zB .and k a k' b
   |_,_=>ae
  |_=>match O0 op a b with
   |some (c,obs)=>aa (.e (.one (.c c)),obs)
   |none=>ae
 |.e (.agg cs),.e (.agg es)=>match bJ T t with
  |some i=>match i.eq with
   |[]=>ae
   |d::ds=>match Rn (d::ds) cs es with
    |some b=>match jv op b with
     |some c=>aa (.e (.one (.c (.bool c))),[])
     |none=>ae
    |none=>ae
  |none=>ae
 |_,_=>ae
def X4(T:List (Nat×TI))(CT:List (Nat×dJ))(φ:Fr)(o:aC):Option (D×List Prop) :=
 match o.op with
 |.move x|.assign x=>aa (bS φ x,[])
 |.index t x y=>match bJ T t with
  |some i=>match i.desc with
   |.string=>match bS φ x,bS φ y with
    |.e (.one (.c (.str l))),.e (.one (.c (.int _ j)))=>aa (.e (.one (.c (.int .u8 (jl l j).toNat))),[0<=j,j<l.length])
    |_,_=>ae
   |_=>ae
  |none=>ae
 |.indexAddr t x y=>match bJ T t with
  |some i=>match i.desc with
   |.slice E=>match bJ T E with
    |some ie=>match CW (bS φ x),bS φ y with
     |some (_,k,n,es),.e (.one (.c (.int _ j)))=>match aw k ie.size with
      |true=>aa (.e (.one (.c (.rp (es j.toNat)))),[0<=j,j<n])
      |false=>ae
     |_,_=>ae
    |none=>ae
   |_=>ae
  |none=>ae
 |.slice t x lo hi ae=>Fh T (bS φ) t x lo hi
 |.convert src dst x=>KG T src dst (bS φ x)
 |.call c=>match c.callee with
  |.builtin .len=>match c.args.toList,c.argTypes[0]? with
   |[x],aa t=>match SH T t (bS φ x)with
    |some d=>aa (d,[])
    |none=>ae
   |_,_=>ae
  |.value fo=>CX CT φ fo c.args.toList
  |_=>ae
 |.pick c a b=>match bS φ c with
  |.e (.one (.c (.bool ab)))=>aa (bS φ a,[])
  |.e (.one (.c (.bool af)))=>aa (bS φ b,[])
  |_=>ae
 |.binOp op t x y _=>Rm T op t (bS φ x) (bS φ y)
 |.unOp op _ x=>match bS φ x with
  |.e (.one (.c a))=>match X6 op a with
   |some c=>aa (.e (.one (.c c)),[])
   |none=>ae
  |_=>ae
 |.extract x j=>match bS φ x with
  |.fD xs=>match dF j xs with
   |some e=>aa (.e e,[])
   |none=>ae
  |_=>ae
 |.fieldAddr t x f=>match ki T t f with
  |some (k,_)=>match bS φ x with
   |.e (.one (.ptr l off))=>aa (.e (.one (.ptr l (off+k))),[])
   |.e (.one (.c (.rp cs)))=>aa (.e (.one (.c (.rp (fZ k cs)))),[])
   |_=>ae
  |none=>ae
 |.field t x f=>match ki T t f with
  |some (k,j)=>match bS φ x with
   |.e (.agg cs)=>match lq j (fZ k cs)with
    |some e=>aa (.e e,[])
    |none=>ae
   |_=>ae
  |none=>ae
 |.nilCheck x=>match bS φ x with
  |.e (.one (.ptr l off))=>aa (.e (.one (.ptr l off)),[])
  |.e (.one (.c (.rp cs)))=>aa (.e (.one (.c (.rp cs))),[])
  |_=>ae
 |.build t parts=>match A7 T (bS φ) t parts.toList with
  |some cs=>aa (.e (.agg cs),[])
  |none=>ae
 |.buildSlice t n parts=>match O1 T (bS φ) t n parts.toList with
  |some (k,es)=>aa (.e (.one (.c (.sl ab k n λi=>es.getD i []))),[])
  |none=>ae
 |.makeFunc fn a b=>match xt (bS φ) a.toList with
  |some ca=>match xt (bS φ) b.toList with
   |some cb=>aa (.e (.one (.c (.fn fn ca cb))),[])
   |none=>ae
  |none=>ae
 |.makeInterface t x=>match bJ T t with
  |some i=>match xu i.desc with
   |false=>match wE t (bS φ x)with
    |some c=>aa (.e (.one (.c c)),[])
    |none=>ae
   |true=>ae
  |none=>ae
 |_=>ae
def Ky(T:List (Nat×TI))(φ:Fr)(σ:List bg)(t:av)(x:aB):Option D :=
 match bJ T t with
 |some i=>match bS φ x with
  |.e (.one (.ptr l off))=>match dF l σ with
   |some (.cells _ cs)=>match lq i (fZ off cs)with
    |some e=>aa (.e e)
    |none=>ae
   |_=>ae
  |.e (.one (.c (.rp cs)))=>match lq i (cs.map A.c)with
   |some e=>aa (.e e)
   |none=>ae
  |_=>ae
 |none=>ae
def YU(T:List (Nat×TI))(φ:Fr)(o:aC):Option (D×List Prop) :=
 match o.op with
 |.indexAddr t x y=>match bJ T t with
  |some i=>match i.desc with
   |.slice E=>match bJ T E with
    |some ie=>match bS φ x,bS φ y with
     |.e (.one (.bp l (.sl g k q m))),.e (.one (.c (.int _ j)))=>match aw k ie.size with
      |true=>aa (.e (.one (.bp l (.el g ie.size (q+j.toNat) 0))),[0<=j,j<m])
      |false=>ae
     |.e (.one (.c (.val (.slice (aa ⟨b,off,ae⟩) n _)))),.e (.one (.c (.int _ j)))=>aa (.e (.one (.c (.val (.pointer (aa ⟨b,off+j.toNat*ie.size,ae⟩))))),[0<=j,j<n])
     |_,_=>ae
    |none=>ae
   |_=>ae
  |none=>ae
 |.fieldAddr t x f=>match ki T t f with
  |some (k,_)=>match bS φ x with
   |.e (.one (.bp l (.el g a i q)))=>aa (.e (.one (.bp l (.el g a i (q+k)))),[])
   |.e (.one (.c (.val (.pointer (aa ⟨b,off,ae⟩)))))=>aa (.e (.one (.c (.val (.pointer (aa ⟨b,off+k,ae⟩))))),[])
   |_=>ae
  |none=>ae
 |.nilCheck x=>match bS φ x with
  |.e (.one (.bp l (.el g a i q)))=>aa (.e (.one (.bp l (.el g a i q))),[])
  |_=>ae
 |.slice t x lo hi ae=>match bJ T t with
  |none=>ae
  |some i=>match sd (bS φ) lo with
   |none=>ae
   |some lw=>match sd (bS φ) hi with
    |none=>ae
    |some u=>match i.desc with
     |.slice E=>match bJ T E with
      |none=>ae
      |some ie=>match bS φ x with
       |.e (.one (.bp l (.sl g k q m)))=>match aw k ie.size with
        |true=>aa (.e (.one (.bp l (.sl g ie.size (q+dm 0 lw) (dm m u-dm 0 lw)))),gb m lw u)
        |false=>ae
       |_=>ae
     |_=>ae
 |.slice t x ae (aa y) (aa z)=>match bJ T t with
  |none=>ae
  |some i=>match i.desc with
   |.slice E=>match bJ T E with
    |none=>ae
    |some _=>match CW (bS φ x),bS φ y,bS φ z with
     |some (_,k,n,es),.e (.one (.c (.int _ j))),.e (.one (.c (.int _ m)))=>aa (.e (.one (.c (.sl af k j.toNat es))),[0<=j,j<=m,m<=n])
     |_,_,_=>ae
   |_=>ae
 |.slice t x (aa w) (aa y) (aa z)=>match bJ T t with
  |none=>ae
  |some i=>match i.desc with
   |.slice E=>match bJ T E with
    |none=>ae
    |some _=>match bS φ x,bS φ w,bS φ y,bS φ z with
     |.e (.one (.bp _ (.sl _ _ _ n))),.e (.one (.c (.int _ i))),.e (.one (.c (.int _ j))),.e (.one (.c (.int _ m)))=>aa (.e (.one .any),[0<=i,i<=j,j<=m,m<=n])
     |_,_,_,_=>ae
   |_=>ae
 |.call c=>match c.callee with
  |.builtin .len=>match c.args.toList,c.argTypes[0]? with
   |[x],aa t=>match bJ T t with
    |some i=>match i.desc with
     |.slice _=>match bS φ x with
      |.e (.one (.bp _ (.sl _ _ _ m)))=>aa (.e (.one (.c (.int .i64 m))),[])
      |.e (.one (.c (.val (.slice _ n _))))=>aa (.e (.one (.c (.int .i64 n))),[n<=9223372036854775807])
      |_=>ae
     |_=>ae
    |none=>ae
   |_,_=>ae
  |_=>ae
 |_=>ae
def A3(T:List (Nat×TI))(φ:Fr)(σ:List bg)(t:av)(x:aB):Option (D×List Prop) :=
 match bJ T t with
 |some it=>match bS φ x with
  |.e (.one (.bp l (.el g k i f)))=>match dF l σ with
   |some (.buf _ k' n es)=>match aw k' k with
    |true=>match lq it ((fZ f (es i)).map A.c)with
     |some e=>aa (.e e,[g=n,i<n])
     |none=>ae
    |false=>ae
   |_=>ae
  |_=>ae
 |none=>ae
def KH:Nat->List C->Nat->Bool
 |0,cc,k=>aw cc.length k
 |_+1,_,_=>af
def A8(T:List (Nat×TI))(φ:Fr)(σ:List bg)(t:av)(x y:aB):Option (D×List bg×List Prop) :=
 match bJ T t with
 |some it=>match bS φ x with
  |.e (.one (.bp l (.el g k i f)))=>match dF l σ with
   |some (.buf E k' n es)=>match aw k' k with
    |true=>match kR (bS φ y)with
     |some new=>match aw new.length it.size with
      |true=>match gX new with
       |some cc=>match KH f cc k with
        |true=>dG (dY.rA l (.buf E k' n (pW i cc es)) σ) λσ'=>aa (.any,σ',[g=n,i<n])
        |false=>match fI f cc (es i)with
         |some ci=>dG (dY.rA l (.buf E k' n (pW i ci es)) σ) λσ'=>aa (.any,σ',[g=n,i<n])
         |none=>ae
       |none=>ae
      |false=>ae
     |none=>ae
    |false=>ae
   |_=>ae
  |_=>ae
 |none=>ae
def OX(T:List (Nat×TI))(CT:List (Nat×dJ))(φ:Fr)(σ:List bg)(o:aC):Option (D×List Prop) :=
 match o.op with
 |.load t x=>match Ky T φ σ t x with
  |some d=>aa (d,[])
  |none=>A3 T φ σ t x
 |_=>match X4 T CT φ o with
  |some r=>aa r
  |none=>YU T φ o
def O2(T:List (Nat×TI))(t a:av):Option (av×TI) :=
 match bJ T t with
 |none=>ae
 |some i=>match bJ T a with
  |none=>ae
  |some i2=>match i.desc with
   |.slice E=>match i2.desc with
    |.slice E2=>match aw E2 E with
     |false=>ae
     |true=>match bJ T E with
      |none=>ae
      |some ie=>match bD 1 ie.bytes,bD 1 ie.size with
       |true,ab=>aa (E,ie)
       |_,_=>ae
    |_=>ae
   |_=>ae
def KI(T:List (Nat×TI))(η:aB->D)(y:aB)(t a:av):Option (av×TI×Nat×(Nat->List C)) :=
 match O2 T t a with
 |none=>ae
 |some (E,ie)=>match CW (η y)with
  |none=>ae
  |some (_,k',m,es')=>match aw k' ie.size with
   |false=>ae
   |true=>aa (E,ie,m,es')
def SJ(T:List (Nat×TI))(η:aB->D)(σ:List bg)(x y:aB)(t a:av):Option (D×List bg×List Prop) :=
 match KI T η y t a with
 |none=>ae
 |some (E,ie,m,es')=>match η x with
  |.e (.one (.c (.sl ab k n es)))=>match aw k ie.size with
   |true=>dG (σ++[.vec E ie.size (n+m) (cM n es es')]) λσ'=>aa (.e (.one (.vec σ.length ie.size (n+m) (cM n es es'))),σ',[(n+m)*ie.bytes<=140737488355328,n=0∨0<m])
   |false=>match aw n 0 with
    |true=>dG (σ++[.vec E ie.size (n+m) (cM n es es')]) λσ'=>aa (.e (.one (.vec σ.length ie.size (n+m) (cM n es es'))),σ',[(n+m)*ie.bytes<=140737488355328,n=0∨0<m])
    |false=>ae
  |.e (.one (.vec l k n es))=>match dF l σ with
   |some (.vec E' k2 n2 AL)=>match aw E' E,aw k ie.size,aw k2 ie.size with
    |true,ab,ab=>dG (dY.rA l (.vec E ie.size (n+m) (cM n es es')) σ) λσ'=>aa (.e (.one (.vec l ie.size (n+m) (cM n es es'))),σ',[n2=n,AL=es,(n+m)*ie.bytes<=140737488355328])
    |_,_,_=>ae
   |_=>ae
  |.e (.one (.bp l (.sl g k 0 n)))=>match dF l σ with
   |some (.buf E' k2 n2 AL)=>match aw E' E,aw k ie.size,aw k2 ie.size with
    |true,ab,ab=>dG (dY.rA l (.buf E ie.size (n2+m) (cM n2 AL es')) σ) λσ'=>aa (.e (.one (.bp l (.sl (n2+m) ie.size 0 (n2+m)))),σ',[g=n2,n=n2,(n2+m)*ie.bytes<=140737488355328])
    |_,_,_=>ae
   |_=>ae
  |_=>ae
def YV(T:List (Nat×TI))(CT:List (Nat×dJ))(φ:Fr)(σ:List bg)(o:aC):Option (D×List bg×List Prop) :=
 match o.op with
 |.alloc _|.box _ _=>X7 T φ σ o
 |.store t x y=>match X7 T φ σ o with
  |some r=>aa r
  |none=>A8 T φ σ t x y
 |.call c=>match c.callee with
  |.builtin .append=>match c.args.toList,c.argTypes.toList with
   |[x,y],[t,a]=>SJ T (bS φ) σ x y t a
   |_,_=>ae
  |.value fo=>KJ CT φ σ fo c.args.toList
  |_=>ae
 |_=>ae
def SK(T:List (Nat×TI))(η:aB->D)(x y:aB)(t a:av):Option (D×List Prop) :=
 match KI T η y t a with
 |none=>ae
 |some (_,ie,m,es')=>match η x with
  |.e (.one (.c (.sl ab k n es)))=>match aw n 0 with
   |true=>aa (.e (.one (.c (.sl af ie.size (n+m) (cM n es es')))),[(n+m)*ie.bytes<=140737488355328,n=0∨0<m])
   |false=>ae
  |_=>ae
def YW(T:List (Nat×TI))(φ:Fr)(o:aC):Option (D×List Prop) :=
 match o.op with
 |.call c=>match c.callee with
  |.builtin .append=>match c.args.toList,c.argTypes.toList with
   |[x,y],[t,a]=>SK T (bS φ) x y t a
   |_,_=>ae
  |_=>ae
 |_=>ae
def CY:List (Nat×Bool)->Nat->Option Bool
 |[],_=>ae
 |(i,b)::r,t=>match aw i t with|true=>aa b|false=>CY r t
def YL(ds:List (Nat×Bool)):Option Nat->Bool
 |none=>af
 |some t=>match CY ds (2000000+t)with
  |some ab=>ab
  |_=>af
def isW(ds:List (Nat×Bool)):Option Nat->Bool
 |none=>af
 |some t=>match CY ds (3000000+t)with
  |some ab=>ab
  |_=>af
def SL(E:av)(ie:TI)(η:aB->D)(σ:List bg)(x y:aB):Option (D×List bg×List Prop) :=
 match η x,η y with
 |.e (.one (.bp l (.sl g k 0 i))),.e (.one (.bp l' (.sl g' k' j m)))=>match aw l' l with
  |false=>ae
  |true=>match dF l σ with
   |some (.buf E' k2 n es)=>match aw E' E,aw k ie.size,aw k' ie.size,aw k2 ie.size with
    |true,ab,ab,ab=>dG (dY.rA l (.buf E ie.size n (Is i j m es)) σ) λσ'=>aa (.e (.one (.bp l (.sl n ie.size 0 (i+m)))),σ',[g=n,g'=n,i+m<=n,j+m<=n])
    |_,_,_,_=>ae
   |_=>ae
 |_,_=>ae
def appW(w:Bool)(T:List (Nat×TI))(η:aB->D)(σ:List bg)(x y:aB)(t a:av):Option (D×List bg×List Prop) :=
 match w with
 |true=>match KI T η y t a with
  |none=>ae
  |some (E,ie,m,es')=>match η x with
   |.e (.one (.c (.sl ab _ n es)))=>match aw n 0 with
    |true=>dG (σ++[.buf E ie.size (0+m) (cM 0 es es')]) λσ'=>aa (.e (.one (.bp σ.length (.sl (0+m) ie.size 0 (0+m)))),σ',[(0+m)*ie.bytes<=140737488355328])
    |false=>ae
   |_=>ae
 |false=>match O2 T t a with
  |none=>ae
  |some (E,ie)=>SL E ie η σ x y
def X8(w:Bool)(T:List (Nat×TI))(φ:Fr)(σ:List bg)(o:aC):Option (D×List bg×List Prop) :=
 match o.op with
 |.call c=>match c.callee with
  |.builtin .append=>match c.args.toList,c.argTypes.toList with
   |[x,y],[t,a]=>appW w T (bS φ) σ x y t a
   |_,_=>ae
  |_=>ae
 |_=>ae
def VG(ds:List (Nat×Bool))(T:List (Nat×TI))(CT:List (Nat×dJ))(φ:Fr)(σ:List bg)(o:aC):Option (D×List bg×List Prop) :=
 match isW ds o.dst with
 |true=>X8 ab T φ σ o
 |false=>match YV T CT φ σ o with
  |some r=>aa r
  |none=>X8 af T φ σ o
def KD(ds:List (Nat×Bool))(d:Option Nat)(x:D)(obs:List Prop):Option (D×List Prop) :=
 match d with
 |none=>aa (x,obs)
 |some t=>match CY ds t with
  |none=>aa (x,obs)
  |some b=>match x with
   |.e (.one (.c (.bool e)))=>aa (.e (.one (.c (.bool b))),lp obs [e=b])
   |_=>ae
def O3{d:Option Nat}{x y:D}{a:List Prop}(h:KD ds d x obs=aa (y,a))(b:au a):y=x/\au obs:=by
 unfold KD at h;split at h
 .grind
 .split at h
  .grind
  .split at h
   .cases h;rw[au.cat]at b;have:_=_:=b.2;grind
   grind
def xj(T:List (Nat×TI))(CT:List (Nat×dJ))(ds:List (Nat×Bool))(all:List aC)(φ:Fr)(σ:List bg)(o:aC):Option (D×Option (List bg)×List Prop) :=
 let go:Option (D×Option (List bg)×List Prop):=match OX T CT φ σ o with
  |some (x,obs)=>match KD ds o.dst x obs with
   |some (y,a)=>oU y λy=>aa (y,ae,a)
   |none=>ae
  |none=>match YL ds o.dst with
   |true=>match YW T φ o with
    |some (x,obs)=>oU x λx=>aa (x,ae,obs)
    |none=>ae
   |false=>match VG ds T CT φ σ o with
    |some (x,σ',obs)=>oU x λx=>aa (x,aa σ',obs)
    |none=>ae
 match o.guard with
 |none=>go
 |some (j,b)=>match A9 φ all j with
  |some (aa b')=>match b,b' with
   |true,ab=>go
   |false,af=>go
   |_,_=>aa (.fD [],ae,[])
  |some ae=>aa (.fD [],ae,[])
  |none=>ae
section
variable {X:Cx P}{T:List (Nat×TI)}{CT:List (Nat×dJ)}
def Hf(hT:cV P T){a:av}{ie:TI}(f:o.op=.call {callee:=.builtin .append,args:=#[x,y],argTypes:=#[t,a]})(h:O2 T t a=aa (E,ie)):lW P o x y E ie:=by
 unfold O2 at h;split at h
 .cases h
 rename_i i hi;split at h
 .cases h
 rename_i i2 U3;split at h
 case h_2=>cases h
 rename_i E g;split at h
 case h_2=>cases h
 rename_i E2 hE2;split at h
 .cases h
 rename_i d;have e:=bY d;subst e;split at h
 .cases h
 rename_i ie hie;split at h
 case h_2=>cases h
 rename_i b c;cases h;exact⟨⟨t,a,i,i2,f,hT t i hi,g,hT a i2 U3,hE2⟩,hT _ _ hie,by have:=dr b;omega,by have:=dr c;omega⟩
def Ba(hT:cV P T){b:av}{ie:TI}{m:Nat}{es':Nat->List C}(d:o.op=.call {callee:=.builtin .append,args:=#[x,y],argTypes:=#[t,b]})(h:KI T η y t b=aa (E,ie,m,es')):
  lW P o x y E ie/\∃tx,∀σ s v,du σ s v (η y)->Rd s.M v (.sl tx ie.size m es'):=by
 unfold KI at h;split at h
 .cases h
 rename_i e;split at h
 .cases h
 rename_i tx k' m es' hy;split at h
 .cases h
 rename_i a;have c:=bY a;subst c;cases h;exact⟨Hf hT d e,tx,λσ s v=>qW hy σ s v⟩
theorem O4(hT:cV P T)(j:∀σ s a,cx N σ s φ a->bl o (yielded all.toArray a.tmps)=ab){f:av}{d:D}(i:o.op=.call {callee:=.builtin .append,args:=#[x,y],argTypes:=#[t,f]})(h:SK T (bS φ) x y t f=aa (d,obs))(b:au obs):OA X N all o φ σ d σ:=by
 unfold SK at h;split at h
 .cases h
 rename_i E2 ie m es' hY;obtain⟨e,tx,c⟩:=Ba hT i hY;have c:=λs v=>c σ s v;split at h
 .rename_i k n es hx;split at h
  .rename_i g;cases h;exact(OA.lL j (bL.pL e hx (.inr (bY g)) c b.1 b.2)).CU
  grind
 grind
theorem O5(hT:cV P T){B:av}{d:D}(G:o.op=.call {callee:=.builtin .append,args:=#[x,y],argTypes:=#[t,B]})(h:SJ T η σ x y t B=aa (d,σ',obs))(a:au obs):bL P o η σ d σ':=by
 unfold SJ at h;split at h
 .cases h
 rename_i E2 ie m es' hY;obtain⟨b,tx,c⟩:=Ba hT G hY;have c:=λs v=>c σ s v;split at h
 .rename_i k n es hx;split at h
  .rename_i hk;rw[di]at h;cases h;exact bL.pL b hx (.inl (bY hk)) c a.1 a.2
  .split at h
   .rename_i C;rw[di]at h;cases h;exact bL.pL b hx (.inr (bY C)) c a.1 a.2
   grind
 .rename_i l k n es hx;split at h
  .rename_i E F e AL hl;split at h
   .rename_i A f z;rw[di,jA]at h;cases h;obtain⟨i,r,j⟩:e=n/\AL=es/\_:=a;subst i;subst r;have q:=bY A;subst q;have u:=bY f;have w:=bY z;subst w;subst u;exact bL.Iv b hx (b7 hl) c j
   grind
  grind
 .rename_i l g k n hx;split at h
  .rename_i E F e AL hl;split at h
   .rename_i A f z;rw[di,jA]at h;cases h;obtain⟨i,r,j⟩:g=e/\n=e/\_:=a;subst i;subst r;have q:=bY A;subst q;have u:=bY f;have w:=bY z;subst w;subst u;exact bL.O6 b hx (b7 hl) c j
   grind
  grind
 grind
theorem O7(hT:cV P T){d:D}(a:o.op=.call {callee:=.builtin .len,args:=#[x],argTypes:=jU})(c:jU[0]?=aa t)(h:SH T t (η x)=aa d):bL P o η σ d σ:=by
 unfold SH at h;split at h
 .cases h
 rename_i i hi;split at h
 .rename_i E b;split at h
  .rename_i tt k n es hs;cases h;exact bL.VO hT a c hi b (λs v=>qW hs σ s v)
  grind
 .grind [bL.SM]
 grind
theorem KL(hT:cV P T){c a:av}{d:D}(l:o.op=.convert c a x)(h:KG T c a (η x)=aa (d,obs))(b:au obs):bL P o η σ d σ:=by
 unfold KG at h;split at h
 .cases h
 rename_i i hi;split at h
 .cases h
 rename_i i2 U3;split at h
 .rename_i k' hd;split at h
  .rename_i k j m;cases h;exact bL.O8 hT l hi U3 hd m b
  grind
 .rename_i hd;split at h
  .grind [bL.O9]
  .split at h
   .rename_i E f;split at h
    .rename_i ie hE;split at h
     .rename_i g;split at h
      .rename_i tt k n es hs;split at h
       .rename_i hk;have e:=bY hk;subst e;split at h
        .rename_i r q;cases h;exact bL.IB hT l hi U3 f hd hE g (λs v=>qW hs σ s v) q
        grind
       grind
      grind
     grind
    grind
   grind
 grind
theorem IC(hT:cV P T){lo hi:Option aB}{d:D}(e:o.op=.slice t x lo hi ae)(h:Fh T η t x lo hi=aa (d,obs))(a:au obs):bL P o η σ d σ:=by
 unfold Fh at h;split at h
 .cases h
 rename_i i b;split at h
 .cases h
 rename_i l f;split at h
 .cases h
 rename_i u c;split at h
 .grind [bL.KM]
 .grind [Nat.eq_of_beq_eq_true,bL.Pa,qW]
 grind
theorem xw{xs:Array α}{x:α}(h:xs.toList=[x]):xs=#[x]:=Array.ext' h
theorem xx{xs:Array α}{x y:α}(h:xs.toList=[x,y]):xs=#[x,y]:=Array.ext' h
theorem SN(hT:cV P T)(L:bH X CT){d:D}(h:X4 T CT φ o=aa (d,obs))(g:au obs)(u:∀σ s a,cx N σ s φ a->bl o (yielded all.toArray a.tmps)=ab):OA X N all o φ σ d σ:=by
 unfold X4 at h;split at h
 .grind [OA.lL,bL.move]
 .grind [OA.lL,bL.assign]
 .rename_i t x y w;split at h
  .rename_i i hi;split at h
   .rename_i C;split at h
    .rename_i l k j r B;cases h;obtain⟨K,H⟩:0<=j/\j<(l.length:Int):=g;have:=bL.KN (σ:=σ) (m:=j.toNat) hT w hi C r B (by omega) (by omega);have e:jl l j=l[j.toNat]'(by omega):=by simp[jl,aj,bn (by omega:j.toNat<l.length)]
     grind[OA.lL]
    grind
   grind
  grind
 .rename_i t x y w;split at h
  .rename_i i hi;split at h
   .rename_i E C;split at h
    .rename_i ie hE;split at h
     .rename_i tt k n es k2 j r B;split at h
      .rename_i hk;cases h;obtain⟨K,H⟩:0<=j/\j<(n:Int):=g;have e:=bY hk;subst e;exact OA.lL u (bL.indexAddr (m:=j.toNat) hT w hi C hE (λs v=>qW r σ s v) B (by omega) (by omega))
      grind
     grind
    grind
   grind
  grind
 .grind [OA.lL,IC]
 .grind [OA.lL,KL]
 .rename_i c w;obtain⟨J,args,jU⟩:=c;grind[xw,OA.lL,O7,OA.CX]
 .rename_i c a b q;split at h
  .rename_i A;cases h;exact OA.lL u (bL.pick q A)
  .rename_i A;cases h;exact OA.lL u (bL.pick q A)
  grind
 .rename_i op t y z ty q;unfold Rm at h;split at h
  .grind [OA.lL,bL.SP]
  .rename_i a b _ F G;split at h
   .split at h
    .rename_i _ _ a' b' _ _;cases h;exact OA.lL u (bL.VP q F G g.1 g.2)
    .grind [tm,OA.lL,bL.bits]
    grind
   .grind [tm,OA.lL,bL.bits]
   .grind [tm,OA.lL,bL.bits]
   .grind [tm,OA.lL,bL.bits]
   grind[OA.lL,bL.binOp]
  .rename_i cs es F G;split at h
   .grind [OA.lL,bL.structEq]
   grind
  grind
 .grind [OA.lL,bL.unOp]
 .grind [OA.lL,bL.extract,b7]
 .rename_i t y f q;split at h
  .rename_i k j I;split at h
   .rename_i l off r;cases h;exact OA.lL u (bL.tn hT q r I)
   .grind [OA.lL,bL.vh]
   grind
  grind
 .grind [OA.lL,bL.field]
 .grind [OA.lL,bL.vj,bL.xy]
 .grind [OA.lL,bL.build]
 .grind [OA.lL,bL.buildSlice]
 .grind [OA.lL,bL.makeFunc]
 .grind [OA.lL,bL.makeInterface]
 grind
theorem SQ(hT:cV P T){d:D}(h:YU T φ o=aa (d,obs))(e:au obs):bL P o (bS φ) σ d σ:=by
 unfold YU at h;split at h
 .rename_i t x y u;split at h
  .rename_i i hi;split at h
   .rename_i E B;split at h
    .rename_i ie hE;split at h
     .rename_i l g k q m kk j r C;split at h
      .rename_i hk;cases h;obtain⟨G,F⟩:0<=j/\j<(m:Int):=e;grind[Nat.eq_of_beq_eq_true,bL.YX]
      grind
     .rename_i b off n cap kk j r C;cases h;obtain⟨G,F⟩:0<=j/\j<(n:Int):=e;grind[bL.CZ]
     grind
    grind
   grind
  grind
 .rename_i t x f u;split at h
  .rename_i k j H;split at h
   .rename_i l g O i q r;cases h;exact bL.SR hT u r H
   .rename_i b off r;cases h;exact bL.SU hT u r H
   grind
  grind
 .grind [bL.YY]
 .rename_i t x lo hi u;split at h
  .cases h
  rename_i i A;split at h
  .cases h
  rename_i S R;split at h
  .cases h
  grind[Nat.eq_of_beq_eq_true,bL.sliceB]
 .rename_i t x y z u;split at h
  .cases h
  rename_i i A;split at h
  .rename_i E B;split at h
   .cases h
   rename_i ie hE;split at h
   .rename_i tt k n es kj j M m r C J;cases h;obtain⟨G,F,I⟩:0<=j/\j<=m/\m<=(n:Int):=e;exact bL.slice3 hT u A B hE (λs v=>qW r σ s v) C J G F I
   grind
  grind
 .rename_i t x w y z u;split at h
  .cases h
  rename_i i A;split at h
  .rename_i E B;split at h
   .cases h
   rename_i ie hE;split at h
   .rename_i l g k q n N i kj j M m r U C J;cases h;obtain⟨G,F,I,Q⟩:0<=i/\i<=j/\j<=m/\m<=(n:Int):=e;grind[bL.slice3B]
   grind
  grind
 .rename_i c u;obtain⟨K,args,jU⟩:=c;simp only at h;split at h
  .split at h
   .rename_i x t r L;split at h
    .rename_i i hi;split at h
     .rename_i E B;split at h
      .grind [xw,bL.YZ]
      .rename_i a n cap hxx;cases h;have:=xw r;subst this;exact bL.Y0 hT u L hi B hxx e
      grind
     grind
    grind
   grind
  grind
 grind
theorem ID(hT:cV P T)(j:o.op=.load t x){d:D}(h:A3 T φ σ t x=aa (d,obs))(a:au obs):bL P o (bS φ) σ d σ:=by
 unfold A3 at h;split at h
 .rename_i m hi;split at h
  .rename_i l g k i f b;split at h
   .rename_i E k' n es hB;split at h
    .rename_i hk;have e:=bY hk;subst e;split at h
     .rename_i e c;cases h;exact bL.VQ hT j b a.1 (b7 hB) hi c a.2
     grind
    grind
   grind
  grind
 grind
theorem Fi(hT:cV P T)(q:o.op=.store t x y){d:D}(h:A8 T φ σ t x y=aa (d,σ',obs))(a:au obs):bL P o (bS φ) σ d σ':=by
 unfold A8 at h;split at h
 .rename_i r hi;split at h
  .rename_i l g k i f j;split at h
   .rename_i E k' n es hB;split at h
    .rename_i hk;have e:=bY hk;subst e;split at h
     .rename_i new hy;split at h
      .rename_i c;split at h
       .rename_i cc Ra;split at h
        .rename_i m;rw[di,jA]at h;cases h;have b:f=0/\cc.length=k':=by
          cases f with
          |zero=>exact⟨rfl,bY m⟩
          |succ f=>simp[KH]at m
         obtain⟨rfl,b⟩:=b;exact bL.KO hT q j a.1 (b7 hB) hi hy (bY c) Ra (λs=>tp (by grind)) a.2
        .split at h
         .rename_i ci Y1;rw[di,jA]at h;cases h;exact bL.KO hT q j a.1 (b7 hB) hi hy (bY c) Ra (λ_=>Y1) a.2
         grind
       grind
      grind
     grind
    grind
   grind
  grind
 grind
theorem SV(hT:cV P T)(e:bH X CT){d:D}(h:OX T CT φ σ o=aa (d,obs))(b:au obs)(g:∀σ s a,cx N σ s φ a->bl o (yielded all.toArray a.tmps)=ab):OA X N all o φ σ d σ:=by
 unfold OX at h;split at h
 .rename_i t y f;split at h
  .rename_i i c;cases h;unfold Ky at c;split at c
   .grind [OA.lL,bL.Hg,b7,bL.KP]
   grind
  grind[OA.lL,ID]
 grind[SN,OA.lL,SQ]
theorem SW(hT:cV P T)(f:bH X CT){d:D}(h:YV T CT φ σ o=aa (d,σ',obs))(b:au obs)(i:∀σ s a,cx N σ s φ a->bl o (yielded all.toArray a.tmps)=ab):OA X N all o φ σ d σ':=by
 unfold YV at h;split at h
 .grind [OA.lL,Fj]
 .grind [OA.lL,Fj]
 .grind [OA.lL,Fj,Fi]
 .rename_i c g;obtain⟨e,args,jU⟩:=c;grind[xx,OA.lL,O5,OA.call]
 grind
def Pb{ie:TI}{d:D}(b:lW P o x y E ie)(h:SL E ie η σ x y=aa (d,σ',obs))(a:au obs):bL P o η σ d σ':=by
 unfold SL at h;split at h
 .rename_i l g k i l' g' k' j m f w;split at h
  .cases h
  rename_i c;have el:=bY c;subst el;split at h
  .rename_i B C n es hl;split at h
   .rename_i v q2 q3 q4;have e:=bY v;have r:=bY q2;have A:=bY q3;have q:=bY q4;rw[di]at h;cases h;obtain⟨z,t,s,u⟩:=a;subst z t e r A q;have:=bL.Ke (σ:=σ) b f w (b7 hl) s u;grind[jA]
   grind
  grind
 grind
theorem Pc(hT:cV P T){w:Bool}{e:av}{d:D}(f:o.op=.call {callee:=.builtin .append,args:=#[x,y],argTypes:=#[t,e]})(h:appW w T η σ x y t e=aa (d,σ',obs))(a:au obs):bL P o η σ d σ':=by
 unfold appW at h;split at h
 .split at h
  .cases h
  rename_i E2 ie m es' hY;obtain⟨b,tx,c⟩:=Ba hT f hY;split at h
  .rename_i k n es hx;split at h
   .rename_i g;have j:=bY g;subst j;rw[di]at h;cases h;exact bL.Ir b hx (λs v=>c _ s v) a
   grind
  grind
 .split at h
  .cases h
  rename_i i;exact Pb (Hf hT f i) h a
theorem SX(hT:cV P T)(f:bH X CT){d:D}(h:VG ds T CT φ σ o=aa (d,σ',obs))(b:au obs)(i:∀σ s a,cx N σ s φ a->bl o (yielded all.toArray a.tmps)=ab):OA X N all o φ σ d σ':=by
 have key:∀w,X8 w T φ σ o=aa (d,σ',obs)->OA X N all o φ σ d σ':=by
  intro w h;unfold X8 at h;split at h
  .rename_i c g;obtain⟨e,args,jU⟩:=c;grind[xx,OA.lL,Pc]
  grind
 unfold VG at h;grind[SW]
def gV(hT:cV P T)(v:bH X CT){d:D}{σ':Option (List bg)}(h:xj T CT ds all φ σ o=aa (d,σ',obs))(l:au obs):OA X N all o φ σ d (σ'.getD σ):=by
 have go:(∀σ s a,cx N σ s φ a->bl o (yielded all.toArray a.tmps)=ab)->(match OX T CT φ σ o with
  |some (x,obs)=>match KD ds o.dst x obs with
   |some (y,g)=>oU y λy=>aa (y,ae,g)
   |none=>ae
  |none=>match YL ds o.dst with
   |true=>match YW T φ o with
    |some (x,obs)=>oU x λx=>aa (x,ae,obs)
    |none=>ae
   |false=>match VG ds T CT φ σ o with
    |some (x,σ',obs)=>oU x λx=>aa (x,aa σ',obs)
    |none=>ae)=aa (d,σ',obs)->OA X N all o φ σ d (σ'.getD σ):=by
  intro B h;split at h
  .rename_i x i w;split at h
   .rename_i y q t;rw[nY]at h;cases h;obtain⟨rfl,z⟩:=O3 t l;grind[SV]
   grind
  .split at h
   .split at h
    .rename_i x i n;rw[nY]at h;cases h;unfold YW at n;split at n
     .rename_i c A;obtain⟨u,args,jU⟩:=c;grind[xx,O4]
     grind
    grind
   grind[nY,SX]
 unfold xj at h;simp only at h;split at h
 .grind [dM]
 .rename_i j b k;split at h
  .rename_i m e;have r:∀σ s a,cx N σ s φ a->bl o (yielded all.toArray a.tmps)=(aa m==aa b):=λσ s a f=>by simp only[bl,k,qX e f]
   split at h
   .grind
   .grind
   .cases h;refine OA.pass (λσ s a f=>(r σ s a f).trans ?_);cases b<;>cases m<;>simp_all
  .rename_i e;cases h;exact OA.pass (λσ s a f=>by simp only[bl,k,qX e f];rfl)
  grind
end
variable {CT:List (Nat×dJ)}{K:List It}{Qf:Post}{T:List (Nat×TI)}{ie:TI}
def J2(φ:Fr)(o:aC):Bool:=match o.op with
 |.load _ x=>match bS φ x with
  |.e (.one (.c (.rp _)))=>af
  |_=>ab
 |_=>af
def Kx{σ2:List bg}(h:J2 φ o=af):OX T CT φ σ o=OX T CT φ σ2 o:=by
 unfold OX;split
 .rename_i t x a;simp only[J2,a]at h;split at h
  .rename_i cs hx;simp only[Ky,A3,hx]
  grind
 .rfl
def Kz{d:D}(h:J2 φ o=af)(a:xj T CT ds all φ σ o=aa (d,ae,obs))(σ2:List bg):
  xj T CT ds all φ σ2 o=aa (d,ae,obs):=by
 unfold xj at a⊢;simp only at a⊢;rw[Kx (σ2:=σ) h];cases c:OX T CT φ σ o with
 |some r=>grind
 |none =>
  simp only[c]at a⊢;cases b:YL ds o.dst with
  |true=>grind
  |false =>
   simp only[b]at a⊢;have key:∀{y:Option (D×Option (List bg)×List Prop)},(match VG ds T CT φ σ o with|some (x,σ',obs)=>oU x λx=>aa (x,aa σ',obs)|none=>ae)=y->y≠aa (d,ae,obs):=by grind[nY]
   split at a
   .grind
   grind
def pU(t:Nat):List aC->Bool
 |[]=>af
 |o::r=>match o.dst with
  |some d=>match aw d t with|true=>ab|false=>pU t r
  |none=>pU t r
theorem tf{t:Nat}:∀{l:List aC}{i:Nat}{o:aC},l[i]?=aa o->o.dst=aa t->pU t l=ab
 |[],_,_,h,_=>by grind
 |p::r,0,o,h,a=>by simp at h;subst h;simp[pU,a,j4]
 |p::r,i+1,o,h,a=>by have:=tf (l:=r) (by simpa using h) a;simp only[pU];grind
theorem qU{t:Nat}:∀{l:List aC},pU t l=ab->∃(i:Nat)(o:aC),l[i]?=aa o/\o.dst=aa t
 |[],h=>by cases h
 |p::r,h=>by
  simp only[pU]at h;split at h
  .rename_i d e;split at h
   .rename_i c;exact⟨0,p,rfl,by grind[Nat.eq_of_beq_eq_true]⟩
   .obtain⟨i,o,b,a⟩:=qU h;exact⟨i+1,o,by grind,a⟩
  .obtain⟨i,o,b,a⟩:=qU h;exact⟨i+1,o,by grind,a⟩
def m7:List aC->Bool
 |[]=>ab
 |o::r=>match o.dst with
  |some d=>match pU d r with|true=>af|false=>m7 r
  |none=>m7 r
theorem uq{t:Nat}:∀{l:List aC}{i j:Nat}{o p:aC},m7 l=ab->l[i]?=aa o->l[j]?=aa p->o.dst=aa t->p.dst=aa t->i=j
 |[],_,_,_,_,_,h,_,_,_=>by grind
 |q::r,0,0,_,_,_,_,_,_,_=>rfl
 |q::r,0,j+1,o,p,a,c,b,d1,d2=>by simp at c;subst c;simp only[m7,d1]at a;grind[tf]
 |q::r,i+1,0,o,p,a,c,b,d1,d2=>by simp at b;subst b;simp only[m7,d2]at a;grind[tf]
 |q::r,i+1,j+1,o,p,a,c,b,d1,d2=>by
  have:m7 r=ab:=by simp only[m7]at a;grind
  have f:r[i]?=aa o:=by grind
  have d:r[j]?=aa p:=by grind
  have e:=uq this f d d1 d2;omega
def vR(all:List aC):Fr->Fr
 |[]=>[]
 |(t,d)::r=>match pU t all with|true=>vR all r|false=>(t,d)::vR all r
def mg{all:List aC}{t:Nat}:∀{φ:Fr},look (vR all φ) t=if pU t all=ab then .any else look φ t
 |[]=>by simp[vR,look]
 |(u,d)::r=>by
  simp only[vR];by_cases b:aw u t=ab
  .have e:=bY b;subst e;cases c:pU u all with
   |true=>simp only;rw[mg];grind
   |false=>simp[look]
  .have a:aw u t=af:=by grind
   cases c:pU u all with
   |true=>simp only;rw[mg];simp[look,a]
   |false=>simp only[look,a,cond];rw[mg]
def bZ:List Edge->List Nat
 |[]=>[]
 |e::r=>match e.ground with
  |.textOnly _=>bZ r
  |.gcOnly _=>bZ r
  |_=>e.on::bZ r
theorem eY{j:Nat}:∀{l:List Edge},j∈bZ l↔∃e∈l,dv e=ab/\e.on=j
 |[]=>by simp[bZ]
 |e::r=>by
  have c:=eY (j:=j) (l:=r);have yes:bZ (e::r)=e.on::bZ r->dv e=ab->(j∈bZ (e::r)↔∃a∈e::r,dv a=ab/\a.on=j):=by grind
  have no:bZ (e::r)=bZ r->dv e=af->(j∈bZ (e::r)↔∃a∈e::r,dv a=ab/\a.on=j):=by grind
  cases b:e.ground with
  |textOnly w=>exact no (by simp only[bZ,b]) (by unfold dv Region.binds;grind)
  |gcOnly w=>exact no (by simp only[bZ,b]) (by unfold dv Region.binds;grind)
  |_=>exact yes (by simp only[bZ,b]) (by unfold dv Region.binds;rw[b])
def xk(i t:Nat):List aC->Bool
 |[]=>af
 |o::r=>match o.dst with
  |some d=>match aw d t with
   |true=>match iF i (bZ o.after.toList)with
    |true=>xk i t r
    |false=>ab
   |false=>xk i t r
  |none=>xk i t r
def xm{i t:Nat}:∀{l:List aC},xk i t l=af->∀(j:Nat)(o:aC),l[j]?=aa o->o.dst=aa t->iF i (bZ o.after.toList)=ab
 |[],_,j,o,h,_=>by grind
 |p::r,h,0,o,a,b=>by simp at a;subst a;simp only[xk,b,j4]at h;grind
 |p::r,h,j+1,o,a,b=>by
  have:xk i t r=af:=by simp only[xk]at h;grind
  exact xm this j o (by grind) b
def pV(all:List aC):Fr->List (Nat×D×Bool)
 |[]=>[]
 |(t,d)::r=>match pU t all with
  |true=>(t,d,ab)::pV all r
  |false=>(t,d,af)::pV all r
def lx(i:Nat)(all:List aC):List (Nat×D×Bool)->Fr
 |[]=>[]
 |(t,d,b)::r=>match b with
  |false=>(t,d)::lx i all r
  |true=>match xk i t all with
   |true=>lx i all r
   |false=>(t,d)::lx i all r
def zy{i:Nat}{all:List aC}{t:Nat}:∀{φ:Fr},look (lx i all (pV all φ)) t=if pU t all=ab/\xk i t all=ab then .any else look φ t
 |[]=>by simp[pV,lx,look]
 |(u,d)::r=>by
  have f:=zy (i:=i) (all:=all) (t:=t) (φ:=r);have e:look ((u,d)::lx i all (pV all r)) t=if aw u t=ab then d else look (lx i all (pV all r)) t:=by simp only[look];cases aw u t<;>rfl
  have b:look ((u,d)::r) t=if aw u t=ab then d else look r t:=by simp only[look];cases aw u t<;>rfl
  cases a:pU u all with
  |false =>
   simp only[pV,a,lx];grind[Nat.eq_of_beq_eq_true]
  |true =>
   cases c:xk i u all with
   |true =>
    simp only[pV,a,lx,c];grind[Nat.eq_of_beq_eq_true]
   |false =>
    simp only[pV,a,lx,c];grind[Nat.eq_of_beq_eq_true]
def jQ(m:Nat->Bool):Nat->List (Option Nat×D)->Fr->Fr
 |_,[],φ=>φ
 |i,(d,x)::r,φ=>match m i with
  |true=>match d with
   |some t=>(t,x)::jQ m (i+1) r φ
   |none=>jQ m (i+1) r φ
  |false=>jQ m (i+1) r φ
def nZ{m:Nat->Bool}{φ:Fr}{t:Nat}:∀{l:List (Option Nat×D)}{i:Nat},(∃j x,l[j]?=aa (aa t,x)/\m (i+j)=ab/\look (jQ m i l φ) t=x)∨look (jQ m i l φ) t=look φ t
 |[],i=>.inr rfl
 |(d,x)::r,i=>by
  have k:=nZ (m:=m) (φ:=φ) (t:=t) (l:=r) (i:=i+1);have step:look (jQ m i ((d,x)::r) φ) t=look (jQ m (i+1) r φ) t->((∃j a,((d,x)::r)[j]?=aa (aa t,a)/\m (i+j)=ab/\look (jQ m i ((d,x)::r) φ) t=a)∨look (jQ m i ((d,x)::r) φ) t=look φ t):=by
   intro e;rw[e];rcases k with⟨j,a,o,n,f⟩|h
   .exact .inl ⟨j+1,a,by grind,by grind,f⟩
   grind
  cases b:m i with
  |false=>exact step (by simp[jQ,b])
  |true =>
   cases d with
   |none=>exact step (by simp[jQ,b])
   |some u =>
    by_cases g:aw u t=ab
    .have e:=bY g;subst e;exact .inl ⟨0,x,rfl,by grind,by simp[jQ,b,look]⟩
    .have c:aw u t=af:=by grind
     exact step (by simp[jQ,b,look,c])
structure EU where
 i:Nat
 pre:List (Option Nat×D)
 σ:List bg
 cls:List (List Bool)
 A4:List Bool
 OY:List Bool
 obs:List Prop
def U1(i:Nat):List Nat->Bool
 |[]=>ab
 |k::r=>match Nat.blt k i with|true=>U1 i r|false=>af
def Fc{i:Nat}:∀{l:List Nat},U1 i l=ab->∀k∈l,k<i
 |[],_,k,h=>by grind
 |x::r,h,k,hk=>by
  simp only[U1]at h;cases a:Nat.blt x i with
  |false=>grind
  |true =>
   simp only[a]at h;rcases eb.1 hk with rfl|hk
   .exact dr a
   .exact Fc h k hk
def bit:List Bool->Nat->Bool
 |[],_=>af
 |b::_,0=>b
 |_::r,n+1=>bit r n
def ze:List Bool->List Bool->List Bool
 |[],b=>b
 |true::a,[]=>ab::a
 |false::a,[]=>af::a
 |true::a,_::b=>ab::ze a b
 |false::a,ab::b=>ab::ze a b
 |false::a,af::b=>af::ze a b
def m8:∀{a b:List Bool}{j:Nat},bit (ze a b) j=(bit a j||bit b j)
 |[],b,j=>by simp[ze,bit]
 |true::a,[],j=>by simp[ze,bit]
 |false::a,[],j=>by simp[ze,bit]
 |true::a,c::b,0=>by simp[ze,bit]
 |true::a,c::b,j+1=>by simp only[ze,bit];exact m8
 |false::a,ab::b,0=>by simp[ze,bit]
 |false::a,ab::b,j+1=>by simp only[ze,bit];exact m8
 |false::a,af::b,0=>by simp[ze,bit]
 |false::a,af::b,j+1=>by simp only[ze,bit];exact m8
def ur:Nat->List Bool
 |0=>[ab]
 |n+1=>af::ur n
theorem tg:∀{n j:Nat},bit (ur n) j=decide (n=j)
 |0,0=>rfl
 |0,j+1=>by simp[ur,bit]
 |n+1,0=>by simp[ur,bit]
 |n+1,j+1=>by simp only[ur,bit,tg];simp
def Hb(a:List (List Bool)):List Nat->List Bool
 |[]=>[]
 |e::r=>match dF e a with
  |some c=>ze (ze c (ur e)) (Hb a r)
  |none=>ze (ur e) (Hb a r)
theorem A5{b:List (List Bool)}{j:Nat}:∀{l:List Nat},bit (Hb b l) j=ab->∃e∈l,e=j∨∃c,b[e]?=aa c/\bit c j=ab
 |[],h=>by simp[Hb,bit]at h
 |e::r,h=>by
  simp only[Hb,fE]at h;have two:∀{a:Nat},bit (ur e) a=ab->e=a:=by grind[tg]
  have rest:bit (Hb b r) j=ab->∃d∈e::r,d=j∨∃c,b[d]?=aa c/\bit c j=ab:=by intro h;obtain⟨d,i,f⟩:=A5 h;grind
  split at h
  .rename_i c g;rw[m8,m8,j3,j3]at h;grind
  .rw[m8,j3]at h;grind
def uu:List Bool->List Bool->Bool
 |[],_=>ab
 |true::a,ab::b=>uu a b
 |true::_,_=>af
 |false::a,_::b=>uu a b
 |false::a,[]=>uu a []
theorem qV:∀{a b:List Bool}{j:Nat},uu a b=ab->bit a j=ab->bit b j=ab
 |[],b,j,_,d=>by simp[bit]at d
 |true::a,ab::b,0,_,_=>rfl
 |true::a,ab::b,j+1,h,d=>by simp only[bit]at d⊢;exact qV (by simpa[uu]using h) d
 |true::a,af::b,j,h,_=>by simp[uu]at h
 |true::a,[],j,h,_=>by simp[uu]at h
 |false::a,c::b,0,_,d=>by simp[bit]at d
 |false::a,c::b,j+1,h,d=>by simp only[bit]at d⊢;exact qV (by simpa[uu]using h) d
 |false::a,[],0,_,d=>by simp[bit]at d
 |false::a,[],j+1,h,d=>by simp only[bit]at d;have:=qV (j:=j) (by simpa[uu]using h) d;simp[bit]at this
def th(T:List (Nat×TI))(CT:List (Nat×dJ))(N:Nat)(ds:List (Nat×Bool))(all:List aC)(φm:List (Nat×D×Bool))(st:EU)(o:aC):Option EU :=
 match gm N o.dst with
 |false=>ae
 |true =>
  dG (bZ o.after.toList) λes =>
  match U1 st.i es with
  |false=>ae
  |true=>match xj T CT ds all (jQ (λj=>iF j es) 0 st.pre (lx st.i all φm)) st.σ o with
   |none=>ae
   |some (x,σ',obs) =>
    dG (Hb st.cls es) λcl =>
    match σ',J2 (jQ (λj=>iF j es) 0 st.pre (lx st.i all φm)) o with
    |none,af=>dG (st.pre++[(o.dst,x)]) λpre=>dG (st.cls++[cl]) λcls=>dG (lp obs st.obs) λobs=>aa ⟨st.i+1,pre,st.σ,cls,st.A4,st.OY,obs⟩
    |none,ab=>match uu st.A4 cl with
     |true=>dG (st.pre++[(o.dst,x)]) λpre=>dG (st.cls++[cl]) λcls=>dG (lp obs st.obs) λobs=>dG (ze st.OY (ur st.i)) λa=>aa ⟨st.i+1,pre,st.σ,cls,st.A4,a,obs⟩
     |false=>ae
    |some σ',_=>match uu st.OY cl with
     |true=>dG (st.pre++[(o.dst,x)]) λpre=>dG (st.cls++[cl]) λcls=>dG (lp obs st.obs) λobs=>dG (ze st.OY (ur st.i)) λa=>dG (ze st.A4 (ur st.i)) λb=>aa ⟨st.i+1,pre,σ',cls,b,a,obs⟩
     |false=>ae
def OZ(T:List (Nat×TI))(CT:List (Nat×dJ))(N:Nat)(ds:List (Nat×Bool))(all:List aC)(φm:List (Nat×D×Bool)):List aC->EU->Option EU
 |[],st=>aa st
 |o::r,st=>match th T CT N ds all φm st o with
  |some rB=>OZ T CT N ds all φm r rB
  |none=>ae
def Hc(T:List (Nat×TI))(CT:List (Nat×dJ))(N:Nat)(ds:List (Nat×Bool))(all:List aC)(φ:Fr)(σ:List bg):Option (Fr×List bg×List Prop) :=
 match m7 all with
 |false=>ae
 |true=>dG (pV all φ) λφm=>match OZ T CT N ds all φm all ⟨0,[],σ,[],[],[],[]⟩with
  |some st=>dG (jQ (λ_=>ab) 0 st.pre (vR all φ)) λφ'=>aa (φ',st.σ,st.obs)
  |none=>ae
def jY:aC:=⟨ae,.move (.tmp 0),0,"",#[],ae⟩
section
variable (T:List (Nat×TI))(CT:List (Nat×dJ))(N:Nat)(ds:List (Nat×Bool))(all:List aC)(φm:List (Nat×D×Bool))
def zf(st:EU):Nat->EU
 |0=>st
 |i+1=>(th T CT N ds all φm (zf st i) (all.getD i jY)).getD (zf st i)
def Rh(st:EU)(i:Nat):Fr:=jQ (λj=>iF j (bZ (all.getD i jY).after.toList)) 0 (zf T CT N ds all φm st i).pre (lx (zf T CT N ds all φm st i).i all φm)
def Hd(st:EU)(i:Nat):Option (D×Option (List bg)×List Prop):=xj T CT ds all (Rh T CT N ds all φm st i) (zf T CT N ds all φm st i).σ (all.getD i jY)
def xD(st:EU)(i:Nat):D:=match Hd T CT N ds all φm st i with|some (x,_,_)=>x|none=>.any
def pC(st:EU)(i:Nat):Bool:=match Hd T CT N ds all φm st i with|some (_,aa _,_)=>ab|_=>af
def vg(st:EU)(i:Nat):Bool:=!J2 (Rh T CT N ds all φm st i) (all.getD i jY)&&!pC T CT N ds all φm st i
def Ri(st:EU)(i:Nat):List Bool:=Hb (zf T CT N ds all φm st i).cls (bZ (all.getD i jY).after.toList)
end
section
variable {T:List (Nat×TI)}{CT:List (Nat×dJ)}{N:Nat}{ds:List (Nat×Bool)}{all:List aC}{φm:List (Nat×D×Bool)}
structure KA(T:List (Nat×TI))(CT:List (Nat×dJ))(N:Nat)(ds:List (Nat×Bool))(all:List aC)(φm:List (Nat×D×Bool))(st rB:EU)(o:aC)(x:D)(σ':Option (List bg))(obs:List Prop):Prop where
 dst:gm N o.dst=ab
 lt:U1 st.i (bZ o.after.toList)=ab
 op:xj T CT ds all (jQ (λj=>iF j (bZ o.after.toList)) 0 st.pre (lx st.i all φm)) st.σ o=aa (x,σ',obs)
 i:rB.i=st.i+1
 pre:rB.pre=st.pre++[(o.dst,x)]
 cls:rB.cls=st.cls++[Hb st.cls (bZ o.after.toList)]
 σ:rB.σ=σ'.getD st.σ
 obs:rB.obs=lp obs st.obs
 eff:rB.A4=if σ'.isSome=ab then ze st.A4 (ur st.i)else st.A4
 nf:rB.OY=if(J2 (jQ (λj=>iF j (bZ o.after.toList)) 0 st.pre (lx st.i all φm)) o||σ'.isSome)=ab then ze st.OY (ur st.i)else st.OY
 load:J2 (jQ (λj=>iF j (bZ o.after.toList)) 0 st.pre (lx st.i all φm)) o=ab->σ'.isSome=af->uu st.A4 (Hb st.cls (bZ o.after.toList))=ab
 jX:σ'.isSome=ab->uu st.OY (Hb st.cls (bZ o.after.toList))=ab
def CV{st rB:EU}(h:th T CT N ds all φm st o=aa rB):∃x σ' obs,KA T CT N ds all φm st rB o x σ' obs:=by
 unfold th at h;split at h
 .cases h
 rename_i c;simp only[di]at h;split at h
 .cases h
 rename_i a;split at h
 .cases h
 rename_i x σ' obs mY;refine⟨x,σ',obs,?_⟩;cases σ' with
 |none =>
  cases d:J2 (jQ (λj=>iF j (bZ o.after.toList)) 0 st.pre (lx st.i all φm)) o with
  |false =>
   simp only[d,di]at h;cases h;exact⟨c,a,mY,rfl,rfl,rfl,rfl,rfl,by simp,by grind,by grind,by simp⟩
  |true =>
   simp only[d,di]at h;split at h
   .rename_i b;cases h;exact⟨c,a,mY,rfl,rfl,rfl,rfl,rfl,by simp,by grind,λ_ _=>b,by simp⟩
   grind
 |some σ' =>
  simp only[di]at h;split at h
  .rename_i b;cases h;exact⟨c,a,mY,rfl,rfl,rfl,rfl,rfl,by simp,by simp,by simp,λ_=>b⟩
  grind
def He{st sf:EU}:∀{rest:List aC}{k:Nat},(∀i,rest[i]?=all[k+i]?)->OZ T CT N ds all φm rest (zf T CT N ds all φm st k)=aa sf ->
  (∀i o,rest[i]?=aa o->th T CT N ds all φm (zf T CT N ds all φm st (k+i)) o=aa (zf T CT N ds all φm st (k+i+1)))/\zf T CT N ds all φm st (k+rest.length)=sf
 |[],k,_,h=>by cases h;grind
 |p::r,k,c,h=>by
  simp only[OZ]at h;have d:all[k]?=aa p:=by have:=c 0;grind
  split at h
  .rename_i a b;have e:zf T CT N ds all φm st (k+1)=a:=by simp only[zf,aj,d,gv,b]
   rw[<-e]at h;obtain⟨g,f⟩:=He (rest:=r) (k:=k+1) (λi=>by have:=c (i+1);grind) h;grind
  grind
theorem KB:∀{l:List Nat},iF j l=ab->j∈l:=by
 intro l;induction l with
 |nil=>intro h;cases h
 |cons a r b =>
  intro h;simp only[iF]at h;grind[Nat.eq_of_beq_eq_true]
def KC{X:Cx P}(hf:P.follows Departure.mixedOrders=ab)(hT:cV P T)(hC:bH X CT){φ':Fr}(h:Hc T CT N ds ops.toList φ σ=aa (φ',σ',obs))(ade:au obs){Q:Post}(hQ:Q .normal φ' σ')(id:Nat):
  AW X N (.region id ops ab) Q φ σ:=by
 unfold Hc at h;split at h
 .cases h
 rename_i VH;rw[di]at h;split at h
 case h_2=>cases h
 rename_i sf xn;rw[di]at h;cases h;generalize SF:ops.toList=all at *;generalize YM:pV all φ=φm at *;have O:∀i:Nat,ops[i]?=all[i]?:=λi=>by grind
 have JX:ops.size=all.length:=by grind
 let g:EU:=⟨0,[],σ,[],[],[],[]⟩
 obtain⟨R,H⟩:=He (T:=T) (CT:=CT) (N:=N) (ds:=ds) (φm:=φm) (st:=g) (rest:=all) (k:=0) (λi=>by simp) xn;simp only[bF]at R H;let F:=zf T CT N ds all φm g;have r:∀i o,all[i]?=aa o->all.getD i jY=o:=λi o h=>by grind
 have efr:∀i o,all[i]?=aa o->Rh T CT N ds all φm g i=(jQ (λj=>iF j (bZ (o).after.toList)) 0 (F i).pre (lx (F i).i all φm)):=λi o h=>by unfold Rh;grind
 have facts:∀i o,all[i]?=aa o->∃E,KA T CT N ds all φm (F i) (F (i+1)) o (xD T CT N ds all φm g i) (if pC T CT N ds all φm g i=ab then aa (F (i+1)).σ else ae) E:=by
  intro i o q;obtain⟨x,σ1,E,n⟩:=CV (R i o q);have y:=n.op;have hR:Hd T CT N ds all φm g i=aa (x,σ1,E):=by unfold Hd Rh;grind
  have hx:xD T CT N ds all φm g i=x:=by unfold xD;rw[hR]
  cases σ1 with
  |none =>
   have z:pC T CT N ds all φm g i=af:=by unfold pC;rw[hR]
   grind
  |some σ2 =>
   have z:pC T CT N ds all φm g i=ab:=by unfold pC;rw[hR]
   have hσ2:(F (i+1)).σ=σ2:=n.σ;grind
 have J:∀i,i<=all.length->(F i).i=i:=by
  intro i;induction i with
  |zero=>intro _;rfl
  |succ i C =>
   intro hi;obtain⟨_,n⟩:=facts i _ (bn (by omega));rw[n.i,C (by omega)]
 have VI:∀i,i<=all.length->∀j,(F i).pre[j]?=if j<i then(all[j]?).map (λo=>(o.dst,xD T CT N ds all φm g j))else ae:=by
  intro i;induction i with
  |zero=>intro _ j;simp[F,zf,g]
  |succ i C =>
   intro hi j;obtain⟨_,n⟩:=facts i _ (bn (by omega));have Z:(F i).pre.length=i:=by
    apply Nat.le_antisymm
    .grind
    grind
   rw[n.pre];grind
 have YN:∀i,i<=all.length->∀j,(F i).cls[j]?=if j<i then aa (Ri T CT N ds all φm g j)else ae:=by
  intro i;induction i with
  |zero=>intro _ j;simp[F,zf,g]
  |succ i C =>
   intro hi j;obtain⟨_,n⟩:=facts i _ (bn (by omega));have Z:(F i).cls.length=i:=by
    apply Nat.le_antisymm
    .apply Nat.le_of_not_lt;intro u;have:=C (by omega) i;grind
    grind
   rw[n.cls];by_cases YO:j<i
   .grind
   .rw[gp (by omega)];by_cases e:j=i
    .subst e;rw[bo (by omega),Z,Nat.sub_self];simp only[jI,Ri,r j _ (bn (by omega:j<all.length))];rfl
    grind
 have adg:∀i,i<=all.length->∀j,bit (F i).A4 j=(decide (j<i)&&pC T CT N ds all φm g j):=by
  intro i;induction i with
  |zero=>intro _ j;simp[F,zf,g,bit]
  |succ i C =>
   intro hi j;obtain⟨_,n⟩:=facts i _ (bn (by omega));rw[n.eff];cases z:pC T CT N ds all φm g i with
   |false =>
    grind
   |true =>
    simp only[b6,wj];rw[m8,C (by omega) j,tg,J i (by omega)];by_cases e:j=i
    .grind
    grind
 have nfI:∀i,i<=all.length->∀j,bit (F i).OY j=(decide (j<i)&&!vg T CT N ds all φm g j):=by
  intro i;induction i with
  |zero=>intro _ j;simp[F,zf,g,bit]
  |succ i C =>
   intro hi j;obtain⟨_,n⟩:=facts i _ (bn (by omega));have VJ:(if pC T CT N ds all φm g i=ab then aa (F (i+1)).σ else ae).isSome=pC T CT N ds all φm g i:=by cases pC T CT N ds all φm g i<;>rfl
   have Ha:vg T CT N ds all φm g i=!(J2 (jQ (λj=>iF j (bZ (all[i]'(by omega)).after.toList)) 0 (F i).pre (lx (F i).i all φm)) (all[i]'(by omega))||pC T CT N ds all φm g i):=by unfold vg;rw[efr i _ (bn (by omega)),r i _ (bn (by omega))];simp
   rw[n.nf,VJ];cases z:(J2 (jQ (λj=>iF j (bZ (all[i]'(by omega)).after.toList)) 0 (F i).pre (lx (F i).i all φm)) (all[i]'(by omega))||pC T CT N ds all φm g i)with
   |false =>
    grind
   |true =>
    simp only[b6];rw[m8,C (by omega) j,tg,J i (by omega)];by_cases e:j=i
    .grind
    grind
 have VK:∀i,i<=all.length->au (F i).obs:=by
  have back:∀k i,i+k=all.length->au (F i).obs:=by
   intro k;induction k with
   |zero =>
    grind
   |succ k C =>
    intro i hi;obtain⟨_,n⟩:=facts i _ (bn (by omega));have:=C (i+1) (by omega);rw[n.obs,au.cat]at this;exact this.2
  intro i hi;exact back (all.length-i) i (by omega)
 have oaI:∀i o,all[i]?=aa o->OA X N all o (Rh T CT N ds all φm g i) (F i).σ (xD T CT N ds all φm g i) (F (i+1)).σ:=by intro i o q;have hi:i<all.length:=(bX.1 q).1;obtain⟨_,n⟩:=facts i o q;have Oq:=VK (i+1) (by omega);rw[n.obs,au.cat]at Oq;have:=gV (P:=P) (N:=N) hT hC n.op Oq.1;rw[n.σ];grind
 let idx:Nat->Option Nat:=λt=>(bc all.length).find? (λi=>decide ((all.getD i jY).dst=aa t));have I:∀t j,idx t=aa j->∃o,all[j]?=aa o/\o.dst=aa t:=by grind
 have M:∀i o d,all[i]?=aa o->o.dst=aa d->idx d=aa i:=by
  intro i o d q hd;have hi:i<all.length:=(bX.1 q).1;cases hx:idx d with
  |none =>
   grind
  |some j =>
   grind[uq]
 have W:∀t,pU t all=ab↔∃j,idx t=aa j:=by grind[qU,tf]
 have Y:∀i o,all[i]?=aa o->∀e∈o.after,dv e=ab->e.on<i:=by intro i o q e z S;have hi:i<all.length:=(bX.1 q).1;obtain⟨_,n⟩:=facts i o q;have:=Fc n.lt e.on (eY.2 ⟨e,by grind,S,rfl⟩);grind
 have aa4:=Y;have hd:xh X N ops φ (λi=>(F i).σ) (xD T CT N ds all φm g) (Rh T CT N ds all φm g) (vg T CT N ds all φm g) (λi=>decide (i<all.length)&&pC T CT N ds all φm g i) (λi j=>i<all.length/\bit (Ri T CT N ds all φm g i) j=ab) idx (jQ (λ_=>ab) 0 sf.pre (vR all φ)):=by
  refine⟨hf,?_,?_,?_,?_,?_,?_,?_,?_,?_,?_⟩
  .grind
  .intro i o d q hd;rw[O]at q;obtain⟨_,n⟩:=facts i o q;exact⟨M i o d q hd,gU n.dst d hd⟩
  .grind
  .intro i z;rcases cN i all.length with hi|hi
   .obtain⟨_,n⟩:=facts i _ (bn hi);have:pC T CT N ds all φm g i=af:=by grind
    have hσ:=n.σ;grind
   .have h0:all.getD i jY=jY:=by grind
    show(F (i+1)).σ=(F i).σ;have:th T CT N ds all φm (F i) jY=ae∨∃s',th T CT N ds all φm (F i) jY=aa s':=by
     cases th T CT N ds all φm (F i) jY with
     |none=>grind
     |some s'=>grind
    show((th T CT N ds all φm (F i) (all.getD i jY)).getD (F i)).σ=(F i).σ;rw[h0];rcases this with h|⟨s',h⟩
    .grind
    .rw[h];obtain⟨x,σ1,ob,n⟩:=CV h;have y:=n.op;have:σ1=ae:=by unfold xj at y;simp only[jY,OX,X4,KD,nY]at y;grind
     rw[gv,n.σ,this];rfl
  .grind
  .intro i o q KE;rw[O]at q;have hi:i<all.length:=(bX.1 q).1;have p:J2 (jQ (λj=>iF j (bZ (o).after.toList)) 0 (F i).pre (lx (F i).i all φm)) o=af/\pC T CT N ds all φm g i=af:=by unfold vg at KE;grind
   refine⟨by grind,λk=>?_⟩;obtain⟨ob,n⟩:=facts i o q;have y:=n.op;rw[p.2]at y;have YP:=Kz p.1 (by simpa using y) (F k).σ;have Oq:=VK (i+1) (by omega);rw[n.obs,au.cat]at Oq;have:=gV (P:=P) (N:=N) hT hC YP Oq.1;grind
  .intro L hL i j ⟨hi,S⟩;have fC:∀i,i<all.length->L i->∀e,e∈bZ (all.getD i jY).after.toList->L e:=by intro i hi hLi e z;rw[r i _ (bn hi)]at z;obtain⟨e',U,h2,rfl⟩:=eY.1 z;grind
   have key:∀i,i<all.length->∀j,bit (Ri T CT N ds all φm g i) j=ab->(∀e∈bZ (all.getD i jY).after.toList,L e)->L j:=by
    intro i;induction i using Nat.strongRecOn with
    |_ i C =>
     intro hi j S VL;obtain⟨e,z,h⟩:=A5 S;have u:e<i:=by have Su:=z;rw[r i _ (bn hi)]at Su;obtain⟨e',U,h2,rfl⟩:=eY.1 Su;grind
     rcases h with rfl|⟨c,hc,UW⟩
     .grind
     .have:=YN i (by omega) e;rw[bo u]at this;have Yu:(F i).cls[e]?=aa c:=hc;rw[Yu]at this;cases this;exact C e u (by omega) j UW (fC e (by omega) (VL e z))
   refine⟨λhLi=>key i hi j S (fC i hi hLi),all[i],by grind,λSD=>key i hi j S ?_⟩;grind[List.getElem?_eq_getElem,eY]
  .intro i f hi U0 z CE hnf;rw[JX]at hi U0;have Su:pC T CT N ds all φm g f=ab:=by grind
   rcases cN f i with u|U2
   .refine .inl ⟨u,hi,?_⟩;obtain⟨_,n⟩:=facts i _ (bn hi);have JW:Ri T CT N ds all φm g i=Hb (F i).cls (bZ (all[i]).after.toList):=by unfold Ri;grind
    rw[JW];cases hei:pC T CT N ds all φm g i with
    |true =>
     have U:=n.jX (by grind);refine qV U ?_;rw[nfI i (by omega) f];have:vg T CT N ds all φm g f=af:=by unfold vg;grind
     grind
    |false =>
     have X5:J2 (jQ (λj=>iF j (bZ (all[i]).after.toList)) 0 (F i).pre (lx (F i).i all φm)) all[i]=ab:=by unfold vg at hnf;rw[efr i _ (bn hi),r i _ (bn hi),hei]at hnf;grind
     have U:=n.load X5 (by grind);grind[qV]
   .have u:i<f:=by omega
    refine .inr ⟨u,U0,?_⟩;obtain⟨_,n⟩:=facts f _ (bn U0);have JW:Ri T CT N ds all φm g f=Hb (F f).cls (bZ (all[f]).after.toList):=by unfold Ri;grind
    rw[JW];have U:=n.jX (by grind);grind[qV]
  .intro i o q t σ s v V;rw[O]at q;have hi:i<all.length:=(bX.1 q).1;unfold Rh;rw[r i o q];rcases nZ (m:=λj=>iF j (bZ o.after.toList)) (φ:=lx (F i).i all φm) (t:=t) (l:=(F i).pre) (i:=0)with⟨j,x,U,h2,h3⟩|h3
   .have YQ:look (jQ (λj=>iF j (bZ o.after.toList)) 0 (zf T CT N ds all φm g i).pre (lx (zf T CT N ds all φm g i).i all φm)) t=x:=h3;rw[YQ];have hp:=VI i (by omega) j;rw[U]at hp;have YO:j<i:=by grind
    rw[bo YO,bn (by omega:j<all.length)]at hp;simp only[l5,dn,mn]at hp;obtain⟨hp1,hp2⟩:=hp;have A:=M j _ t (bn (by omega:j<all.length)) hp1.symm;rw[A]at V;simp only at V;rw[bo]at V
    .grind
    .have YR:j∈bZ o.after.toList:=by simp only[bF]at h2;exact KB h2
     obtain⟨e,a,b,c⟩:=eY.1 YR;grind
   .have YQ:look (jQ (λj=>iF j (bZ o.after.toList)) 0 (zf T CT N ds all φm g i).pre (lx (zf T CT N ds all φm g i).i all φm)) t=look (lx (F i).i all φm) t:=h3;rw[YQ,J i (by omega),<-YM,zy];split
    .trivial
    .rename_i hno;cases A:idx t with
     |some j =>
      have hD:=(W t).2 ⟨j,A⟩;have hN:xk i t all=af:=by grind
      obtain⟨oj,YI,YJ⟩:=I t j A;have hm:=KB (xm hN j oj YI YJ);obtain⟨e,z,S,heq⟩:=eY.1 hm;rw[A]at V;simp only at V;split at V
      ·
       rename_i hex;obtain⟨e2,XT,hb2,adl⟩:=hex;grind
      .rw[bo ⟨oj,by grind,e,by grind,S,heq⟩]at V;exact V
     |none=>grind
  .intro t σ s v V;have hF:F all.length=sf:=H;rcases nZ (m:=λ_=>ab) (φ:=vR all φ) (t:=t) (l:=sf.pre) (i:=0)with⟨j,x,U,_,h3⟩|h3
   .rw[h3];have hp:=VI all.length (bh _) j;rw[hF,U]at hp;have YO:j<all.length:=by grind
    grind
   .rw[h3,mg];split
    .trivial
    grind
 intro s a Ha hh b kk cs SS S YS;have Sm:F ops.size=sf:=by grind
 refine .next rfl λB G=>?_;have G:=X.iS G;have K:=hh.rely G;have YT:=Ha.rely G hh;have SG:Step σ B σ {B with w:={B.w with drawn:=B.w.drawn+1}}:=Step.same rfl rfl rfl rfl;have JZ:aE σ {B with w:={B.w with drawn:=B.w.drawn+1}}:=K.same rfl;have stW:=G.stepW.trans (SG.nN K);refine⟨_,{B with w:={B.w with drawn:=B.w.drawn+1}},#[],mq,⟨⟨σ,σ,K,JZ,SG⟩,.nil⟩,?_⟩;simp only[Region.schedule,hf,Bool.true_or,b6];refine hd.arr S (s0:={B with w:={B.w with drawn:=B.w.drawn+1}}) (λs2 a2 f2 h2 m0=>?_) ops.size _ (by simp) ?_ ?_ 0 _ a (by omega) ?_ ?_ JZ (.refl _ _) _
 .simp only[Sm]at f2 h2 m0;exact YS .normal _ _ s2 a2 hQ f2 h2 (stW.trans m0)
 .simp
 .intro i o q hi;simp[ef,nw]at hi;split at hi<;>simp at hi
 .intro f U0 X3;simp[ef,nw];split<;>simp
 .have p:=YT.mono (SG.nN K) K.len;refine⟨p.size,p.defers,λt=>?_⟩;unfold gF;cases A:idx t with
  |none=>exact p.slot t
  |some j =>
   simp only;rw[aY]
   .exact p.slot t
   .simp[ef,nw];split<;>simp
end
section
variable {X:Cx P}
theorem AK.draw(b:P.follows Departure.mixedOrders=ab)(hT:cV P T)(hC:bH X CT){φ':Fr}{id:Nat}(h:Hc T CT N ds ops.toList φ σ=aa (φ',σ',obs))(a:au obs)(k:AK X N Qf K .normal φ' σ'):AK X N Qf (.code (.region id ops ab)::K) .normal φ σ :=
 KC b hT hC h a k id
end
def xf(T:List (Nat×TI))(CT:List (Nat×dJ))(ds:List (Nat×Bool))(N:Nat)(K:List It)(φ:Fr)(σ:List bg):Option (List It×Fr×List bg×List Prop) :=
 match K with
 |[]=>ae
 |.blk _::K=>aa (K,φ,σ,[])
 |.ops _ []::K=>aa (K,φ,σ,[])
 |.ops all (o::rest)::K=>match gm N o.dst with
  |true=>match xj T CT ds all φ σ o with
   |some (x,ae,obs)=>dG (kQ o.dst x φ) λφ=>aa (.ops all rest::K,φ,σ,obs)
   |some (x,aa σ',obs)=>dG (kQ o.dst x φ) λφ=>aa (.ops all rest::K,φ,σ',obs)
   |none=>ae
  |false=>ae
 |.code c::K=>match c with
  |.skip=>aa (K,φ,σ,[])
  |.seq x y=>aa (.code x::.code y::K,φ,σ,[])
  |.block id c=>aa (.code c::.blk id::K,φ,σ,[])
  |.region id ops d=>match CY ds (id+1000000)with
   |some _=>ae
   |none=>match d with
    |false=>aa (.ops ops.toList ops.toList::K,φ,σ,[])
    |true=>match Hc T CT N ds ops.toList φ σ with
     |some (φ',σ',obs)=>aa (K,φ',σ',obs)
     |none=>ae
  |.exit id=>match ko id K with
   |some K'=>aa (K',φ,σ,[])
   |none=>ae
  |.cond (.tmp t) x y=>match look φ t with
   |.e (.one (.c (.bool ab)))=>aa (.code x::K,φ,σ,[])
   |.e (.one (.c (.bool af)))=>aa (.code y::K,φ,σ,[])
   |_=>ae
  |_=>ae
theorem Ly{X:Cx P}(j:P.follows Departure.mixedOrders=ab)(hT:cV P T)(d:bH X CT){g:List It}{φ':Fr}(h:xf T CT ds N K φ σ=aa (g,φ',σ',obs))(e:au obs)(k:AK X N Qf g .normal φ' σ'):AK X N Qf K .normal φ σ:=by
 unfold xf at h;split at h
 .cases h
 .grind [AK.Ts]
 .grind [AK.Lx]
 .rename_i all o rest K0;cases f:gm N o.dst with
  |false=>grind
  |true =>
   simp only[f]at h;have i:=gU f;split at h
   .rename_i x a b;rw[di]at h;cases h;exact iG.Bi (gV hT d b e) i k
   .rename_i x σ1 a b;rw[di]at h;cases h;exact iG.Bi (gV hT d b e) i k
   grind
 .rename_i c K0;split at h
  .grind [AK.skip]
  .grind [AK.seq]
  .grind [AK.block]
  .grind [AK.region,AK.draw]
  .grind [AK.exit]
  .grind [AK.cond]
  grind
def lD(T:List (Nat×TI))(CT:List (Nat×dJ))(ds:List (Nat×Bool))(N:Nat):Nat->List It->Fr->List bg->List Prop->Option (List It×Fr×List bg×List Prop)
 |0,K,φ,σ,obs=>dG obs λobs=>aa (K,φ,σ,obs)
 |n+1,K,φ,σ,obs=>match xf T CT ds N K φ σ with
  |some (a,φ',σ',o)=>lD T CT ds N n a φ' σ' (lp o obs)
  |none=>dG obs λobs=>aa (K,φ,σ,obs)
def HD{P:aJ}{X:Cx P}(d:P.follows Departure.mixedOrders=ab){T:List (Nat×TI)}(hT:cV P T){CT:List (Nat×dJ)}(c:bH X CT){ds:List (Nat×Bool)}{N:Nat}{Qf:Post}:∀{n:Nat}{K a:List It}{φ φ':Fr}{σ σ':List bg}{obs Py:List Prop},
  lD T CT ds N n K φ σ obs=aa (a,φ',σ',Py)->au Py->AK X N Qf a .normal φ' σ'->AK X N Qf K .normal φ σ/\au obs
 |0,K,a,φ,φ',σ,σ',obs,Py,h,b,k=>by simp only[lD,di]at h;grind
 |n+1,K,a,φ,φ',σ,σ',obs,Py,h,b,k=>by
  simp only[lD]at h;cases e:xf T CT ds N K φ σ with
  |none =>
   grind[di]
  |some r =>
   obtain⟨i,f,σ1,l⟩:=r;simp only[e]at h;obtain⟨j,g⟩:=HD d hT c h b k;grind[au.cat,Ly]
def AK.lD{X:Cx P}(c:P.follows Departure.mixedOrders=ab)(hT:cV P T)(hC:bH X CT)(ds:List (Nat×Bool))(n:Nat){b:List It}{φ':Fr}{a:List Prop}(h:AM.lD T CT ds N n K φ σ []=aa (b,φ',σ',a))(d:au a)(k:AK X N Qf b .normal φ' σ'):AK X N Qf K .normal φ σ:=(HD c hT hC h d k).1
section
variable {X:Cx P}
def A1(rs:List ResultVar)(ks:List Nat)(φ:Fr)(res:D):Option (List Prop) :=
 match zc φ rs with
 |some ds=>match ta ds with
  |some d=>match w7 ks.length res with
   |true=>ET d (iE ks res)
   |false=>ae
  |none=>ae
 |none=>ae
def AK.cX{fn:Func}{a:Nat}{res:D}(ks:List Nat)(h:A1 fn.results.toList ks φ res=aa ps)(e:au ps)(d:kh ks σ=aa σ')(b:kS σ'=ab)(c:dK ks=ab)(hk:∀j,j<a->ks[j]?=aa j):
  AK X N (cz fn a res σ') (.code .ret::K) .normal φ σ:=by refine AK.ret ⟨.inl rfl,ks,?_⟩;unfold A1 at h;grind
def AK.bC{fn:Func}{res:D}(h:A1 fn.results.toList [] φ res=aa ps)(a:au ps:=by simp):AK X N (cz fn 0 res []) (.code .ret::K) .normal φ σ :=
 AK.cX [] h a rfl rfl rfl (λj h=>by omega)
def cz.zero{fn:Func}{res:D}(h:A1 fn.results.toList [] φ res=aa ps)(b:au ps:=by simp):cz fn 0 res [] .ret φ σ:=by
 refine⟨.inl rfl,[],?_⟩;unfold A1 at h;split at h
 .rename_i ds Zu;split at h
  .rename_i d c;split at h
   .rename_i a;exact⟨ds,d,ps,Zu,c,h,b,a,rfl,rfl,rfl,λj h=>by omega⟩
   grind
  grind
 grind
def AK.leave{id:Nat}{A:Fr->List bg->Prop}{Qr:Post}{g f:List It}(h1:ko id K=ae)(h2:ko id g=aa f)(k:AK X N Qr f .normal φ σ):
  AK X N (λe φ' σ'=>match e with
   |.normal=>A φ' σ'
   |e=>AK X N Qr g e φ' σ') (.code (.exit id)::K) .normal φ σ:=by
 have key:∀{K:List It},ko id K=ae->∀{Q:Post},Q (.exit id) φ σ->AK X N Q K (.exit id) φ σ:=by
  intro K;induction K with
  |nil=>intro _ Q h;exact h
  |cons i r l =>
   intro hk Q h;cases i with
   |code c=>exact l (by simpa[ko]using hk) h
   |ops a b=>exact l (by simpa[ko]using hk) h
   |blk j =>
    simp only[ko]at hk;cases m:aw id j with
    |true=>grind
    |false =>
     simp[m]at hk;have d:id≠j:=λe=>by grind[Nat.beq_refl]
     simp only[AK,d,cg];grind
 exact AW.exit (key h1 (AK.xI h2 k))
def AK.iC{A:Fr->List bg->Prop}{Qr:Post}{a:List It}(k:Qr .ret φ σ):
  AK X N (λe φ' σ'=>match e with
   |.normal=>A φ' σ'
   |e=>AK X N Qr a e φ' σ') (.code .ret::K) .normal φ σ:=AK.ret (AK.tw (Qf:=Qr) k)
def AK.again{S:Type}{I:S->Prop}{fr:S->Fr}{st:S->List bg}{a:S->Nat}{x:S}{Qr:Post}(y:S)(b:n6 φ (fr y)=aa ps)(g:au ps)(f:I y)(c:a y<a x)(d:σ=st y):
  AK X N (λe φ' σ'=>match e with
   |.normal=>∃y,I y/\a y<a x/\oO φ' (fr y)/\σ'=st y
   |e=>Qr e φ' σ') [] .normal φ σ:=⟨y,f,c,db b g,d⟩
def AK.xJ{S:Type}(I:S->Prop)(fr:S->Fr)(st:S->List bg)(a:S->Nat)(x:S)(b:n6 φ (fr x)=aa ps)(g:au ps)(f:I x)(d:st x=σ)(round:∀x,I x->AK X N (λe φ' σ'=>match e with
   |.normal=>∃y,I y/\a y<a x/\oO φ' (fr y)/\σ'=st y
   |e=>AK X N Qf K e φ' σ') [.code c] .normal (fr x) (st x)):AK X N Qf (.code (.loop c)::K) .normal φ σ :=
 AK.loop I fr st a x f (db b g) d round
def Fits(args:List D)(σ:List bg):Prop:=∃s vs,cp σ s vs args/\aE σ s
def Fits.at{args:List D}(h:Fits args σ){d:D}(hj:args[j]?=aa d):∃s v,du σ s v d:=by obtain⟨s,vs,a,_⟩:=h;obtain⟨_,b⟩:=cp.get a;grind
def Fits.str{args:List D}{σ:List bg}(h:Fits args σ)(j:Nat){l:List UInt8}(hj:args[j]?=aa (.e (.one (.c (.str l))))):l.length<=9223372036854775807:=by
 obtain⟨s,v,a⟩:=h.at hj;cases fe a with
 |str h hl=>exact hl
def Fits.sl{args:List D}{σ:List bg}(h:Fits args σ)(j:Nat){t:Bool}{k n:Nat}{es:Nat->List C}(hj:args[j]?=aa (.e (.one (.c (.sl t k n es))))):n<=9223372036854775807:=by
 obtain⟨s,v,d⟩:=h.at hj;cases fe d with
 |sl b off f a g=>omega
def Ev.body{f:aH}{fn:Func}{args:List D}{res:D}(d:P.funcs[f]?=aa fn)(a:(fn.name== "runtime.NumGoroutine")=af)(e:fn.body=aa c)(b:bD args.length fn.ntmps=ab)(h:Fits args σ->AK X fn.ntmps (cz fn σ.length res σ') [.code c] .normal (js 0 args) σ):Ev X f args σ res σ':=by refine⟨⟨fn,d,a,by grind⟩,λs vs hr hh=>?_⟩;exact(Ev.intro d a e (dr b) (AK.of_code (h ⟨s,vs,hr,hh⟩))).2 s vs hr hh
def Ev.bQ{f:aH}{fn:Func}{c:Code}{args:List D}{σ σ':List bg}{res:D}(b:P.funcs[f]?=aa fn)(a:(fn.name== "runtime.NumGoroutine",fn.body,bD args.length fn.ntmps)=(af,aa c,ab))(h:Fits args σ->AK X fn.ntmps (cz fn σ.length res σ') [.code c] .normal (js 0 args) σ):Ev X f args σ res σ':=by simp only[mn]at a;exact Ev.body b a.1 a.2.1 a.2.2 h
def AK.join{b:List It}(φ':Fr)(σ':List bg)(h:(∀(a:Fr)(ps:List Prop),n6 a φ'=aa ps->au ps->AK X N Qf (.code c::b) .normal a σ')->AK X N Qf K .normal φ σ)(k:AK X N Qf (.code c::b) .normal φ' σ'):AK X N Qf K .normal φ σ :=
 h λ_ _ h1 h2=>AW.le k (db h1 h2)
end
def Fw(σ σ':List bg):Prop:=∀(s:St),aE σ s->aE σ' s/\Step σ s σ' s/\∀(v:ai)(d:D),du σ s v d->du σ' s v d
def Zv:bg->bg->Option (List Prop)
 |.vec E k n es,.vec E' k' n' es'=>match aw E E',aw k k' with
  |true,ab=>aa [n=n',cE n es es']
  |_,_=>ae
 |.cells E cs,.cells E' nO=>match aw E E' with
  |true=>Rz cs nO
  |false=>ae
 |.dead,.dead=>aa []
 |.cj H,.cj H'=>aa [H=H']
 |.loop N φ r,.loop N' φ' r'=>aa [bg.loop N φ r=bg.loop N' φ' r']
 |.rX,.rX=>aa []
 |.buf E k n es,.buf E' k' n' es'=>match aw E E',aw k k' with
  |true,ab=>aa [n=n',cE n es es']
  |_,_=>ae
 |_,_=>ae
def pE:List bg->List bg->Option (List Prop)
 |[],[]=>aa []
 |a::r,b::q=>match Zv a b with
  |some p=>match pE r q with
   |some ps=>aa (lp p ps)
   |none=>ae
  |none=>ae
 |_,_=>ae
def Pr(B B':bg):Prop :=
 (∀E k n es,B=.vec E k n es->∃es',B'=.vec E k n es'/\cE n es es')/\((∀E k n es,B≠.vec E k n es)->(∀E k n es,B'≠.vec E k n es)/\(B=B'∨(∃E cs nO,B=.cells E cs/\B'=.cells E nO/\∀σ s vs,er σ s vs cs->er σ s vs nO)∨∃E k n es es',B=.buf E k n es/\B'=.buf E k n es'/\cE n es es'))
theorem Tc{B B':bg}(h:Zv B B'=aa ps)(b:au ps):Pr B B':=by
 unfold Zv at h;split at h
 .rename_i E k n es E' k' n' es';split at h
  .rename_i c d;cases h;have a:=bY c;have g:=bY d;obtain⟨f,i⟩:n=n'/\cE n es es':=b;subst a g f;refine⟨λE0 k0 n0 es0 he=>?_,λj=>absurd rfl (j _ _ _ _)⟩;grind
  grind
 .rename_i E cs E' nO;split at h
  .rename_i c;have a:=bY c;subst a;exact⟨λ_ _ _ _ he=>(by cases he),λ_=>⟨λ_ _ _ _ he=>(by cases he),.inr (.inl ⟨E,cs,nO,rfl,rfl,λσ s vs r=>Fy h b r⟩)⟩⟩
  grind
 .exact⟨λ_ _ _ _ he=>(by cases he),λ_=>⟨λ_ _ _ _ he=>(by cases he),.inl rfl⟩⟩
 .cases h;rename_i H H';have e:H=H':=b;subst e;exact⟨λ_ _ _ _ he=>(by cases he),λ_=>⟨λ_ _ _ _ he=>(by cases he),.inl rfl⟩⟩
 .cases h;rename_i N φ r l φ' r';have e:bg.loop N φ r=bg.loop l φ' r':=b;exact⟨λ_ _ _ _ he=>(by cases he),λ_=>⟨λ_ _ _ _ he=>(by cases he),.inl e⟩⟩
 .exact⟨λ_ _ _ _ he=>(by cases he),λ_=>⟨λ_ _ _ _ he=>(by cases he),.inl rfl⟩⟩
 .rename_i E k n es E' k' n' es';split at h
  .rename_i c d;cases h;have a:=bY c;have g:=bY d;obtain⟨f,i⟩:n=n'/\cE n es es':=b;subst a g f;exact⟨λ_ _ _ _ he=>(by cases he),λ_=>⟨λ_ _ _ _ he=>(by cases he),.inr (.inr ⟨E,k,n,es,es',rfl,rfl,i⟩)⟩⟩
  grind
 grind
def Db:∀{σ σ':List bg}{ps:List Prop},pE σ σ'=aa ps->au ps->σ'.length=σ.length/\∀(l:Nat)(B B':bg),σ[l]?=aa B->σ'[l]?=aa B'->Pr B B'
 |[],[],_,_,_=>⟨rfl,λl B B' h=>by grind⟩
 |[],_::_,_,h,_=>by cases h
 |_::_,[],_,h,_=>by cases h
 |a::r,b::q,ps,h,c=>by
  simp only[pE]at h;split at h
  .rename_i p e;split at h
   .rename_i p2 h2;cases h;rw[au.cat]at c;obtain⟨f,d⟩:=Db h2 c.2;grind[Tc]
   grind
  grind
def ic(h:pE σ σ'=aa ps)(hp:au ps):Fw σ σ':=by
 obtain⟨V,hg⟩:=Db h hp;intro s I;have J:∀(l:Nat) (B:bg),σ[l]?=aa B->∃B',σ'[l]?=aa B'/\Pr B B':=by grind
 have get:∀(l:Nat) (B':bg),σ'[l]?=aa B'->∃B,σ[l]?=aa B/\Pr B B':=by grind
 have i:∀(l:Nat),(∀B,σ[l]?=aa B->B.gr=af)->∀B,σ'[l]?=aa B->B.gr=af:=by
  intro l W B' he;obtain⟨B,hB,m⟩:=get l _ he;have q:=W B hB;rcases(m.2 (λE k n es e=>by rw[e]at q;cases q)).2 with rfl|⟨E,cs,u,rfl,rfl,_⟩|⟨E,k,n,es,es',rfl,rfl,_⟩
  .exact q
  .rfl
  .cases q
 have U:∀(l:Nat) E k n es,σ'[l]?=aa (bg.buf E k n es)->∃es',σ[l]?=aa (bg.buf E k n es'):=by
  intro l E k n es he;obtain⟨B,hB,m⟩:=get l _ he;by_cases p:∃E k n es,B=bg.vec E k n es
  .obtain⟨E1,k1,n1,Fz,rfl⟩:=p;obtain⟨es',f,_⟩:=m.1 _ _ _ _ rfl;cases f
  .rcases(m.2 (λE k n es e=>p ⟨E,k,n,es,e⟩)).2 with rfl|⟨E,cs,u,rfl,h,_⟩|⟨E,k,n,es,es',rfl,h,_⟩
   .grind
   .cases h
   grind
 have C:∀(l:Nat) E k n es,σ'[l]?=aa (bg.vec E k n es)->∃es',σ[l]?=aa (bg.vec E k n es'):=by
  intro l E k n es he;obtain⟨B,hB,m⟩:=get l _ he;by_cases p:∃E k n es,B=bg.vec E k n es
  .obtain⟨E1,k1,n1,Fz,rfl⟩:=p;obtain⟨es',f,_⟩:=m.1 _ _ _ _ rfl;grind
  .exact absurd rfl ((m.2 (λE k n es e=>p ⟨E,k,n,es,e⟩)).1 E k n es)
 have Q:∀(v:ai) (a:A),gH σ s v a->gH σ' s v a:=by
  intro v a r;cases a with
  |c x=>exact r
  |ptr l o=>exact⟨i l r.1,r.2⟩
  |vec l k n es =>
   refine⟨r.1,by rw[V];exact r.2.1,λE k' n' es' he=>?_⟩;obtain⟨AL,g⟩:=C l E k' n' es' he;exact r.2.2 E k' n' AL g
  |ref l=>exact⟨i l r.1,r.2⟩
  |bp l w =>
   obtain⟨lv,Y,r2,r3⟩:=r;refine⟨lv,Y,by grind,λE k' n' es' he=>?_⟩;grind
  |any=>exact r
 have z:∀(vs:List ai) (cs:List A),er σ s vs cs->er σ' s vs cs:=by
  intro vs;induction vs with
  |nil=>intro cs r;cases cs with|nil=>trivial|cons _ _=>exact r.elim
  |cons v vs ih=>intro cs r;cases cs with|nil=>exact r.elim|cons c cs=>exact⟨Q _ _ r.1,ih _ r.2⟩
 have K:∀(v:ai) (e:E1),ow σ s v e->ow σ' s v e:=by
  intro v e r;cases e with
  |one a=>exact Q _ _ r
  |agg cs=>obtain⟨vs,f,g⟩:=r;exact⟨vs,f,z _ _ g⟩
 have M:∀(vs:List ai) (cs:List E1),im σ s vs cs->im σ' s vs cs:=by
  intro vs;induction vs with
  |nil=>intro cs r;cases cs with|nil=>trivial|cons _ _=>exact r.elim
  |cons v vs ih=>intro cs r;cases cs with|nil=>exact r.elim|cons c cs=>exact⟨K _ _ r.1,ih _ r.2⟩
 have O:∀(v:ai) (d:D),du σ s v d->du σ' s v d:=by
  intro v d r;cases d with
  |e x=>exact K _ _ r
  |fD xs=>obtain⟨vs,f,g⟩:=r;exact⟨vs,f,M _ _ g⟩
  |any=>trivial
 refine⟨⟨I.mem,by rw[I.len,V],?_,I.eO,I.lt,I.own⟩,⟨bh _,λ_ _ _=>rfl,λ_ _ _ h=>h,λ_ _ _ _=>rfl,λL h b j=>.inr ⟨L,h,j⟩,?_,rfl,rfl,rfl,rfl⟩,O⟩
 .intro l B' L G S;obtain⟨B,hB,m⟩:=get l B' G;have j:=I.box l B L hB S;by_cases p:∃E k n es,B=bg.vec E k n es
  .obtain⟨E,k,n,es,rfl⟩:=p;obtain⟨es',rfl,he⟩:=m.1 _ _ _ _ rfl;refine⟨j.1.EX he,?_⟩;rcases j.2 with⟨f,g⟩|f
   .exact .inl ⟨f,g.EX he⟩
   grind
  .rcases(m.2 (λE k n es e=>p ⟨E,k,n,es,e⟩)).2 with rfl|⟨E,cs,u,rfl,rfl,R⟩|⟨E,k,n,es,es',rfl,rfl,R⟩
   .cases B with
    |cells E cs=>obtain⟨b,vs,f,g,y,F⟩:=j;exact⟨b,vs,f,g,z _ _ y,F⟩
    |vec E k n es=>grind
    |cj H=>exact j
    |dead=>trivial
    |loop N φ r=>obtain⟨l,tmps,fn,df,f,g,y,F,T⟩:=j;exact⟨l,tmps,fn,df,f,g,y,λt=>O _ _ (F t),T⟩
    |rX=>exact j
    |buf E k n es=>exact j
   .obtain⟨b,vs,f,g,y,F⟩:=j;exact⟨b,vs,f,g,z _ _ (R _ _ _ y),F⟩
   .rcases j with j|⟨b,c0,vs,Z,f,g,y,F,T,h6,h7⟩
    .exact .inl j
    .exact .inr ⟨b,c0,vs,Z,f,g,y,F,T,h6.EX R,h7⟩
 .intro l B L hB S;obtain⟨B',G,m⟩:=J l B hB;refine⟨B',L,G,S,?_⟩;by_cases p:∃E k n es,B=bg.vec E k n es
  .obtain⟨E,k,n,es,rfl⟩:=p;obtain⟨es',rfl,he⟩:=m.1 _ _ _ _ rfl;exact⟨λ_=>rfl,bh _⟩
  .rcases(m.2 (λE k n es e=>p ⟨E,k,n,es,e⟩)).2 with rfl|⟨E,cs,u,rfl,rfl,R⟩|⟨E,k,n,es,es',rfl,rfl,_⟩
   .exact gR.refl _ _
   .exact rfl
   .exact⟨λ_=>rfl,bh _⟩
section
variable {X:Cx P}
theorem AW.ghost{Q:Post}{φ':Fr}(h:∀s a,cx N σ s φ a->aE σ s->∃s':St,s'.w=s.w/\cx N σ' s' φ' a/\aE σ' s'/\Step σ s σ' s')(k:AW X N c Q φ' σ'):AW X N c Q φ σ:=by intro s a l hh b kk cs S m o;obtain⟨s',j,g,d,st⟩:=h s a l hh;have f:=st.nN hh;refine .ghost (.of hh d j f) ?_;exact k s' a g d b kk cs S m λe i σ2 s2 a2 q n h2 m0=>o e i σ2 s2 a2 q n h2 (f.trans m0)
theorem AK.ghost{φ':Fr}{σ':List bg}(h:∀s a,cx N σ s φ a->aE σ s->∃s':St,s'.w=s.w/\cx N σ' s' φ' a/\aE σ' s'/\Step σ s σ' s')(k:AK X N Qf (.code c::K) .normal φ' σ'):AK X N Qf (.code c::K) .normal φ σ :=
 AW.ghost h k
def cx.bs{a:Act}(b:Fw σ σ')(f:cx N σ s φ a)(hh:aE σ s):cx N σ' s φ a:=⟨f.size,f.defers.imp λ_ h1=>h1.mono (b s hh).2.1.ext,λt=>(b s hh).2.2 _ _ (f.slot t)⟩
def AK.norm(σ':List bg)(h:pE σ σ'=aa ps)(b:au ps)(k:AK X N Qf (.code c::K) .normal φ σ'):AK X N Qf (.code c::K) .normal φ σ :=
 AK.ghost (λs a d hh=>⟨s,rfl,d.bs (ic h b) hh,(ic h b s hh).1,(ic h b s hh).2.1⟩) k
def AK.iW(t:Nat)(E:av)(k:Nat){k':Nat}(j:look φ t=.e (.one (.c (.sl ab k' n es))))(f:n=0)(kk:AK X N Qf (.code c::K) .normal ((t,.e (.one (.vec σ.length k n es)))::φ) (σ++[.vec E k n es])):AK X N Qf (.code c::K) .normal φ σ:=by
 refine AK.ghost (λs a b hh=>?_) kk;have g:=b.slot t;rw[j]at g;have h1:=Rd.wo (k:=k') (k':=k) (.inr f) (fe g);have hB:eG (σ++[.vec E k n es]) {s with β:=s.β++[⟨a.tmps.getD t ah,[]⟩]} (.vec E k n es) ⟨a.tmps.getD t ah,[]⟩:=⟨h1.loose,.inl ⟨⟨rfl,f⟩,h1⟩⟩;obtain⟨i,d⟩:=hh.iy (.refl _ _) rfl hh hB (by simp)
 refine⟨{s with β:=s.β++[⟨a.tmps.getD t ah,[]⟩]},rfl,⟨b.size,b.defers.imp λ_ h1=>h1.mono d.ext,λu=>?_⟩,i,d⟩;simp only[look];cases h:aw t u with
 |false=>exact(b.slot u).mono d.ext hh.len
 |true =>
  have e:=bY h;subst e;exact qO (L:=⟨a.tmps.getD t ah,[]⟩) (by simp) (by simp[<-hh.len]) hB
def AK.kq{S:Type}(I:S->Prop)(fr:S->Fr)(st:S->List bg)(j:S->Nat)(x:S){qs:List Prop}(p:n6 φ (fr x)=aa ps)(B:au ps)(m:pE σ (st x)=aa qs)(G:au qs)(F:I x)(round:∀x,I x->AK X N (λe φ' σ'=>match e with
   |.normal=>∃y,I y/\j y<j x/\oO φ' (fr y)/\Fw σ' (st y)
   |e=>AK X N Qf K e φ' σ') [.code c] .normal (fr x) (st x)):AK X N Qf (.code (.loop c)::K) .normal φ σ:=by
 intro s a A hh b kk cs SS hb hQ;have g:=ic m G;obtain⟨k,u,_⟩:=g s hh;refine tz (λn a' s'=>∃y,I y/\cx N (st y) s' (fr y) a'/\aE (st y) s'/\c6 σ s (st y) s'/\j y=n) ?_ ?_ ⟨x,F,(A.le (db p B)).bs g hh,k,u.nN hh,rfl⟩
 .rintro n a' s' ⟨y,v,l,h,d,e⟩;exact⟨st y,h,λH h1=>⟨y,v,l.rely h1 h,h.rely h1,d.trans h1.stepW,e⟩⟩
 rintro n a' s' ⟨y,v,l,h,d,rfl⟩ D;refine round y v s' a' l h b (.inLoop c::kk) cs SS hb ?_;intro e C σ2 s2 a2 q w h2 m0;cases e with
 |normal =>
  obtain⟨z,E,r,f,i⟩:=q;obtain⟨t,o,_⟩:=i s2 h2;exact D a2 s2 (j z) r ⟨z,E,(w.le f).bs i h2,t,d.trans (m0.trans (o.nN h2)),rfl⟩
 |_=>exact ends.cons (λ_ _=>rfl) (by simp) (hQ _ _ _ _ _ q w h2 (d.trans m0))
def AK.gg{S:Type}{I:S->Prop}{fr:S->Fr}{st:S->List bg}{a:S->Nat}{x:S}{Qr:Post}(y:S){qs:List Prop}(c:n6 φ (fr y)=aa ps)(h:au ps)(b:pE σ (st y)=aa qs)(f:au qs)(g:I y)(d:a y<a x):
  AK X N (λe φ' σ'=>match e with
   |.normal=>∃y,I y/\a y<a x/\oO φ' (fr y)/\Fw σ' (st y)
   |e=>Qr e φ' σ') [] .normal φ σ:=⟨y,g,d,db c h,ic b f⟩
end
def Ev.forget{X:Cx P}{f:aH}{args:List D}{res FA:D}(h:Ev X f args [] res σ')(e:ET res FA=aa ps)(j:au ps)(a:w7 0 FA=ab):Ev X f args [] FA []:=by
 refine⟨h.1,λs vs hr hh S cs hS=>h.2 s vs hr hh S cs λfr v c hl hv h1 st=>?_⟩
 have k:s.β=[]:=jF hh.len;have i:eH c {c with β:=[]}:=⟨rfl,λ_ _ _ h=>h,λ_ _ _=>rfl,h1.mem,λb g=>.inl (by grind)⟩
 refine .ghost i (hS fr v {c with β:=[]} (hl.mono λ_ _ _ h=>h) ?_ ⟨h1.mem,rfl,by simp,by simp,by simp,λb g=>⟨(h1.own b g).1,by simp⟩⟩ ⟨st.size,st.fA,st.mem,st.jo,by simp,λl B L hB=>by grind,st.os,st.tape,st.output,st.own⟩)
 .have h2:=oQ e j hv;have:=du.sub (ks:=[]) (σ:=σ') (σ':=[]) (s:=c) (β':=[]) (d:=FA) rfl rfl (by rw[Dc a];exact h2) a;exact this
section drop
variable {σ1 rest:List bg}
def V6(n:Nat):bg->Bool
  | .cells _ cs=>G6 n cs
  | .loop ..=>af
  | _=>ab
def te(n:Nat):List bg->Bool
  | []=>ab
  | a::r=>match V6 n a with|true=>te n r|false=>af
def Dd{n:Nat}:∀{l:List bg},te n l=ab->∀B∈l,V6 n B=ab
  | [],_,B,hB=>by grind
  | b::r,h,B,hB=>by
    simp only[te]at h;cases a:V6 n b with
    | false=>grind
    | true =>
      simp only[a]at h;rcases eb.1 hB with rfl|hB
      · exact a
      · exact Dd h B hB
def eG.vl{B:bg}{L:Loc}(a:V6 σ1.length B=ab)(h:eG (σ1++rest) s B L):eG σ1 (s.cut σ1.length) B L:=by
  cases B with
  | cells E cs =>
    obtain⟨b,vs,h1,h2,d,c⟩:=h;exact⟨b,vs,h1,h2,er.uv d a,c⟩
  | vec E k n es=>exact h
  | cj H=>exact h
  | dead=>trivial
  | loop N φ r=>simp[V6]at a
  | rX=>exact h
  | buf E k n es=>exact h
def aE.drop(h:aE (σ1++rest) s)(g:te σ1.length σ1=ab):aE σ1 (s.cut σ1.length):=by
  have hl:σ1.length<=s.β.length:=by rw[h.len];simp
  refine⟨h.mem,by simp[St.cut,hl],?_,?_,?_,λb d=>⟨(h.own b d).1,λL a=>(h.own b d).2 L (fN a)⟩⟩
  · intro l B L hB a
    have e:l<σ1.length:=(bX.1 hB).1;simp only[St.cut,gL,e,b6]at a;exact eG.vl (rest:=rest) (Dd g B (bP hB)) (h.box l B L (by grind) a)
  · intro l l' L L' a c b d f
    simp only[St.cut,gL]at a c;split at a<;>split at c<;>first|exact h.eO l l' L L' a c b d f|grind|grind
  · intro L a b d
    exact h.lt L (fN a) b d
def pA.drop(a:lX rest=ab):∀{ds:List Deferred} {ls:List Nat},pA (σ1++rest) s ds ls->pA σ1 (s.cut σ1.length) ds ls
  | [],[],_=>trivial
  | [],_::_,r=>r.elim
  | _::_,[],r=>r.elim
  | d::ds,l::ls,⟨⟨h1,L,r,h2,c⟩,b,e⟩=>by
    have hl:l<σ1.length:=by
      rcases cN l σ1.length with h|h
      · exact h
      · rw[gp h]at h1
        exact absurd rfl (nW a _ (bP h1))
    rw[jH hl]at h1;exact⟨⟨h1,L,r,by simp only[St.cut,gL,hl,b6];exact h2,c⟩,b,pA.drop a e⟩
def xK(n:Nat)(σ:List bg):Bool:=match bD n σ.length with|true=>lX (σ.drop n)|false=>af
theorem qZ(h:xK n σ=ab):bD n σ.length=ab/\lX (σ.drop n)=ab:=by unfold xK at h;grind
end drop
def De(n:Nat):Fr->Bool
  | []=>ab
  | (_,d)::r=>match w7 n d with|true=>De n r|false=>af
def n7{n:Nat}:∀{φ:Fr} {t:Nat},De n φ=ab->w7 n (look φ t)=ab
  | [],t,_=>rfl
  | (u,d)::r,t,h=>by
    simp only[De]at h;cases a:w7 n d with
    | false=>grind
    | true =>
      simp only[a]at h;simp only[look];cases aw u t with
      | true=>exact a
      | false=>exact n7 h
section
variable {X:Cx P}
def lQ{S:Type}(X:Cx P)(N:Nat)(Qf:Post)(K:List It)(I:S->Prop)(a:S->Fr)(st:S->List bg)(b:S->Nat)(n:Nat)(x:S):Post:=λe φ' σ'=>match e with
  | .normal=>∃y,I y/\b y<b x/\oO φ' (a y)/\De n (a y)=ab/\∃σ1 rest,σ'=σ1++rest/\σ1.length=n/\(te n σ1=ab/\lX rest=ab)/\Fw σ1 (st y)
  | e=>AK X N Qf K e φ' σ'
def AK.cJ{S:Type}(n:Nat)(I:S->Prop)(fr:S->Fr)(st:S->List bg)(w:S->Nat)(x:S){qs:List Prop}(p:n6 φ (fr x)=aa ps)(M:au ps)(o:pE σ (st x)=aa qs)(Y:au qs)(hn:σ.length=n)(W:I x)(round:∀x,I x->AK X N (lQ X N Qf K I fr st w n x) [.code c] .normal (fr x) (st x)):AK X N Qf (.code (.loop c)::K) .normal φ σ:=by
  intro s a H hh b kk cs SS hb hQ;have g:=ic o Y;obtain⟨k,A,_⟩:=g s hh;refine tz (λm a' s'=>∃y,I y/\cx N (st y) s' (fr y) a'/\aE (st y) s'/\c6 σ s (st y) s'/\w y=m) ?_ ?_ ⟨x,W,(H.le (db p M)).bs g hh,k,A.nN hh,rfl⟩
  · rintro n a' s' ⟨y,B,l,j,d,e⟩
    exact⟨st y,j,λs1 h1=>⟨y,B,l.rely h1 j,j.rely h1,d.trans h1.stepW,e⟩⟩
  rintro m a' s' ⟨y,B,l,j,d,rfl⟩ R;refine round y B s' a' l j b (.inLoop c::kk) cs SS hb ?_;intro e O σ2 s2 a2 q G h2 m0;cases e with
  | normal =>
    obtain⟨z,U,u,f,Q,σ1,rest,rfl,J,⟨V,v⟩,D⟩:=q;have F:=h2.drop (by grind);obtain⟨E,i,C⟩:=D _ F;have r:=G.le f;have T:eH s2 (s2.cut σ1.length):=⟨rfl,λ_ _ _ h=>h,λ_ _ _=>rfl,h2.mem,λb hb=>hb.imp id λ⟨L,Z,hb⟩=>⟨L,fN Z,hb⟩⟩
    refine .ghost T (R a2 (s2.cut σ1.length) (w z) u ⟨z,U,⟨r.size,r.defers.imp λ_ h1=>(h1.drop v).mono i.ext,λt=>C _ _ ((r.slot t).drop (n7 (by grind)))⟩,E,?_,rfl⟩);exact((d.trans m0).drop (by omega)).trans (i.nN F)
  | _=>exact ends.cons (λ_ _=>rfl) (by simp) (hQ _ _ _ _ _ q G h2 (d.trans m0))
def AK.Td{S:Type}{I:S->Prop}{fr:S->Fr}{st:S->List bg}{b:S->Nat}{x:S}{i:List It}(y:S){qs:List Prop}(d:n6 φ (fr y)=aa ps)(k:au ps)(g:De n (fr y)=ab)(f:xK n σ=ab)(c:pE (σ.take n) (st y)=aa qs)(h:au qs)(a:te n (σ.take n)=ab)(j:I y)(e:b y<b x):
    AK X N (lQ X N Qf i I fr st b n x) [] .normal φ σ :=
  ⟨y,j,e,db d k,g,σ.take n,σ.drop n,(jJ n σ).symm,by grind[Nat.le_of_ble_eq_true,qZ],⟨a,(qZ f).2⟩,ic c h⟩
def AK.aQ{S:Type}{n:Nat}{I:S->Prop}{fr:S->Fr}{st:S->List bg}{a:S->Nat}{x:S}{d:List It}(y:S){ps qs:List Prop}(h:(n6 φ (fr y),De n (fr y),xK n σ,pE (σ.take n) (st y),te n (σ.take n))=(aa ps,ab,ab,aa qs,ab))(f:au ps)(c:au qs)(e:I y)(b:a y<a x):
    AK X N (lQ X N Qf d I fr st a n x) [] .normal φ σ:=by simp only[mn]at h;exact AK.Td y h.1 f h.2.1 h.2.2.1 h.2.2.2.1 c h.2.2.2.2 e b
def AK.leaveD{S:Type}{I:S->Prop}{fr:S->Fr}{st:S->List bg}{b:S->Nat}{x:S}{id:Nat}{c a d:List It}(h1:ko id c=ae)(h2:ko id a=aa d)(k:AK X N Qf d .normal φ σ):
    AK X N (lQ X N Qf a I fr st b n x) (.code (.exit id)::c) .normal φ σ :=
  AW.mono (AK.leave (A:=λφ' σ'=>lQ X N Qf a I fr st b n x .normal φ' σ') h1 h2 k) λe φ' σ' q=>by
    have key:∀(K:List It) e,AK X N (λe φ' σ'=>match e with
        | .normal=>lQ X N Qf a I fr st b n x .normal φ' σ'
        | e=>AK X N Qf a e φ' σ') K e φ' σ'->AK X N (lQ X N Qf a I fr st b n x) K e φ' σ':=by
      have e:(λe φ' σ'=>match e with
        | .normal=>lQ X N Qf a I fr st b n x .normal φ' σ'
        | e=>AK X N Qf a e φ' σ')=lQ X N Qf a I fr st b n x:=by funext e φ' σ';cases e<;>rfl
      grind
    exact key _ _ q
def AK.fR{S:Type}{I:S->Prop}{fr:S->Fr}{st:S->List bg}{c:S->Nat}{x:S}{a b:List It}(k:Qf .ret φ σ):AK X N (lQ X N Qf b I fr st c n x) (.code .ret::a) .normal φ σ :=
  AK.ret (AK.tw (Qf:=Qf) k)
theorem cx.freeze(t l:Nat){cs:List A}{cc:List C}(F:look φ t=.e (.one (.ptr l 0)))(hl:dF l σ=aa (.cells E cs))(D:gX cs=aa cc){a:Act}(i:cx N σ s φ a)(hh:aE σ s):∃s':St,s'.w=s.w/\cx N (σ.set l .dead) s' ((t,.e (.one (.c (.rp cc))))::φ) a/\aE (σ.set l .dead) s'/\Step σ s (σ.set l .dead) s':=by
  have hB:=b7 hl;have m:l<σ.length:=(bX.1 hB).1;have r:=i.slot t;rw[F]at r;obtain⟨_,L,b,n,g,G⟩:=r;obtain⟨f,vs,h1,h2,z,J⟩:=hh.box l _ L hB n;subst h1;simp at g;subst g;let s':St:={s with M:=λq o=>if q=f then vs[o]? else s.M q o}
  have st:Step σ s (σ.set l .dead) s':=by
    refine⟨bh _,λ_ _ _=>rfl,?_,?_,λL h b d=>.inr ⟨L,h,d⟩,?_,rfl,rfl,rfl,rfl⟩
    · grind
    · intro b d y o
      have k:b≠f:=λe=>y _ (bP n) (by simp[e]);grind
    · intro l' B L' kG fC
      by_cases e:l=l'
      · subst e
        rw[hB]at kG;cases kG;exact⟨.dead,L',by grind,fC,rfl⟩
      · exact⟨B,L',by grind,fC,.refl _ _⟩
  refine⟨s',rfl,⟨i.size,i.defers.imp λ_ h1=>h1.mono st.ext,λu=>?_⟩,⟨?_,by simp[hh.len,s'],?_,hh.eO,hh.lt,hh.own⟩,st⟩
  · simp only[look]
    cases d:aw t u with
    | false=>exact(i.slot u).mono st.ext hh.len
    | true =>
      have e:=bY d;subst e;rw[G];have x:=mh D z;refine Rd.rp f 0 (λj=>(vs[j]?).getD ah) ?_ ?_
      · intro j c hj
        obtain⟨v,p,_⟩:=x.get (j:=j) (a:=.c c) (by grind);grind
      · intro j c hj
        obtain⟨v,p,p2⟩:=x.get (j:=j) (a:=.c c) (by grind);simp only[p,gv];exact Rd.mono st.mem p2
  · intro b o v I
    by_cases e:b=f
    · subst e
      have hm':vs[o]?=aa v:=by grind
      show s.w.cell? _=_;simp[aP,h2,hm']
    · exact hh.mem b o v (by grind)
  · intro l' B L' kG fC
    by_cases e:l=l'
    · subst e
      rw[gu m]at kG;cases kG;trivial
    · rw[kL e]at kG
      refine(hh.box l' B L' kG fC).carry st.ext hh.len λb d=>⟨rfl,λo=>?_⟩
      have k:b≠f:=λH=>e (hh.eO l l' _ L' n fC b (by grind) d);grind
theorem AK.freeze(t l:Nat){E:av}{cs:List A}{cc:List C}(b:look φ t=.e (.one (.ptr l 0)))(hl:dF l σ=aa (.cells E cs))(a:gX cs=aa cc)(kk:AK X N Qf (.code c::K) .normal ((t,.e (.one (.c (.rp cc))))::φ) (dY.rA l .dead σ)):AK X N Qf (.code c::K) .normal φ σ:=by grind[jA,AK.ghost,cx.freeze]
def AK.one{rest:List aC}{x:D}(h:OA X N all o φ σ x σ')(a:gm N o.dst=ab)(k:AK X N Qf (.ops all rest::K) .normal (kQ o.dst x φ) σ'):AK X N Qf (.ops all (o::rest)::K) .normal φ σ :=
  iG.Bi h (gU a) k
end
def aE.jX(h:aE σ s){H':ai->(Nat->Option Obj)->Prop}{L L':Loc}(hB:σ[l]?=aa (.cj H))(t:s.β[l]?=aa L)(P:L'.v=L.v)(r:s.w.heap.size<=w'.heap.size)(hk:∀b,b<s.w.heap.size->b∉L.bs->w'.heap[b]?=s.w.heap[b]?)(j:∀b∈L'.bs,b∈L.bs∨(s.w.heap.size<=b/\b<w'.heap.size))(x:∃ch,H' L'.v ch/\(∀(b:Nat) (o:Obj),ch b=aa o->w'.heap[b]?=aa o)/\(∀b,b∈L'.bs↔(ch b).isSome=ab))(C:w'.os=s.w.os)(F:w'.tape=s.w.tape)(E:w'.output=s.w.output):
  aE (σ.set l (.cj H')) ⟨s.β.set l L',s.M,w',s.own⟩/\Step σ s (σ.set l (.cj H')) ⟨s.β.set l L',s.M,w',s.own⟩:=by
 have z:l<σ.length:=(bX.1 hB).1;have y:l<s.β.length:=by grind
 obtain⟨D,_,_,_,O⟩:=h.box l _ L hB t;have p:∀b∈L'.bs,∀o,s.M b o=ae:=by
  intro b k o;rcases j b k with h1|⟨h1,_⟩
  .grind
  .cases u:s.M b o with
   |none=>rfl
   |some v=>have:=h.block u;omega
 have st:Step σ s (σ.set l (.cj H')) ⟨s.β.set l L',s.M,w',s.own⟩:=by
  refine⟨r,?_,λ_ _ _ h=>h,λ_ _ _ _=>rfl,?_,?_,C,F,E,rfl⟩
  .grind
  .grind
  .intro l' B a d f;by_cases e:l=l'
   .subst e;rw[hB]at d;cases d;rw[t]at f;cases f;exact⟨.cj H',L',by grind,by grind,P⟩
   .exact⟨B,a,by grind,by grind,.refl _ _⟩
 have g:∀(l':Nat) (a:Loc),(s.β.set l L')[l']?=aa a->(l'=l/\a=L')∨(l≠l'/\s.β[l']?=aa a):=by grind
 refine⟨⟨?_,by simp[h.len],?_,?_,?_,?_⟩,st⟩
 .intro b o v u;have I:=h.block u;have K:b∉L.bs:=λm=>by grind
  rw[<-h.mem b o v u];simp only[aP];grind
 .intro l' B a d f;rcases g l' a f with⟨rfl,rfl⟩|⟨e,h2⟩
  .rw[gu z]at d;cases d;obtain⟨ch,k1,A,G⟩:=x;exact⟨ch,k1,A,G,p⟩
  .rw[kL e]at d;refine(h.box l' B a d h2).carry st.ext h.len λb k=>⟨hk b (h.lt a (bP h2) b k) λm=>e (h.eO l l' L a t h2 b m k),λ_=>rfl⟩
 .intro J N L1 a h1 h2 b i c;rcases g J L1 h1 with⟨rfl,rfl⟩|⟨e1,q⟩<;>rcases g N a h2 with⟨rfl,rfl⟩|⟨e2,n⟩
  .rfl
  .rcases j b i with m|m
   .exact h.eO _ _ L a t n b m c
   .have:=h.lt a (bP n) b c;omega
  .rcases j b c with m|m
   .exact h.eO _ _ L1 L q t b i m
   .have:=h.lt L1 (bP q) b i;omega
  .exact h.eO _ _ L1 a q n b i c
 .intro a f b c;rcases List.mem_or_eq_of_mem_set f with h1|h1
  .exact c9 (h.lt a h1 b c) r
  .subst h1;rcases j b c with h2|h2
   .exact c9 (h.lt L (bP t) b h2) r
   grind
 .intro b x;obtain⟨R,Q⟩:=h.own b x;grind
section
variable {H':ai->(Nat->Option Obj)->Prop}
end
def cz.qb{fn:Func}{a:Nat}{res:D}(ks:List Nat)(h:A1 fn.results.toList ks φ res=aa ps)(e:au ps)(d:kh ks σ=aa σ')(b:kS σ'=ab)(c:dK ks=ab)(hk:∀j,j<a->ks[j]?=aa j):
  cz fn a res σ' .normal φ σ:=by refine⟨.inr rfl,ks,?_⟩;unfold A1 at h;grind
def AK.SA{X:Cx P}{f:aH}{σ1:List bg}{res:D}(c:Ev X f cv σs res σ1)(ks:List Nat)(g:o.guard=ae)(l:o.op=.call {callee:=.value fo,args:=xs,argTypes:=jU})(j:eQ (bS φ fo)=aa (f,cap))(a:m6 (xs.toList.map (bS φ)++fY cap)=fX ks cv)(h:lP ks.length cv=ab)(b:kh ks σ=aa σs)(m:cC σs=ab)(d:cC σ1=ab)(i:dK ks=ab)(e:bD ks.length σ1.length=ab)(n:gm N o.dst=ab)(k:AK X N Qf (.ops all rest::K) .normal (kQ o.dst (iE (ks++ln σ.length (σ1.length-ks.length)) res) φ) (dY ks σ1 σ)):AK X N Qf (.ops all (o::rest)::K) .normal φ σ :=
 iG.call (λ_ _ _ _=>dM g) l j ks c a h b m d i (dr e) o.dst rfl (gU n) k
def AK.qS{X:Cx P}{f:aH}(c:ek X f cv σs res σ1)(ks:List Nat)(g:o.guard=ae)(m:o.op=.call {callee:=.value fo,args:=xs,argTypes:=jU})(l:eQ (bS φ fo)=aa (f,cap))(a:m6 (xs.toList.map (bS φ)++fY cap)=fX ks cv)(h:lP ks.length cv=ab)(b:kh ks σ=aa σs)(n:cC σs=ab)(d:∀j,cC (σ1 j)=ab)(i:dK ks=ab)(e:∀j,bD ks.length (σ1 j).length=ab)(p:gm N o.dst=ab)(k:∀j,AK X N Qf (.ops all rest::K) .normal (kQ o.dst (iE (ks++ln σ.length ((σ1 j).length-ks.length)) (res j)) φ) (dY ks (σ1 j) σ)):AK X N Qf (.ops all (o::rest)::K) .normal φ σ :=
 iG.Re (λ_ _ _ _=>dM g) m l ks c a h b n d i (λj=>dr (e j)) o.dst rfl (gU p) k
def AK.cQ{P:aJ}{X:Cx P}{N:Nat}{Qf:Post}{K:List It}{φ:Fr}{σ:List bg}{all rest:List aC}{o:aC}{fo:aB}{xs:Array aB}{jU:Array av}{f:aH}{cap:List C}{cv:List D}{σs σ1:List bg}{res:D}(n:Ev X f cv σs res σ1)(ks:List Nat)(h:(o.guard,o.op,eQ (bS φ fo),m6 (xs.toList.map (bS φ)++fY cap),lP ks.length cv,kh ks σ,cC σs,cC σ1,dK ks,bD ks.length σ1.length,gm N o.dst)=(ae,.call {callee:=.value fo,args:=xs,argTypes:=jU},aa (f,cap),fX ks cv,ab,aa σs,ab,ab,ab,ab,ab))(k:AK X N Qf (.ops all rest::K) .normal (kQ o.dst (iE (ks++ln σ.length (σ1.length-ks.length)) res) φ) (dY ks σ1 σ)):AK X N Qf (.ops all (o::rest)::K) .normal φ σ:=by simp only[mn]at h;obtain⟨a,b,c,d,e,f,g,i,j,l,m⟩:=h;exact AK.SA n ks a b c d e f g i j l m k
def AK.cP{P:aJ}{ι:Type}{X:Cx P}{N:Nat}{Qf:Post}{K:List It}{φ:Fr}{σ:List bg}{all rest:List aC}{o:aC}{fo:aB}{xs:Array aB}{jU:Array av}{f:aH}{cap:List C}{cv:List D}{σs:List bg}{σ1:ι->List bg}{res:ι->D}(i:ek X f cv σs res σ1)(ks:List Nat)(h:(o.guard,o.op,eQ (bS φ fo),m6 (xs.toList.map (bS φ)++fY cap),lP ks.length cv,kh ks σ,cC σs,dK ks,gm N o.dst)=(ae,.call {callee:=.value fo,args:=xs,argTypes:=jU},aa (f,cap),fX ks cv,ab,aa σs,ab,ab,ab))(q:∀j,(cC (σ1 j),bD ks.length (σ1 j).length)=(ab,ab))(k:∀j,AK X N Qf (.ops all rest::K) .normal (kQ o.dst (iE (ks++ln σ.length ((σ1 j).length-ks.length)) (res j)) φ) (dY ks (σ1 j) σ)):AK X N Qf (.ops all (o::rest)::K) .normal φ σ:=by simp only[mn]at h q;obtain⟨a,b,c,d,e,f,g,j,m⟩:=h;exact AK.qS i ks a b c d e f g (λj=>(q j).1) j (λj=>(q j).2) m k
def xa:List D->List D->Option (List Prop)
 |[],[]=>aa []
 |a::al,b::bs=>match ET a b with
  |some p=>match xa al bs with
   |some q=>aa (lp p q)
   |none=>ae
  |none=>ae
 |_,_=>ae
def wA{σ:List bg}{s:St}:∀{vs:List ai}{xs ys:List D}{ps:List Prop},xa xs ys=aa ps->au ps->cp σ s vs xs->cp σ s vs ys
 |[],[],[],_,_,_,_=>trivial
 |_::_,[],_,_,_,_,h=>h.elim
 |[],_::_,_,_,_,_,h=>h.elim
 |[],[],_::_,_,h,_,_=>by simp[xa]at h
 |_::_,_::_,[],_,h,_,_=>by simp[xa]at h
 |v::vs,a::al,b::bs,ps,h,c,e=>by
  simp only[xa]at h;cases f:ET a b with
  |none=>grind
  |some p =>
   cases d:xa al bs with
   |none=>grind
   |some q =>
    simp[f,d]at h;subst h;rw[au.cat]at c;exact⟨oQ f c.1 e.1,wA d c.2 e.2⟩
def AK.jB{X:Cx P}{f:aH}(c:ek X f cv σs res σ1)(ks:List Nat)(i:o.guard=ae)(p:o.op=.call {callee:=.value fo,args:=xs,argTypes:=jU})(n:eQ (bS φ fo)=aa (f,cap))(a:xa (xs.toList.map (bS φ)++fY cap) (fX ks cv)=aa ps)(e:au ps)(l:lP ks.length cv=ab)(b:kh ks σ=aa σs)(q:cC σs=ab)(d:∀j,cC (σ1 j)=ab)(m:dK ks=ab)(g:∀j,bD ks.length (σ1 j).length=ab)(r:gm N o.dst=ab)(k:∀j,AK X N Qf (.ops all rest::K) .normal (kQ o.dst (iE (ks++ln σ.length ((σ1 j).length-ks.length)) (res j)) φ) (dY ks (σ1 j) σ)):AK X N Qf (.ops all (o::rest)::K) .normal φ σ :=
 iG.CP (λ_ _ _ _=>dM i) p n ks c (λs vs h=>wA a e h) l b q d m (λj=>dr (g j)) o.dst rfl (gU r) k
def K9{a:Act}{d:Nat}(h:d<a.tmps.size):(a.put (aa d) v).tmps.getD d ah=v:=by simp[Act.put,ef,wS h]
def mx{f:aH}{fn:Func}{e:Array ai->Sem ai}(d:P.funcs[f]?=aa fn)(a:(fn.name== "runtime.NumGoroutine")=af)(i:fn.body.isNone=ab)(b:Extern.findNext fn=ae)(g:Extern.find fn=aa e)(args:Array ai)(h:dj P (e args))(w:ay)(es:Array Event):
  (callFunc f args).events P w es=es.push ⟨.mark (.extern f),af,ab⟩:=by
 have j:fn.name≠ "runtime.NumGoroutine":=by grind
 have c:fn.body=ae:=by simpa using i
 simp[callFunc,d,j,c,b,g];rw[h w]
section
variable {X:Cx P}
def eg(P:aJ)(N:Nat)(o:aC)(φ:Fr)(σ:List bg)(x:ι->D)(σ':ι->List bg):Prop :=
 ∀s a,cx N σ s φ a->aE σ s->∃i b s' v,(aq a.eval o).run P s.w=.ok b s'.w/\(b=.value v∨(b=.skip/\v=ah))/\du (σ' i) s' v (x i)/\aE (σ' i) s'/\Step σ s (σ' i) s'/\fj s ((aq a.eval o).events P s.w #[])
def AK.hand(x:ι->D)(σ':ι->List bg)(y:o.guard=ae)(B:gm N o.dst=ab)(h:eg P N o φ σ x σ')(k:∀i,AK X N Qf (.ops all rest::K) .normal (kQ o.dst (x i) φ) (σ' i)):AK X N Qf (.ops all (o::rest)::K) .normal φ σ:=by
 intro s a f hh b kk cs S idx hb jO hQ;cases idx with
 |nil=>exact jO.elim
 |cons j idx =>
 refine se hb jO.1 (dM y) λw d=>?_;have c:=hh.rely d;have e:=f.rely d hh;obtain⟨i,p,s',v,h1,h2,r,n,m,u⟩:=h w a e c;have g:=m.nN c;refine⟨p,s',v,h1,h2,⟨⟨σ,σ' i,c,n,m⟩,u⟩,?_⟩;refine k i s' _ ?_ n b kk cs S idx hb jO.2 λl σ2 s2 a2 q z h2 st=>hQ l σ2 s2 a2 q z h2 ((d.stepW.trans g).trans st);cases A:o.dst with
 |none=>exact e.mono g c.len
 |some t=>exact(e.mono g c.len).put (gU B t A) r
def AK.law{x:D}(h:bL P o (bS φ) σ x σ')(a:o.guard=ae)(b:gm N o.dst=ab)(k:AK X N Qf (.ops all rest::K) .normal (kQ o.dst x φ) σ'):AK X N Qf (.ops all (o::rest)::K) .normal φ σ :=
 AK.one (.lL (λ_ _ _ _=>dM a) h) b k
def rH(all:List aC)(φ:Fr)(o:aC):Bool:=match o.guard with
 |none=>ab
 |some (j,b)=>match A9 φ all j with
  |some (aa ab)=>b
  |some (aa af)=>!b
  |_=>af
def fQ(h:rH all φ o=ab):∀σ s a,cx N σ s φ a->bl o (yielded all.toArray a.tmps)=ab:=by
 intro σ s a f;unfold rH at h;split at h
 .grind [dM]
 .rename_i j b d;split at h
  .rename_i c;simp only[bl,d,qX c f,h];rfl
  .rename_i c;simp only[bl,d,qX c f];grind
  grind
def AK.Po{f:aH}{σ1:List bg}{res:D}(c:Ev X f cv σs res σ1)(ks:List Nat)(g:rH all φ o=ab)(l:o.op=.call {callee:=.value fo,args:=xs,argTypes:=jU})(j:eQ (bS φ fo)=aa (f,cap))(a:m6 (xs.toList.map (bS φ)++fY cap)=fX ks cv)(h:lP ks.length cv=ab)(b:kh ks σ=aa σs)(m:cC σs=ab)(d:cC σ1=ab)(i:dK ks=ab)(e:bD ks.length σ1.length=ab)(n:gm N o.dst=ab)(k:AK X N Qf (.ops all rest::K) .normal (kQ o.dst (iE (ks++ln σ.length (σ1.length-ks.length)) res) φ) (dY ks σ1 σ)):AK X N Qf (.ops all (o::rest)::K) .normal φ σ :=
 iG.call (fQ g) l j ks c a h b m d i (dr e) o.dst rfl (gU n) k
end
inductive nL where
 |nil (a:Option Addr)
 |row (b cap:Nat)
def lK(bf:nL)(n:Nat):ai:=match bf with
 |.nil a=>.slice a 0 0
 |.row b cap=>.slice (aa ⟨b,0,ae⟩) n cap
def nS(bf:nL)(n:Nat):cO (lK bf n)=ab:=by cases bf<;>rfl
def OR(xs:List ai):Nat->List C:=λi=>[.val (xs.getD i ah)]
section
variable {X:Cx P}
def AW.uh{Q:Post}{φ':ι->Fr}{σ':ι->List bg}(h:∀s a,cx N σ s φ a->aE σ s->∃(i:ι)(s':St),s'.w=s.w/\cx N (σ' i) s' (φ' i) a/\aE (σ' i) s'/\Step σ s (σ' i) s')(k:∀i,AW X N c Q (φ' i) (σ' i)):AW X N c Q φ σ:=by intro s a m hh b kk cs S n p;obtain⟨i,s',l,g,d,st⟩:=h s a m hh;have f:=st.nN hh;refine .ghost (.of hh d l f) ?_;exact k i s' a g d b kk cs S n λe j σ2 s2 a2 q o h2 m0=>p e j σ2 s2 a2 q o h2 (f.trans m0)
def AK.OS(l:Nat)(H':ι->ai->(Nat->Option Obj)->Prop)(hl:σ[l]?=aa (.cj H))(h:∀v ch,H v ch->∃i,H' i v ch)(kk:∀i,AK X N Qf (.code c::K) .normal φ (σ.set l (.cj (H' i)))):AK X N Qf (.code c::K) .normal φ σ:=by
 refine AW.uh (φ':=λ_=>φ) (σ':=λi=>σ.set l (.cj (H' i))) (λs a k hh=>?_) kk;have g:l<σ.length:=(bX.1 hl).1;have f:l<s.β.length:=by rw[hh.len];grind
 have n:=bn f;generalize s.β[l]=L at n;obtain⟨ch,o,d,m,j⟩:=hh.box l _ L hl n;obtain⟨i,hi⟩:=h _ _ o;have ex:Ext σ s (σ.set l (.cj (H' i))) s:=by
  refine⟨λ_ _ _ h=>h,λl' B L' kG fC=>?_⟩;by_cases e:l=l'
  .subst e;rw[hl]at kG;cases kG;exact⟨.cj (H' i),L',by grind,fC,rfl⟩
  .exact⟨B,L',by grind,fC,.refl _ _⟩
 have st:Step σ s (σ.set l (.cj (H' i))) s :=
  ⟨bh _,λ_ _ _=>rfl,λ_ _ _ h=>h,λ_ _ _ _=>rfl,λL h b p=>.inr ⟨L,h,p⟩,ex.box,rfl,rfl,rfl,rfl⟩
 refine⟨i,s,rfl,⟨k.size,k.defers.imp λ_ h1=>h1.mono st.ext,λu=>(k.slot u).mono st.ext hh.len⟩,⟨hh.mem,by simp[hh.len],?_,hh.eO,hh.lt,hh.own⟩,st⟩;intro l' B L' kG fC;by_cases e:l=l'
 .subst e;rw[gu g]at kG;cases kG;rw[n]at fC;cases fC;exact⟨ch,hi,d,m,j⟩
 .rw[kL e]at kG;exact(hh.box l' B L' kG fC).carry ex hh.len λ_ _=>⟨rfl,λ_=>rfl⟩
end
def vP:C->Bool
 |.int _ _|.bool _|.str _|.iD|.jk|.za|.val _=>ab
 |_=>af
def wX:A->Bool
 |.c x=>vP x
 |.any=>ab
 |_=>af
def OO:List A->Bool
 |[]=>ab
 |a::r=>match wX a with|true=>OO r|false=>af
def Km:E1->Bool
 |.one a=>wX a
 |.agg cs=>OO cs
def G2:List E1->Bool
 |[]=>ab
 |a::r=>match Km a with|true=>G2 r|false=>af
def OP:D->Bool
 |.e x=>Km x
 |.fD xs=>G2 xs
 |.any=>ab
section
theorem qQ{M':Mem}{c:C}(h:vP c=ab)(r:Rd M v c):Rd M' v c:=by
 cases r<;>first|(simp[vP]at h;done)|skip
 case int h1=>exact .int h1
 case bool=>exact .bool
 case str h1 h2=>exact .str h1 h2
 case iD=>exact .iD
 case jk=>exact .jk
 case za=>exact .za
 case val h1=>exact .val h1
def G3{a:A}(h:wX a=ab)(r:gH σ s v a):gH σ' s' v a:=by
 cases a with
 |c x=>exact qQ h r
 |any=>exact r
 |_=>simp[wX]at h
def G4:∀{vs:List ai}{cs:List A},OO cs=ab->er σ s vs cs->er σ' s' vs cs
 |[],[],_,_=>trivial
 |[],_::_,_,r=>r.elim
 |_::_,[],_,r=>r.elim
 |v::vs,c::cs,h,r=>by
  simp only[OO]at h;cases a:wX c with
  |false=>grind
  |true=>simp only[a]at h;exact⟨G3 a r.1,G4 h r.2⟩
def AS{x:E1}(h:Km x=ab)(r:ow σ s v x):ow σ' s' v x:=by
 cases x with
 |one a=>exact G3 h r
 |agg cs=>obtain⟨vs,c,b⟩:=r;exact⟨vs,c,G4 h b⟩
def CG:∀{vs:List ai}{cs:List E1},G2 cs=ab->im σ s vs cs->im σ' s' vs cs
 |[],[],_,_=>trivial
 |[],_::_,_,r=>r.elim
 |_::_,[],_,r=>r.elim
 |v::vs,c::cs,h,r=>by
  simp only[G2]at h;cases a:Km c with
  |false=>grind
  |true=>simp only[a]at h;exact⟨AS a r.1,CG h r.2⟩
def OQ{d:D}(h:OP d=ab)(r:du σ s v d):du σ' s' v d:=by
 cases d with
 |e x=>exact AS h r
 |fD xs=>obtain⟨vs,b,a⟩:=r;exact⟨vs,b,CG h a⟩
 |any=>trivial
end
def CH:List bg->Bool
 |[]=>ab
 |.cj _::r=>CH r
 |.dead::r=>CH r
 |_=>af
def CI:∀{l:List bg},CH l=ab->∀B∈l,(∃H,B=.cj H)∨B=.dead
 |[],_,B,hB=>by grind
 |b::r,h,B,hB=>by
  have a:((∃H,b=.cj H)∨b=.dead)/\CH r=ab:=by cases b<;>simp_all[CH]
  rcases eb.1 hB with rfl|hB
  .exact a.1
  .exact CI a.2 B hB
def ik(σ:List bg)(a:Nat)(u:ai)(k n:Nat)(es:Nat->List C):Prop :=
 ∀s,aE σ s->∃(L:Loc) (M':Mem),s.β[a]?=aa L/\(∀b o v,s.M b o=aa v->M' b o=aa v)/\(∀b,b∉L.bs->∀o,M' b o=s.M b o)/\(∀b o v,M' b o=aa v->s.w.cell? ⟨b,o,ae⟩=aa v) /\
  (∀b∈L.bs,∀o,s.M b o=ae)/\Rd M' u (.sl af k n es)
section
variable {X:Cx P}
def cp.setAt{σ:List bg}{s:St}{d:D}:∀{vs:List ai}{ds:List D}{p:Nat}{v:ai},cp σ s vs ds->vs[p]?=aa v->du σ s v d->cp σ s vs (ds.set p d)
 |[],[],_,_,_,h,_=>by grind
 |[],_::_,_,_,h,_,_=>h.elim
 |_::_,[],_,_,h,_,_=>h.elim
 |u::vs,e::ds,0,v,h,b,a=>by simp at b;subst b;exact⟨a,h.2⟩
 |u::vs,e::ds,p+1,v,h,b,a=>⟨h.1,cp.setAt (p:=p) h.2 (by grind) a⟩
def kg(σ:List bg)(ds G5:List D):Prop :=
 ∀s vs,aE σ s->cp σ s vs ds->∃(B:Nat->Prop) (M':Mem),(∀b,B b->∃L∈s.β,b∈L.bs)/\(∀b o v,s.M b o=aa v->M' b o=aa v)/\(∀b,¬B b->∀o,M' b o=s.M b o) /\
  (∀b o v,M' b o=aa v->s.w.cell? ⟨b,o,ae⟩=aa v)/\(∀b,B b->∀o,s.M b o=ae)/\cp σ {s with M:=M'} vs G5
def kg.refl(σ:List bg)(ds:List D):kg σ ds ds:=λs vs hh hr=>⟨λ_=>False,s.M,λ_ h=>h.elim,λ_ _ _ h=>h,λ_ _ _=>rfl,hh.mem,λ_ h=>h.elim,hr⟩
def kg.step{ds G5:List D}(h:kg σ ds G5)(p y:Nat){u:ai}{k:Nat}(r:G5[p]?=aa (.e (.one (.v u))))(hl:ik σ y u k n es):kg σ ds (G5.set p (.e (.one (.c (.sl af k n es))))):=by
 classical
 intro s vs hh hr;obtain⟨B,M1,H,t,C,F,E,j⟩:=h s vs hh hr;obtain⟨L,a,m,I,G,z,A,w⟩:=hl s hh;have h1:∀b o v,M1 b o=aa v->(M1 b o).or (a b o)=aa v:=λb o v d=>by grind
 have h2:∀b o v,a b o=aa v->(M1 b o).or (a b o)=aa v:=λb o v d=>by
  cases e:M1 b o with
  |none=>grind
  |some v' =>
   grind
 refine⟨λb=>B b∨b∈L.bs,λb o=>(M1 b o).or (a b o),?_,λb o v d=>h1 b o v (t b o v d),?_,?_,?_,?_⟩
 .grind
 .grind
 .intro b o v d;cases e:M1 b o with
  |none=>grind
  |some v'=>grind
 .grind
 .have e1:Ext σ {s with M:=M1} σ {s with M:=λb o=>(M1 b o).or (a b o)}:=⟨h1,λl B L hB m=>⟨B,L,hB,m,.refl _ _⟩⟩
  have q:=j.mono e1 hh.len;obtain⟨x,g⟩:=cp.get j;have i:p<vs.length:=by grind
  have f:vs[p]?=aa u:=by have:=g p;rw[r,bn i]at this;have:=Rd.eu (show Rd M1 vs[p] (.val u)from this);grind
  exact q.setAt f (show du σ {s with M:=λb o=>(M1 b o).or (a b o)} u (.e (.one (.c (.sl af k n es))))from Rd.mono h2 w)
end
def gk(E:av)(k:Nat)(bf:nL)(n:Nat)(xs:List ai):ai->(Nat->Option Obj)->Prop:=λv c=>v=.nilFunc/\(∀x∈xs,cO x=ab)/\xs.length=n*k/\match bf with
 |.nil _=>n=0/\c=λ_=>ae
 |.row b cap=>n<=cap/\cap<=9223372036854775807/\∃a,(xs++a).length=cap*k/\c=λd=>if d=b then aa (.cells (xs++a).toArray E (0,0))else ae
def ui(k:Nat)(xs:List ai):Nat->List C:=λi=>((xs.drop (i*k)).take k).map .val
def CJ{k:Nat}{xs:List ai}(a:xs.length=n*k)(hi:i<n):(ui k xs i).length=k:=by
 have:i*k+k<=n*k:=by rw[<-lO];exact eP _ hi
 simp[ui,a];omega
def CK{k:Nat}{xs:List ai}{c:C}(h:(ui k xs i)[j]?=aa c):∃u,xs[i*k+j]?=aa u/\c=.val u:=by simp only[ui,nA,gL,pK]at h;grind
def gk.lookup{k cap:Nat}{xs:List ai}{ch:Nat->Option Obj}(h:gk E k (.row b cap) n xs v ch):∃a,(xs++a).length=cap*k/\ch b=aa (.cells (xs++a).toArray E (0,0))/\∀c,(ch c).isSome=ab↔c=b:=by obtain⟨_,_,_,_,_,a,h1,h2⟩:=h;grind
def Rd.VA{cap k:Nat}{xs:List ai}(e:∀x∈xs,cO x=ab)(hl:xs.length=n*k)(d:n<=cap)(f:cap<=9223372036854775807)(g:∀o,M b o=xs[o]?):Rd M (.slice (aa ⟨b,0,ae⟩) n cap) (.sl af k n (ui k xs)):=by refine Rd.oK (M:=M) (k:=k) (n:=n) (es:=ui k xs) (vs:=xs) (a:=aa ⟨b,0,ae⟩) (b:=b) (off:=0) (cap:=cap) (t:=af) ⟨hl,λi hi=>CJ hl hi,λi hi j c hj=>?_⟩ (λ_=>rfl) d f (by simp) (λp u h=>by grind);obtain⟨u,h1,rfl⟩:=CK hj;exact⟨u,h1,.val (e u (bP h1))⟩
section
variable {X:Cx P}
def gk.CL{k f:Nat}{bf:nL}{xs:List ai}(hl:σ[f]?=aa (.cj (gk E k bf n xs)))(es:Nat->List C)(m:∀i,i<n->(es i).length=k/\∀M j c x,(es i)[j]?=aa c->xs[i*k+j]?=aa x->Rd M x c):ik σ f (lK bf n) k n es:=by
 intro s hh;have J:f<σ.length:=(bX.1 hl).1;have l:f<s.β.length:=by rw[hh.len];grind
 have z:=bn l;generalize s.β[f]=L at z;obtain⟨ch,B,e,D,d⟩:=hh.box f _ L hl z;cases bf with
 |nil a0 =>
  obtain⟨_,_,_,rfl,_⟩:=B;exact⟨L,s.M,z,λ_ _ _ h=>h,λ_ _ _=>rfl,hh.mem,d,Rd.iR⟩
 |row b cap =>
  obtain⟨R,Q,g,I⟩:=B.lookup;obtain⟨K,H,w,y,A,_⟩:=B;have G:b∈L.bs:=(D b).2 (by grind)
  have r:=e b _ g;obtain⟨c1,c2⟩:=hh.AN (b:=b) (vs:=xs) (d b G) (λo v S=>by
   simp only[aP,r]
   grind)
  refine⟨L,λF o=>if F=b then xs[o]? else s.M F o,z,c2,λF N o=>aY (by grind),c1.mem,d,?_⟩;refine Rd.oK (k:=k) (n:=n) (es:=es) (vs:=xs) (a:=aa ⟨b,0,ae⟩) (b:=b) (off:=0) (cap:=cap) (t:=af) ⟨w,λi hi=>(m i hi).1,λi hi j c hj=>?_⟩ (λ_=>rfl) y A (by simp) (λp u T=>by grind);have O:j<k:=by grind
  have q:i*k+j<xs.length:=by
   rw[w];have:i*k+k<=n*k:=by rw[<-lO];exact eP _ hi
   omega
  exact⟨xs[i*k+j],bn q,(m i hi).2 _ j c _ hj (bn q)⟩
def eg.oN{k:Nat}(h:lW P o x y E ie)(hs:ie.size=k){bf:nL}{xs:List ai}(hx:bS φ x=.e (.one (.v (lK bf n))))(hl:σ[l]?=aa (.cj (gk E k bf n xs))){tx:Bool}{es':Nat->List C}(hy:bS φ y=.e (.one (.c (.sl tx k 1 es')))){xv:List ai}(hxv:xv.length=k)(hcx:∀(M:Mem) (v:ai) (j:Nat) (c:C),(es' 0)[j]?=aa c->Rd M v c->xv[j]?=aa v/\cO v=ab)(I:(n+1)*ie.bytes<=140737488355328):
  eg P N o φ σ (λS:nL=>.e (.one (.v (lK S (n+1))))) λS=>σ.set l (.cj (gk E k S (n+1) (xs++xv))):=by
 intro s a hf hh;obtain⟨t,t2,i,i2,ho,hi,D,F,H⟩:=h.op;have So:l<σ.length:=(bX.1 hl).1;have Y:l<s.β.length:=by rw[hh.len];grind
 have hL:=bn Y;generalize s.β[l]=L at hL;obtain⟨ch,W,J,Vp,XX⟩:=hh.box l _ L hl hL;have T:=bP hL;have R:=dh hf x;rw[hx]at R;have R:=Rd.eu R;have hw:=dh hf y;rw[hy]at hw;have hw:=fe hw;have K:=W.2.1;have U:=W.2.2.1;have nM:∀b,s.w.heap.size<=b->∀o,s.M b o=ae:=λb I o=>by
  cases hm:s.M b o with
  |none=>rfl
  |some v=>have:=hh.block hm;omega
 have mk:∀(M':Mem) (a0:Option Addr) (cap:Nat),lK bf n=.slice a0 n cap->cap<n+1->aE (σ.map λ_=>.dead) {s with M:=M'}->(∀f o v,s.M f o=aa v->M' f o=aa v) ->
   Rd M' (.slice a0 n cap) (.sl af k n (ui k xs))->(∀{es},fj {s with M:=M'} es->fj s es) ->
   ∃i nx s' v,(aq a.eval o).run P s.w=.ok nx s'.w/\(nx=.value v∨(nx=.skip/\v=ah))/\du (σ.set l (.cj (gk E k i (n+1) (xs++xv)))) s' v (.e (.one (.v (lK i (n+1)))))/\aE (σ.set l (.cj (gk E k i (n+1) (xs++xv)))) s'/\Step σ s (σ.set l (.cj (gk E k i (n+1) (xs++xv)))) s'/\fj s ((aq a.eval o).events P s.w #[]):=by
  intro M' a0 cap hsl E6 Om hMM hR XY;have B:Rd ({s with M:=M'}:St).M (a.eval y) (.sl tx ie.size 1 es'):=by rw[hs];exact hw.mono hMM
  have hR':Rd ({s with M:=M'}:St).M (.slice a0 n cap) (.sl af ie.size n (ui k xs)):=by grind
  obtain⟨vs,g,r,A,f2,f3,f4,f5⟩:=iQ (P:=P) (s:={s with M:=M'}) (ty:=o.type) hi D F H h.elem Om hR' B E6 I h.bytes;have f6:=jq (P:=P) (s:={s with M:=M'}) (ty:=o.type) hi D F H h.elem Om hR' B E6 I h.bytes;rw[hs]at A f4;have Rb:vs.length=(n+1)*k:=A.len;have JW:xs.length+k=(n+1)*k:=by grind
  have Yz:0<k:=by have:=h.size;omega
  have YA:∀j,j<k->∃v,vs[n*k+j]?=aa v/\xv[j]?=aa v/\cO v=ab:=λj hj=>by
   have Sw:=A.width n (by omega);have hwn:cM n (ui k xs) es' n=es' 0:=by simp[cM]
   rw[hwn]at Sw;obtain⟨v,v1,v2⟩:=A.rd n (by omega) j ((es' 0)[j]'(by omega)) (by grind);grind
  have UX:vs=xs++xv:=by
   apply ji;intro q;by_cases e:q<xs.length
   .have hi:q / k<n:=qz (by grind);have Vo:q / k*k+q % k=q:=qH q k;have hwl:=CJ (k:=k) U hi;have hap:cM n (ui k xs) es' (q / k)=ui k xs (q / k):=by simp[cM,hi]
    have hjl:q % k<(ui k xs (q / k)).length:=by rw[hwl];exact jd _ Yz
    obtain⟨v,v1,v2⟩:=A.rd (q / k) (by omega) (q % k) ((ui k xs (q / k))[q % k]) (by grind);obtain⟨u,u1,u2⟩:=CK (bn hjl);grind[Rd.eu]
   grind
  subst UX;have YB:∀x∈xv,cO x=ab:=λx hx=>by grind[List.getElem_of_mem]
  let w':ay:=s.w.drew.alloc (.cells (xs++xv++g).toArray E);have OM:w'.heap[s.w.heap.size]?=aa (.cells (xs++xv++g).toArray E (0,0)):=dX s.w.drew _;have JX:w'.heap.size=s.w.heap.size+1:=by show(s.w.drew.heap.push _).size=_;simp
  obtain⟨t1,Q⟩:=hh.jX (l:=l) (H':=gk E k (.row s.w.heap.size r) (n+1) (xs++xv)) (L':=⟨L.v,[s.w.heap.size]⟩) (w':=w') hl hL rfl (by omega)
   (λb I _=>cT s.w.drew _ I) (λb I=>by grind)
   ⟨λf=>if f=s.w.heap.size then aa (.cells (xs++xv++g).toArray E (0,0))else ae,⟨W.1,λx hx=>by
    grind,by grind,f2,f3,g,by rw[f4],rfl⟩,λb o I=>by grind,λb=>by by_cases e:b=s.w.heap.size<;>simp[e]⟩ rfl rfl rfl
  refine⟨.row s.w.heap.size r,.value (.slice (aa ⟨s.w.heap.size,0,ae⟩) (n+1) r),_,_,?_,.inl rfl,Rd.val rfl,t1,Q,?_⟩
  .rw[dq ho,R,hsl];simp only[bT,dE];have f5':(Builtin.append_ #[t,t2] o.type #[.slice a0 n cap,a.eval y]).run P s.w=_:=f5;rw[f5'];rfl
  grind[dq,eU]
 cases bf with
 |nil a0 =>
  obtain⟨_,_,_,rfl,_⟩:=W;refine mk s.M a0 0 rfl (by simp) (by have:=hh.l9;exact⟨this.mem,this.len,this.box,this.eO,this.lt,this.own⟩) (λ_ _ _ h=>h) Rd.iR (λh=>h)
 |row b cap =>
  obtain⟨g,XZ,Sx,VB⟩:=W.lookup;obtain⟨Sp,_,_,E6,Z,_⟩:=W;have G:b∈L.bs:=(Vp b).2 (by grind);have m:=J b _ Sx;have hMb:=XX b G;have YC:b<s.w.heap.size:=hh.lt L T b G;have Ra:∀o v,xs[o]?=aa v->s.w.cell? ⟨b,o,ae⟩=aa v:=by intro o v ho;simp only[aP,m];grind
  obtain⟨c1,c2⟩:=hh.AN (b:=b) (vs:=xs) hMb Ra;have XY:∀{es:Array Event},fj {s with M:=λf o=>if f=b then xs[o]? else s.M f o} es->fj s es:=λhe =>
   he.wU (b:=b) T G c2 λf o v R=>by grind
  have hR:=Rd.VA (M:=λf o=>if f=b then xs[o]? else s.M f o) (b:=b) (cap:=cap) (xs:=xs) K U E6 Z (λo=>by simp);by_cases p:n+1<=cap
  .have B:Rd ({s with M:=λf o=>if f=b then xs[o]? else s.M f o}:St).M (a.eval y) (.sl tx ie.size 1 es'):=by rw[hs];exact hw.mono c2
   obtain⟨d,A,f2⟩:=kN (P:=P) (s:={s with M:=λf o=>if f=b then xs[o]? else s.M f o}) (ty:=o.type) (n:=n) (b:=b) (cap:=cap) hi D F H h.elem c1 m (by grind) B p;have f6:=mo (P:=P) (s:=s) (ty:=o.type) (n:=n) (b:=b) (cap:=cap) hi D F H h.elem hh m (by grind) (x:=a.eval y) (tx:=tx) (es':=es') (by grind) p T G (λo _=>hMb o);rw[hs]at A f2;have UU:d.length=k:=by have:=A.len;omega
   have hw0:=A.width 0 (by omega);have YA:∀j,j<k->∃v,d[j]?=aa v/\xv[j]?=aa v/\cO v=ab:=λj hj=>by obtain⟨v,v1,v2⟩:=A.rd 0 (by omega) j ((es' 0)[j]'(by omega)) (bn (by omega));grind
   have V:d=xv:=by apply ji;grind
   subst V;have YB:∀x∈d,cO x=ab:=λx hx=>by grind[List.getElem_of_mem]
   have hfk:n*k+k<=cap*k:=by rw[<-lO];exact eP _ p
   have hzk:k<=g.length:=by grind
   have O:((xs++g).take (n*k)++d++(xs++g).drop (n*k+d.length))=xs++d++g.drop k:=by rw[<-U,UU];simp[List.drop_append]
   rw[O]at f2;have Sl:(s.w.setRow b (xs++d++g.drop k).toArray).heap[b]?=aa (.cells (xs++d++g.drop k).toArray E (0,0)):=setRow_heap s.w b _ _ E _ m;have E7:∀f,f≠b->(s.w.setRow b (xs++d++g.drop k).toArray).heap[f]?=s.w.heap[f]?:=λf z=>setRow_other s.w b f _ z;obtain⟨t1,Q⟩:=hh.jX (l:=l) (H':=gk E k (.row b cap) (n+1) (xs++d)) (L':=L) (w':=s.w.setRow b (xs++d++g.drop k).toArray) hl hL rfl (by simp)
    (λf z hn=>E7 f (by grind)) (λf z=>.inl z)
    ⟨λf=>if f=b then aa (.cells (xs++d++g.drop k).toArray E (0,0))else ae,⟨Sp,λx hx=>by
     grind,by grind,p,Z,g.drop k,by grind,rfl⟩,λf o z=>by
     grind,λf=>by grind⟩ rfl rfl rfl
   refine⟨.row b cap,.value (.slice (aa ⟨b,0,ae⟩) (n+1) cap),_,_,?_,.inl rfl,Rd.val rfl,t1,Q,?_⟩
   .rw[dq ho,R];simp only[bT,dE,lK];have f2':(Builtin.append_ #[t,t2] o.type #[.slice (aa ⟨b,0,ae⟩) n cap,a.eval y]).run P s.w=_:=f2;rw[f2'];rfl
   .rw[dq ho,R];exact eU f6
  .exact mk _ (aa ⟨b,0,ae⟩) cap rfl (by omega) c1 c2 hR XY
def AK.oN{k:Nat}(h:lW P o x y E ie)(i:ie.size=k){d:Nat}(r:o.dst=aa d)(q:o.guard=ae)(s:gm N o.dst=ab){bf:nL}{xs:List ai}(g:bS φ x=.e (.one (.v (lK bf n))))(hl:σ[l]?=aa (.cj (gk E k bf n xs))){tx:Bool}{es':Nat->List C}(m:bS φ y=.e (.one (.c (.sl tx k 1 es')))){xv:List ai}(b:xv.length=k)(f:∀(M:Mem) (v:ai) (j:Nat) (c:C),(es' 0)[j]?=aa c->Rd M v c->xv[j]?=aa v/\cO v=ab)(p:(n+1)*ie.bytes<=140737488355328)(kk:∀a:nL,AK X N Qf (.ops all rest::K) .normal ((d,.e (.one (.v (lK a (n+1)))))::φ) (σ.set l (.cj (gk E k a (n+1) (xs++xv))))):AK X N Qf (.ops all (o::rest)::K) .normal φ σ :=
 AK.hand (ι:=nL) (λa=>.e (.one (.v (lK a (n+1))))) (λa=>σ.set l (.cj (gk E k a (n+1) (xs++xv)))) q s (.oN h i g hl m b f p) λa=>by rw[r];exact kk a
def AK.OT(t:Nat)(E:av)(k:Nat){h:Nat}(m:look φ t=.e (.one (.c (.sl ab h 0 es))))(kk:∀bf:nL,AK X N Qf (.code c::K) .normal ((t,.e (.one (.v (lK bf 0))))::φ) (σ++[.cj (gk E k bf 0 [])])):AK X N Qf (.code c::K) .normal φ σ:=by
 refine AW.uh (λs a d hh=>?_) kk;have g:=d.slot t;rw[m]at g;obtain⟨a0,cap,vs,j,_,_,b,_,_⟩:=(fe g).flat;have b:=b rfl;subst b;obtain⟨l,f⟩:=hh.iy (B:=.cj (gk E k (.nil a0) 0 [])) (L:=⟨.nilFunc,[]⟩) (.refl _ _) rfl hh ⟨λ_=>ae,⟨rfl,by simp,by simp,rfl,rfl⟩,by simp,by simp,by simp⟩ (by simp);refine⟨.nil a0,{s with β:=s.β++[⟨.nilFunc,[]⟩]},rfl,⟨d.size,d.defers.imp λ_ h1=>h1.mono f.ext,λu=>?_⟩,l,f⟩;simp only[look];cases i:aw t u with
 |false=>exact(d.slot u).mono f.ext hh.len
 |true =>
  have e:=bY i;subst e;show Rd _ _ _;rw[j];exact Rd.val rfl
def AK.wY(t l:Nat){k:Nat}{bf:nL}{xs:List ai}(es:Nat->List C)(A:look φ t=.e (.one (.v (lK bf n))))(hl:σ[l]?=aa (.cj (gk E k bf n xs)))(m:∀i,i<n->(es i).length=k/\∀M j c x,(es i)[j]?=aa c->xs[i*k+j]?=aa x->Rd M x c)(kk:AK X N Qf (.code c::K) .normal ((t,.e (.one (.c (.sl af k n es))))::φ) (σ.set l .dead)):AK X N Qf (.code c::K) .normal φ σ:=by
 refine AK.ghost (λs a g hh=>?_) kk;obtain⟨L,M',r,w,q,z,F,H⟩:=gk.CL hl es m s hh;have d:l<σ.length:=(bX.1 hl).1;have p:=g.slot t;rw[A]at p;have G:=Rd.eu p;have ex:Ext σ s (σ.set l .dead) {s with M:=M'}:=by
  refine⟨w,λl' B L' kG fC=>?_⟩;by_cases e:l=l'
  .subst e;rw[hl]at kG;cases kG;exact⟨.dead,L',by grind,fC,rfl⟩
  .exact⟨B,L',by grind,fC,.refl _ _⟩
 have st:Step σ s (σ.set l .dead) {s with M:=M'}:=by refine⟨bh _,λ_ _ _=>rfl,w,λb _ y o=>q b (y L (bP r)) o,λL h b f=>.inr ⟨L,h,f⟩,ex.box,rfl,rfl,rfl,rfl⟩
 refine⟨{s with M:=M'},rfl,⟨g.size,g.defers.imp λ_ h1=>h1.mono st.ext,λu=>?_⟩,⟨z,by simp[hh.len],?_,hh.eO,hh.lt,hh.own⟩,st⟩
 .simp only[look];cases f:aw t u with
  |false=>exact(g.slot u).mono st.ext hh.len
  |true =>
   have e:=bY f;subst e;show Rd _ _ _;grind
 .intro l' B L' kG fC;by_cases e:l=l'
  .subst e;rw[gu d]at kG;cases kG;trivial
  .rw[kL e]at kG;exact(hh.box l' B L' kG fC).carry ex hh.len λb f=>⟨rfl,q b λD=>e (hh.eO l l' L L' r fC b D f)⟩
end
structure gE(k n:Nat)(es:Nat->List C)(xs:List ai):Prop where
 len:xs.length=n*k
 wid:∀i,i<n->(es i).length=k
 at':∀i,i<n->∀j c,(es i)[j]?=aa c->∃x,xs[i*k+j]?=aa x/\∀M,Rd M x c
def gE.rd{k:Nat}{xs:List ai}(h:gE k n es xs):∀i,i<n->(es i).length=k/\∀M j c x,(es i)[j]?=aa c->xs[i*k+j]?=aa x->Rd M x c:=λi hi =>
 ⟨h.wid i hi,λM j c x hj hx=>by obtain⟨y,h1,h2⟩:=h.at' i hi j c hj;grind⟩
def RE(v:ai):A->A
 |.vec 0 _ _ _=>.v v
 |a=>a
def Lz(v:ai):E1->E1
 |.one a=>.one (RE v a)
 |e=>e
def FI(v:ai):List E1->List E1
 |[]=>[]
 |a::r=>Lz v a::FI v r
def RF(v:ai):D->D
 |.e x=>.e (Lz v x)
 |.fD xs=>.fD (FI v xs)
 |.any=>.any
def nh(n:Nat):A->Bool
 |.vec 0 _ b _=>aw b n
 |a=>wX a
def ri(n:Nat):E1->Bool
 |.one a=>nh n a
 |e=>Km e
def qf(n:Nat):List E1->Bool
 |[]=>ab
 |a::r=>match ri n a with|true=>qf n r|false=>af
def wH(n:Nat):D->Bool
 |.e x=>ri n x
 |.fD xs=>qf n xs
 |.any=>ab
section
variable {k:Nat}{L:Loc}
def LA(i:s.β[0]?=aa L){a:A}(h:nh n a=ab)(r:gH [bg.vec E k n es] s v a):gH σ' s' v (RE L.v a):=by
 cases a with
 |c x=>exact qQ h r
 |any=>exact r
 |vec l k' n' es' =>
  cases l with
  |zero =>
   obtain⟨g,_,b⟩:=r;have b:=b E k n es rfl;have e:=bY h;obtain⟨L',f,d⟩:=b.2 e.symm;rw[i]at f;cases f;show Rd _ _ _;rw[d];exact .val (d▸g.cell)
  |succ l=>simp[nh,wX]at h
 |ptr=>simp[nh,wX]at h
 |ref=>simp[nh,wX]at h
 |bp=>simp[nh,wX]at h
def Dk(b:s.β[0]?=aa L){x:E1}(h:ri n x=ab)(r:ow [bg.vec E k n es] s v x):ow σ' s' v (Lz L.v x):=by
 cases x with
 |one a=>exact LA b h r
 |agg cs=>exact AS (x:=.agg cs) h r
def zM(b:s.β[0]?=aa L):∀{vs:List ai}{cs:List E1},qf n cs=ab->im [bg.vec E k n es] s vs cs->im σ' s' vs (FI L.v cs)
 |[],[],_,_=>trivial
 |[],_::_,_,r=>r.elim
 |_::_,[],_,r=>r.elim
 |v::vs,c::cs,h,r=>by
  simp only[qf]at h;cases a:ri n c with
  |false=>grind
  |true=>simp only[a]at h;exact⟨Dk b a r.1,zM b h r.2⟩
def Dl(a:s.β[0]?=aa L){d:D}(h:wH n d=ab)(r:du [bg.vec E k n es] s v d):du σ' s' v (RF L.v d):=by
 cases d with
 |e x=>exact Dk a h r
 |fD xs=>obtain⟨vs,c,b⟩:=r;exact⟨vs,c,zM a h b⟩
 |any=>trivial
end
def wI:List ResultVar->Bool
 |[]=>ab
 |.tmp _::r=>wI r
 |.cell _ _::_=>af
def vo{P:aJ}{a:Act}:∀{rs:List ResultVar},wI rs=ab->∃vs,(∀w,(rs.mapM (gz a)).run P w=Result.ok vs w)/\dj P (rs.mapM (gz a))
 |[],_=>⟨[],by simp,by rw[List.mapM_nil];exact .pure⟩
 |.tmp t::r,h=>by
  obtain⟨vs,c,b⟩:=vo (P:=P) (a:=a) (rs:=r) h;refine⟨a.tmps.getD t ah::vs,λw=>?_,?_⟩
  .simp only[l6,bT,gz,dE,cu,c]
  .rw[l6];exact .bind .pure λ_=>.bind b λ_=>.pure
def vN.tmp{f:aH}{fn:Func}{fr:aX}(h:vN P f fr v s)(t:P.funcs[f]?=aa fn)(q:wI fn.results.toList=ab)(i:∀b o u,s.M b o=aa u->s.w.cell? ⟨b,o,ae⟩=aa u):vN P f fr v s':=by
 obtain⟨h1,h2,j,p,c,n,l⟩:=h;have e:c=fn:=by grind
 subst e;let a:Act:={tmps:=fr.tmps,defers:=[]}
 obtain⟨vs,k1,g⟩:=vo (P:=P) (a:=a) q;have e1:∀w,(c.results.mapM (gz a)).run P w=Result.ok vs.toArray w:=λw=>by grind[Array.mapM_eq_mapM_toList,Sem.run_map,Go.Result.andThen_ok]
 have e2:∀w,(results c fr.tmps).run P w=.ok (if h:vs.toArray.size=1 then vs.toArray[0]else .tuple vs.toArray) w:=λw=>by unfold results;rw[bT];refine(dH (λr=>Result.andThen r _) (e1 w)).trans ?_;simp
 have e3:dj P (results c fr.tmps):=by
  unfold results;have e:dj P (c.results.mapM (gz a)):=by rw[rR];exact .map g
  exact .bind e λ_=>.pure
 have d:=(l s.w i).1;rw[e2]at d;cases d;exact⟨h1,h2,j,p,c,n,λw _=>⟨e2 w,λe m=>by rw[e3 w #[]]at m;grind⟩⟩
def Ev.thaw{X:Cx P}[X.ik]{f:aH}{args:List D}{res:D}{k:Nat}(h:Ev X f args [] res [.vec E k n es]){fn:Func}(hf:P.funcs[f]?=aa fn)(ht:wI fn.results.toList=ab)(O:wH n res=ab)(K:∀i,i<n->(es i).length=k/\∀c∈es i,vP c=ab):
  ek (ι:={q:nL×List ai // gE k n es q.2}) X f args [] (λq=>RF (lK q.1.1 n) res) (λq=>[.cj (gk E k q.1.1 n q.1.2)]):=by
 refine⟨h.1,λs vs hr hh S cs hS=>h.2 s vs hr hh S cs λfr v s' hl mT jP st=>?_⟩;have hβ0:s.β=[]:=jF hh.len;have hlen:s'.β.length=1:=jP.len;obtain⟨L,I⟩:∃L,s'.β=[L]:=by
  match hq:s'.β with
  |[L]=>grind
  |[]=>grind
  |_::_::_=>grind
 have hL:s'.β[0]?=aa L:=by grind
 obtain⟨U,hb2⟩:=jP.box 0 _ L rfl hL;rcases hb2 with⟨⟨Vp,W⟩,t⟩|⟨b,cap,cells,VL,H,JW,Z⟩
 .subst W;obtain⟨a,cap,ZD,hv,E6,UW,htc,_⟩:=t.flat;have A:cap=0:=htc rfl;subst A;let z:St:={s' with β:=[⟨.nilFunc,[]⟩]}
  have hg:eH s' z:=⟨rfl,λ_ _ _ h=>h,λ_ _ _=>rfl,jP.mem,λb V=>by grind⟩
  have y:gE k 0 es []:=⟨by simp,λi hi=>by omega,λi hi=>by omega⟩
  refine .ghost hg (hS ⟨(.nil a,[]),y⟩ fr v z (hl.tmp hf ht jP.mem) ?_ ?_ ?_)
  .have:=Dl (σ':=[bg.cj (gk E k (.nil a) 0 [])]) (s':=z) hL O mT;rw[hv]at this;exact this
  .refine⟨jP.mem,rfl,λl B L' hB fC=>?_,?_,by grind,λb V=>⟨(jP.own b V).1,by grind⟩⟩
   .cases l with
    |zero=>cases hB;cases fC;exact⟨λ_=>ae,⟨rfl,by simp,by simp,rfl,rfl⟩,by simp,by simp,by simp⟩
    |succ l=>grind
   grind
  .refine⟨st.size,st.fA,st.mem,st.jo,λL' fC b V=>?_,λl B L' hB=>by grind,st.os,st.tape,st.output,st.own⟩;grind
 .subst VL;have R:b∈(⟨.slice (aa ⟨b,0,ae⟩) n cap,[b]⟩:Loc).bs:=by simp
  have abG:s.w.heap.size<=b:=by
   rcases st.wu _ (by grind) b R with h1|⟨L0,h1,_⟩
   .exact h1
   grind
  have YC:b<s'.w.heap.size:=jP.lt _ (by grind) b R;obtain⟨a1,aer,m,hv1,r,Q,_,hF,hm⟩:=U.flat;cases hv1;have N:m.length=n*k:=hF.len;have aet:∀p u,m[p]?=aa u->cells[p]?=aa u:=λp u Y=>by obtain⟨b1,aeu,e,ZI⟩:=hm p u Y;cases e;have:=jP.mem _ _ _ ZI;simp only[aP,H]at this;simpa using this
  have hnk:n*k<=cells.length:=by rw[JW];exact eP _ r
  have Rx:cells.take (n*k)=m:=by apply ji;grind
  have Sn:m++cells.drop (n*k)=cells:=by grind[List.take_append_drop]
  have y:gE k n es m:=by refine⟨N,λi hi=>(K i hi).1,λi hi j c hj=>?_⟩;obtain⟨u,u1,u2⟩:=hF.rd i hi j c hj;grind[qQ]
  have C:∀x∈m,cO x=ab:=λx hx=>by
   obtain⟨p,Y,rfl⟩:=dD hx;have hk:0<k:=by grind
   have hi:p / k<n:=qz (by grind);have Vo:p / k*k+p % k=p:=qH p k;have hj:p % k<(es (p / k)).length:=by rw[(K _ hi).1];exact jd _ hk
   obtain⟨u,u1,u2⟩:=y.at' _ hi _ _ (bn hj);rw[Vo,bn Y]at u1;cases u1;exact(u2 s.M).cell
  have G:∀d o v',s.M d o=aa v'->d≠b:=λd o v' hm' e=>by have:=hh.block hm';omega
  let J:Mem:=λd o=>if d=b then ae else s'.M d o;let s1:St:={s' with β:=[],own:=λx=>s'.own x∨x=b}
  let s2:St:={s1 with M:=J}
  let z:St:={s' with β:=[⟨.nilFunc,[b]⟩],M:=J}
  have F:∀d o v',J d o=aa v'->s'.M d o=aa v':=λd o v' h'=>by grind
  have ZA:eH s' s1:=⟨rfl,λ_ _ _ h=>h,λ_ _ _=>rfl,jP.mem,λd g=>by
   rcases g with(g|g)|⟨L',fC,_⟩
   .grind
   .exact .inr ⟨_,by rw[I];simp;rfl,by grind⟩
   grind⟩
  have X3:nB s1 s2:=⟨rfl,rfl,rfl,F,λd o v' h'=>by grind⟩
  have T:eH s2 z:=⟨rfl,λ_ _ _ h=>h,λ_ _ _=>rfl,λd o v' h'=>jP.mem _ _ _ (F _ _ _ h'),λd g=>by grind⟩
  refine .ghost ZA (.forget Cx.ik.ok X3 (.ghost T (hS ⟨(.row b cap,m),y⟩ fr v z (hl.tmp hf ht jP.mem) ?_ ?_ ?_)))
  .exact Dl (L:=⟨.slice (aa ⟨b,0,ae⟩) n cap,[b]⟩) hL O mT
  .refine⟨λd o v' h'=>jP.mem _ _ _ (F _ _ _ h'),rfl,λl B L' hB fC=>?_,?_,λL' fC d g=>?_,λd g=>⟨(jP.own d g).1,λL' fC=>?_⟩⟩
   .cases l with
    |zero =>
     cases hB;cases fC;refine⟨λd=>if d=b then aa (.cells (m++cells.drop (n*k)).toArray E (0,0))else ae,⟨rfl,C,N,r,Q,cells.drop (n*k),?_,rfl⟩,λd o g=>?_,λd=>?_,λd g o=>?_⟩
     .grind
     .grind
     .by_cases e:d=b<;>simp[e]
     grind
    |succ l=>grind
   .grind
   .grind
   .simp[z]at fC;subst fC;have:=(jP.own d g).2 _ (by rw[I];simp;rfl);grind
  .refine⟨st.size,st.fA,λd o v' h'=>?_,λd g hn o=>?_,λL' fC d g=>?_,λl B L' hB=>by grind,st.os,st.tape,st.output,st.own⟩
   .simp only[z,J,aY (G d o v' h')];exact st.mem _ _ _ h'
   .have:d≠b:=by omega
    simp only[z,J,aY this];exact st.jo d g hn o
   grind
section
variable {X:Cx P}
def AK.fact{p:Prop}(h:∀s,aE σ s->p)(k:p->AK X N Qf (.code c::K) .normal φ σ):AK X N Qf (.code c::K) .normal φ σ :=
 λs a b hh=>k (h s hh) s a b hh
def AK.Kn{p:Prop}(h:∀s,aE σ s->p)(k:p->AK X N Qf (.ops all rest::K) .normal φ σ):AK X N Qf (.ops all rest::K) .normal φ σ :=
 λs a b hh=>k (h s hh) s a b hh
def gk.len{E:av}{k n l:Nat}{bf:nL}{xs:List ai}(hl:σ[l]?=aa (.cj (gk E k bf n xs)))(s:St)(hh:aE σ s):xs.length=n*k/\n<=9223372036854775807/\(0<n->∃b cap,bf=.row b cap)/\∀a,bf=.nil a->n=0:=by
 have c:l<s.β.length:=by rw[hh.len];grind
 obtain⟨ch,e,_⟩:=hh.box l _ _ hl (bn c);cases bf with
 |nil a=>obtain⟨_,_,f,rfl,_⟩:=e;grind
 |row b cap=>obtain⟨_,_,f,h,g,_⟩:=e;grind
def AK.OU(hT:cV P T)(l:Nat){i:TI}{E0:av}{k:Nat}{bf:nL}{xs:List ai}(p:o.op=.call {callee:=.builtin .len,args:=#[x],argTypes:=jU})(C:jU[0]?=aa t)(hi:bJ T t=aa i)(z:i.desc=.slice E0)(q:bS φ x=.e (.one (.v (lK bf n))))(hl:σ[l]?=aa (.cj (gk E k bf n xs)))(y:o.guard=ae)(B:gm N o.dst=ab)(kk:AK X N Qf (.ops all rest::K) .normal (kQ o.dst (.e (.one (.c (.int .i64 n)))) φ) σ):AK X N Qf (.ops all (o::rest)::K) .normal φ σ:=by
 refine AK.hand (ι:=Unit) (λ_=>.e (.one (.c (.int .i64 n)))) (λ_=>σ) y B (λs a r hh=>?_) λ_=>kk;obtain⟨_,h2,_,A⟩:=gk.len hl s hh;have f:=dh r x;rw[q]at f;have f:=Rd.eu f;have m:=(hT t i hi).run_underlying (w:=s.w);rw[z]at m;have g:jU[0]?=aa t:=C;have h:∃a0 cap,lK bf n=.slice a0 n cap:=by
  cases bf with
  |nil a0=>rw[A a0 rfl];exact⟨a0,0,rfl⟩
  |row b cap=>exact⟨_,cap,rfl⟩
 obtain⟨a0,cap,j⟩:=h;rw[j]at f;refine⟨(),.value (.int .i64 n),s,.int .i64 n,?_,.inl rfl,Rd.int (by simp only[bE];omega),hh,.refl _ _,?_⟩
 .simp[aq,p,resolve,invoke,builtin,Builtin.len_,f,m,goInt,g]
 .have:(aq a.eval o).events P s.w #[]=#[]:=by simp[aq,p,resolve,invoke,builtin,Builtin.len_,f,m,goInt,g]
  rw[this];exact .nil
def rG:List A->Bool
 |[]=>ab
 |.c x::r=>match vP x with|true=>rG r|false=>af
 |_=>af
def nC(vs:List ai)(cs:List A):Prop:=vs.length=cs.length/\∀(j:Nat)(c:C),cs[j]?=aa (A.c c)->∃v,vs[j]?=aa v/\∀M,Rd M v c
theorem nC.of{σ:List bg}{s:St}:∀{vs:List ai}{cs:List A},rG cs=ab->er σ s vs cs->nC vs cs
 |[],[],_,_=>⟨rfl,λj c h=>by grind⟩
 |[],_::_,_,r=>r.elim
 |_::_,[],_,r=>r.elim
 |v::vs,.c x::cs,h,r=>by
  simp only[rG]at h;cases a:vP x with
  |false=>grind
  |true =>
   simp only[a]at h;obtain⟨h1,h2⟩:=nC.of h r.2;refine⟨by grind,λj c hj=>?_⟩;cases j with
   |zero=>simp at hj;subst hj;exact⟨v,rfl,λM=>qQ a r.1⟩
   |succ j=>grind
 |_::_,.ptr _ _::_,h,_=>by simp[rG]at h
 |_::_,.vec _ _ _ _::_,h,_=>by simp[rG]at h
 |_::_,.ref _::_,h,_=>by simp[rG]at h
 |_::_,.bp _ _::_,h,_=>by simp[rG]at h
 |_::_,.any::_,h,_=>by simp[rG]at h
theorem er.cO{σ:List bg}{s:St}:∀{vs:List ai}{cs:List A},er σ s vs cs->∀v∈vs,AM.cO v=ab
 |[],[],_,v,h=>by grind
 |[],_::_,r,_,_=>r.elim
 |_::_,[],r,_,_=>r.elim
 |u::vs,c::cs,r,v,h=>by
  rcases eb.1 h with rfl|h
  .exact gH.cell r.1
  .exact er.cO r.2 v h
def eg.AT(hT:cV P T)(l:Nat){k cap:Nat}{xs:List ai}{new:List A}{i:TI}(h:o.op=.store t x y)(hi:bJ T t=aa i)(hx:bS φ x=.e (.one (.v (.pointer (aa ⟨b,off,ae⟩)))))(hy:kR (bS φ y)=aa new)(OM:new.length=i.size)(U:rG new=ab)(hl:σ[l]?=aa (.cj (gk E k (.row b cap) n xs)))(VC:off+new.length<=xs.length):
  eg P N o φ σ (ι:={vs:List ai // nC vs new}) (λ_=>.any) (λvs=>σ.set l (.cj (gk E k (.row b cap) n (xs.take off++vs.1++xs.drop (off+vs.1.length))))):=by
 intro s a hf hh;have R:=dh hf x;rw[hx]at R;have R:=Rd.eu R;have B:=mf hy (dh hf y);have So:l<σ.length:=(bX.1 hl).1;have G:l<s.β.length:=by rw[hh.len];grind
 have S:=bn G;generalize s.β[l]=L at S;obtain⟨ch,hH,C,Y,XX⟩:=hh.box l _ L hl S;obtain⟨c,XZ,F,VB⟩:=gk.lookup hH;obtain⟨Z,W,hxl,K,V,_⟩:=hH;have Q:b∈L.bs:=(Y b).2 (by grind);have p:=C b _ F;let vs:=(a.eval y).cells.toList;have H:nC vs new:=nC.of U B;have Rb:vs.length=new.length:=H.1;have q:off+0+vs.length<=(xs++c).toArray.size:=by grind
 have D:=run_storeCells_at P b off E vs 0 (xs++c).toArray s.w p q B.cell;simp only[iO]at D;have z:(xs++c).take off++vs++(xs++c).drop (off+vs.length)=(xs.take off++vs++xs.drop (off+vs.length))++c:=by grind
 rw[z]at D;have acY:(xs.take off++vs++xs.drop (off+vs.length)).length=xs.length:=by grind
 have Sl:=setRow_heap s.w b (xs++c).toArray ((xs.take off++vs++xs.drop (off+vs.length))++c).toArray E (0,0) p;have I:∀f,f≠b->(s.w.setRow b ((xs.take off++vs++xs.drop (off+vs.length))++c).toArray).heap[f]?=s.w.heap[f]?:=λf m=>setRow_other s.w b f _ m;obtain⟨t1,t2⟩:=hh.jX (l:=l) (H':=gk E k (.row b cap) n (xs.take off++vs++xs.drop (off+vs.length))) (L':=L) (w':=s.w.setRow b ((xs.take off++vs++xs.drop (off+vs.length))++c).toArray) hl S rfl (by simp)
  (λf m hn=>I f (by grind)) (λf m=>.inl m)
  ⟨λf=>if f=b then aa (.cells ((xs.take off++vs++xs.drop (off+vs.length))++c).toArray E (0,0))else ae,⟨Z,λx hx=>by
   grind[er.cO],by grind,K,V,c,by grind,rfl⟩,λf o m=>by
   simp_all,λf=>by simp_all⟩ rfl rfl rfl
 have M:(a.eval y).cells.size=i.size:=by grind
 refine⟨⟨vs,H⟩,.skip,_,ah,?_,.inr ⟨rfl,rfl⟩,ak,t1,t2,?_⟩
 .have O:(storeCells ⟨b,off,ae⟩ (a.eval y).cells.toList).run P s.w=_:=D;simp[aq,h,R,Instr.storeAt,bt,storeVar,(hT t i hi).run_sizeOf,M,O]
 .intro ev g;have e:aq a.eval o=(do storeVar t ⟨b,off,ae⟩ (a.eval y);pure .skip):=by simp[aq,h,R,Instr.storeAt,bt]
  rw[e]at g;have J:ev∈(storeCells ⟨b,off,ae⟩ (a.eval y).cells.toList).events P s.w #[]:=by
   simp only[storeVar,aR,(hT t i hi).run_sizeOf,M,aV,events_sizeOf,dz,fx,cg,bT,cu,Sem.events_pure]at g;generalize(storeCells ⟨b,off,ae⟩ (a.eval y).cells.toList).run P s.w=r at g;cases r with
   |ok v w'=>simpa using g
   |halt x w'=>simpa using g
  rcases dT (a.eval y).cells.toList 0 (xs++c).toArray s.w #[] p q B.cell ev J with Om|⟨j,_,_,rfl⟩
  .grind
  .exact j7 (bP S) Q (XX b Q _)
def AK.AT{T:List (Nat×TI)}(hT:cV P T)(l:Nat){t:av}{x y:aB}{E:av}{k n b cap off:Nat}{xs:List ai}{new:List A}{i:TI}(h:o.op=.store t x y)(hi:bJ T t=aa i)(g:bS φ x=.e (.one (.v (.pointer (aa ⟨b,off,ae⟩)))))(j:kR (bS φ y)=aa new)(c:new.length=i.size)(f:rG new=ab)(hl:σ[l]?=aa (.cj (gk E k (.row b cap) n xs)))(a:off+new.length<=xs.length)(m:o.guard=ae)(p:gm N o.dst=ab)(kk:∀vs,nC vs new->AK X N Qf (.ops all rest::K) .normal (kQ o.dst .any φ) (σ.set l (.cj (gk E k (.row b cap) n (xs.take off++vs++xs.drop (off+vs.length)))))):AK X N Qf (.ops all (o::rest)::K) .normal φ σ :=
 AK.hand _ _ m p (eg.AT hT l h hi g j c f hl a) λvs=>kk vs.1 vs.2
def AK.swap(i j:Nat){H1 H2:ai->(Nat->Option Obj)->Prop}(I:i≠j)(hi:σ[i]?=aa (.cj H1))(hj:σ[j]?=aa (.cj H2))(h1:∀v ch,H1 v ch->v=.nilFunc)(h2:∀v ch,H2 v ch->v=.nilFunc)(kk:AK X N Qf (.code c::K) .normal φ ((σ.set i (.cj H2)).set j (.cj H1))):AK X N Qf (.code c::K) .normal φ σ:=by
 refine AK.ghost (λs a z hh=>?_) kk;have G:i<σ.length:=(bX.1 hi).1;have D:j<σ.length:=(bX.1 hj).1;have p:i<s.β.length:=by rw[hh.len];grind
 have t:j<s.β.length:=by rw[hh.len];grind
 obtain⟨n,w⟩:∃L,s.β[i]?=aa L:=⟨_,bn p⟩;obtain⟨o,x⟩:∃L,s.β[j]?=aa L:=⟨_,bn t⟩;have E:=hh.box i _ n hi w;have F:=hh.box j _ o hj x;have M:n.v=.nilFunc:=by obtain⟨ch,H,_⟩:=E;grind
 have O:o.v=.nilFunc:=by obtain⟨ch,H,_⟩:=F;grind
 let s':St:={s with β:=(s.β.set i o).set j n}
 have y:∀l,((σ.set i (.cj H2)).set j (.cj H1))[l]?=if l=j then aa (.cj H1)else if l=i then aa (.cj H2)else σ[l]?:=λl=>by grind
 have m:∀l,s'.β[l]?=if l=j then aa n else if l=i then aa o else s.β[l]?:=λl=>by grind
 have A:∀L∈s'.β,L∈s.β:=λL f=>by grind
 have ex:Ext σ s ((σ.set i (.cj H2)).set j (.cj H1)) s':=by
  refine⟨λ_ _ _ h=>h,λl B L hB f=>?_⟩;rw[y,m];by_cases e:l=j
  .subst e;rw[hj]at hB;cases hB;rw[x]at f;cases f;exact⟨.cj H1,n,by simp,by simp,by show n.v=_;grind⟩
  .by_cases r:l=i
   .subst r;rw[hi]at hB;cases hB;rw[w]at f;cases f;exact⟨.cj H2,o,by simp[e],by simp[e],by show o.v=_;grind⟩
   .exact⟨B,L,by grind,by grind,.refl _ _⟩
 have st:Step σ s ((σ.set i (.cj H2)).set j (.cj H1)) s':=by exact⟨bh _,λ_ _ _=>rfl,λ_ _ _ h=>h,λ_ _ _ _=>rfl,λL h b g=>.inr ⟨L,A L h,g⟩,ex.box,rfl,rfl,rfl,rfl⟩
 refine⟨s',rfl,⟨z.size,z.defers.imp λ_ h1=>h1.mono ex,λu=>(z.slot u).mono ex hh.len⟩,⟨hh.mem,by simp[s',hh.len],?_,?_,λL f b g=>hh.lt L (A L f) b g,λb g=>⟨(hh.own b g).1,λL f=>(hh.own b g).2 L (A L f)⟩⟩,st⟩
 .intro l B L hB f;rw[y]at hB;rw[m]at f;split at hB
  .rename_i e;rw[bo e]at f;cases hB;cases f;exact E
  .rename_i e;rw[aY e]at f;split at hB
   .rename_i r;rw[bo r]at f;cases hB;cases f;exact F
   .rename_i r;rw[aY r]at f;exact(hh.box l B L hB f).carry ex hh.len λb g=>⟨rfl,λ_=>rfl⟩
 .intro l l' L1 L2 q1 q2 b g C;rw[m]at q1 q2;have key:∀l L,(if l=j then aa n else if l=i then aa o else s.β[l]?)=aa L->s.β[if l=j then i else if l=i then j else l]?=aa L:=λl L q=>by grind
  have:=hh.eO _ _ L1 L2 (key l L1 q1) (key l' L2 q2) b g C;by_cases e1:l=j<;>by_cases e2:l'=j<;>by_cases e3:l=i<;>by_cases J:l'=i<;>simp_all
def AK.Ko(hT:cV P T){i:TI}{R I:IntKind}(h:o.op=.makeSlice t x y)(hi:bJ T t=aa i)(hd:i.desc=.slice E)(hE:bJ T E=aa ie)(hx:bS φ x=.e (.one (.c (.int R n))))(hy:bS φ y=.e (.one (.c (.int I n))))(B:n*ie.bytes<=140737488355328)(W:n<=140737488355328)(hg:o.guard=ae)(hN:gm N o.dst=ab)(kk:∀b xs,AK X N Qf (.ops all rest::K) .normal (kQ o.dst (.e (.one (.v (lK (.row b n) n)))) φ) (σ++[.cj (gk E ie.size (.row b n) n xs)])):AK X N Qf (.ops all (o::rest)::K) .normal φ σ:=by
 refine AK.hand (ι:=Nat×List ai) (λq=>.e (.one (.v (lK (.row q.1 n) n)))) (λq=>σ++[.cj (gk E ie.size (.row q.1 n) n q.2)]) hg hN (λs a V hh=>?_) λq=>kk q.1 q.2;have j:=dh V x;rw[hx]at j;have j:=fe j;generalize D:a.eval x=vx at j;cases j;have l:=dh V y;rw[hy]at l;have l:=fe l;generalize C:a.eval y=vy at l;cases l;have m:=(hT t i hi).UY;rw[hd]at m;obtain⟨f,z,G,z2,z3,U,Y,z6,z7⟩:=(hT E ie hE).info;have g:(f.bytes:Int)*(n:Int)<=281474976710656:=by grind
 have p:=run_make (P:=P) (w:=s.w) t E f z m G U R I n n (by omega) (sU _) g (by omega);simp only[b9]at p;let xs:=(madeCells z.cells (n*f.size)).toList;have S:xs.length=n*ie.size:=by grind[size_madeCells]
 have Z:∀v∈z.cells.toList,cO v=ab:=er.cO (lk (σ:=σ) (s:=s) Y);have XZ:z.cells.toList.length=ie.size:=by have:=dH List.length Y;grind
 have J:∀v∈xs,cO v=ab:=by intro v hv;simp only[xs,madeCells,Array.toList_map,gQ]at hv;grind[Nat.mod_lt]
 have hB:eG (σ++[.cj (gk E ie.size (.row s.w.heap.size n) n xs)]) {s with w:=s.w.alloc (.cells xs.toArray E),β:=s.β++[⟨.nilFunc,[s.w.heap.size]⟩]} (.cj (gk E ie.size (.row s.w.heap.size n) n xs)) ⟨.nilFunc,[s.w.heap.size]⟩:=by
  refine⟨λA=>if A=s.w.heap.size then aa (.cells (xs++[]).toArray E (0,0))else ae,⟨rfl,J,S,bh _,by omega,[],by grind,rfl⟩,λA o g=>?_,λA=>?_,λA g o=>?_⟩
  .by_cases e:A=s.w.heap.size
   .subst e;simp only[b6]at g;grind[dX]
   grind
  .by_cases e:A=s.w.heap.size<;>simp[e]
  .simp at g;subst g;cases O:s.M s.w.heap.size o with
   |none=>rfl
   |some v=>have:=hh.block O;omega
 have F:aE σ {s with w:=s.w.alloc (.cells xs.toArray E)}/\Step σ s σ {s with w:=s.w.alloc (.cells xs.toArray E)} :=
  hh.grow (by simp) (λb B=>cT s.w _ B) (λb B o=>rfl) (λb B o v O=>by have:=hh.block O;omega) rfl rfl rfl
 obtain⟨g1,g2⟩:=F.1.iy F.2 rfl hh hB (λb B=>by simp_all)
 refine⟨(s.w.heap.size,xs),.value (.slice (aa ⟨s.w.heap.size,0,ae⟩) n n),_,_,?_,.inl rfl,Rd.val rfl,g1,g2,?_⟩
 .simp[aq,h,D,C,p,xs]
 .have e:aq a.eval o=(do pure (.value (<-Instr.makeSlice t (.int R n) (.int I n)))):=by simp[aq,h,D,C]
  rw[e];refine eU ?_;intro e r;have hu:∀u,(underlying t).run P u=.ok (.slice E) u:=λu=>by simp[underlying,m]
  have H:∀u,(typeInfo E).run P u=.ok f u:=λu=>by simp[typeInfo,G]
  have Q:∀u,(zeroValue E).run P u=.ok z u:=λu=>by simp[zeroValue,typeInfo,G,U]
  have L:∀u,(sizeOf E).run P u=.ok f.size u:=λu=>by simp[sizeOf,typeInfo,G]
  have wl:IntKind.i64.wrap (n:Int)=n:=by grind[IntKind.wrap_i64]
  have n1:¬(n:Int)<0:=by omega
  have n2:¬(281474976710656<(f.bytes:Int)*n):=by omega
  simp[Instr.makeSlice,hu,H,L,asInt,asIntOf,wl,n1,n2]at r;rw[Q]at r;simp only[aV,(dj.newRow (P:=P)) _ _,ite_self]at r;unfold askRoom at r;split at r
  .have:e=⟨.mark .noRoom,af,ab⟩:=by simpa using r
   rw[this];exact .inl rfl
  .simp at r
end
section
variable {k d:Nat}{u:ai}
end
def vQ{xs vs:List α}{a:Nat}(h:a+vs.length<=xs.length)(p:Nat):(xs.take a++vs++xs.drop (a+vs.length))[p]?=if a<=p/\p<a+vs.length then vs[p-a]? else xs[p]?:=by
 have b:(xs.take a).length=a:=by grind
 grind
def gE.fI{k:Nat}{es':Nat->List C}{xs:List ai}{new:List A}(h:gE k n es xs)(i j:Nat)(hi:i<n)(o:nC vs new)(p:j+new.length<=k)(y:∀a,a<n->a≠i->es' a=es a)(hl:(es' i).length=k)(r:∀(q:Nat) (c:C),(es' i)[q]?=aa c->(j<=q/\q<j+new.length/\new[q-j]?=aa (A.c c))∨(¬(j<=q/\q<j+new.length)/\(es i)[q]?=aa c)):gE k n es' (xs.take (i*k+j)++vs++xs.drop (i*k+j+vs.length)):=by
 have w:i*k+k<=n*k:=by rw[<-lO];exact eP _ hi
 have v:=o.1;have t:=h.len;have f:i*k+j+vs.length<=xs.length:=by omega
 refine⟨by grind,λa b=>?_,λa b q c s=>?_⟩
 .by_cases e:a=i
  .grind
  .rw[y a b e];exact h.wid a b
 .rw[vQ f];by_cases e:a=i
  .subst e;rcases r q c s with⟨h1,h2,x⟩|⟨h1,h2⟩
   .rw[bo (by omega),show a*k+q-(a*k+j)=q-j by omega];exact o.2 _ c x
   .rw[aY (by omega)];exact h.at' a b q c h2
  .have g:(es a)[q]?=aa c:=by grind
   have z:q<k:=by rw[<-h.wid a b];grind
   rw[aY ?_]
   .exact h.at' a b q c g
   .rcases Nat.lt_or_gt_of_ne e with m|l
    .have:a*k+k<=i*k:=by rw[<-lO];exact eP _ m
     omega
    .have:i*k+k<=a*k:=by rw[<-lO];exact eP _ l
     omega
def gE.snoc{k:Nat}{es':Nat->List C}{xs:List ai}(h:gE k n es xs)(l:∀i,i<n->es' i=es i)(hl:(es' n).length=k)(g:vs.length=k)(o:∀(q:Nat)(c:C),(es' n)[q]?=aa c->∃v,vs[q]?=aa v/\∀M,Rd M v c):gE k (n+1) es' (xs++vs):=by
 have f:=h.len;refine⟨by grind,λi hi=>?_,λi hi q c m=>?_⟩
 .by_cases e:i=n
  .grind
  .rw[l i (by omega)];exact h.wid i (by omega)
 .by_cases e:i=n
  .grind
  .have a:i<n:=by omega
   have b:(es i)[q]?=aa c:=by grind
   have j:q<k:=by rw[<-h.wid i a];grind
   have:i*k+k<=n*k:=by rw[<-lO];exact eP _ a
   rw[jH (by omega)];exact h.at' i a q c b
def AZ(T:List (Nat×TI))(φ:Fr):List ResultVar->Option (List D)
 |[]=>aa []
 |.tmp t::r=>match AZ T φ r with
  |some q=>aa (look φ t::q)
  |none=>ae
 |.cell ad t::r=>match AZ T φ r with
  |some q=>match look φ ad with
   |.e (.one (.c (.rp cs)))=>match bJ T t with
    |some i=>match lq i (cs.map A.c)with
     |some e=>aa (.e e::q)
     |none=>ae
    |none=>ae
   |_=>ae
  |none=>ae
def A0{P:aJ}{T:List (Nat×TI)}(hT:cV P T){N:Nat}{σ:List bg}{s:St}{φ:Fr}{a:Act}(f:cx N σ s φ a):∀{rs:List ResultVar}{ds:List D},AZ T φ rs=aa ds ->
  ∃vs,cp σ s vs ds/\∀w,(∀b o u,s.M b o=aa u->w.cell? ⟨b,o,ae⟩=aa u)->(rs.mapM (gz a)).run P w=Result.ok vs w/\∀es,∀e∈(rs.mapM (gz a)).events P w es,e∈es∨∃b o u,e=⟨.cell ⟨b,o,ae⟩,af,af⟩/\s.M b o=aa u
 |[],ds,h=>by cases h;exact⟨[],ak,λw _=>⟨by simp,λes e l=>.inl (by simpa using l)⟩⟩
 |.tmp t::r,ds,h=>by
  simp only[AZ]at h;cases K:AZ T φ r with
  |none=>grind
  |some q =>
   simp[K]at h;subst h;obtain⟨vs,h1,Y⟩:=A0 hT f K;refine⟨a.tmps.getD t ah::vs,⟨f.slot t,h1⟩,λw p=>?_⟩;obtain⟨k1,O⟩:=Y w p;refine⟨by simp only[l6,bT,gz,dE,cu,k1],λes e l=>O es e ?_⟩;simpa[l6,gz,k1]using l
 |.cell ad t::r,ds,h=>by
  simp only[AZ]at h;cases K:AZ T φ r with
  |none=>grind
  |some q =>
   simp only[K]at h;have hs:=f.slot ad;generalize look φ ad=x at h hs;split at h
   case h_2=>cases h
   rename_i cs;cases hi:bJ T t with
   |none=>grind
   |some i =>
    simp only[hi]at h;cases k:lq i (cs.map A.c)with
    |none=>grind
    |some e0 =>
     simp[k]at h;subst h;obtain⟨vs,h1,Y⟩:=A0 hT f K;have H:=fe hs;generalize V:a.tmps.getD ad ah=vx at H;cases H;rename_i b off g S Oo;let y:=(bc cs.length).map g;have G:er σ s y (cs.map A.c):=by
      have key:∀(n:Nat) (ds:List C),(∀j c,ds[j]?=aa c->Rd s.M (g (n+j)) c)->er σ s ((bc ds.length).map λj=>g (n+j)) (ds.map A.c):=by
       intro n ds;induction ds generalizing n with
       |nil=>intro _;trivial
       |cons d ds ih =>
        intro hd;rw[fb,we];refine⟨hd 0 d rfl,?_⟩;have:=ih (n+1) (λj c m=>by have:=hd (j+1) c (by grind);grind);grind[Function.comp_def]
      have:=key 0 cs (by grind);grind
     have L:∀(j:Nat) (v:ai),y[j]?=aa v->s.M b (off+j)=aa v:=λj v m=>by
      simp only[y,nA]at m;by_cases J:j<cs.length
      .simp[J]at m;subst m;exact S j cs[j] (bn J)
      grind
     let w0:ay:={s.w with heap:=s.w.heap}
     have F:∃v,ow σ s v e0/\∀w,(∀b o u,s.M b o=aa u->w.cell? ⟨b,o,ae⟩=aa u)->(loadVar t ⟨b,off,ae⟩).run P w=.ok v w:=by
      have Q:=hT t i hi;cases Z:i.agg<;>simp only[lq,Z]at k
      .cases I:dF 0 (cs.map A.c)with
       |none=>grind
       |some a0 =>
        simp[I]at k;subst k;obtain⟨v,hv,W⟩:=G.get (b7 I);refine⟨v,W,λw p=>?_⟩;have:=p _ _ _ (L 0 v hv);simp only[loadVar,bT,Q.kP,cu,Z];grind[run_load]
      .cases I:po i.size (cs.map A.c)with
       |none=>grind
       |some r0 =>
        simp[I]at k;subst k;obtain⟨q1,q2⟩:=nV I;have B:=G.take i.size;rw[<-q1]at B;have hl:(y.take i.size).length=i.size:=by grind
        refine⟨.agg (y.take i.size).toArray,⟨y.take i.size,rfl,B⟩,λw p=>?_⟩
        have z:=run_loadCells_list (P:=P) w ⟨b,off,ae⟩ (y.take i.size) (λj v m=>by grind[dw])
        rw[hl]at z;simp only[loadVar,bT,Q.kP,cu,Z];simp[Q.run_sizeOf,z]
     obtain⟨v,U,R⟩:=F;refine⟨v::vs,⟨U,h1⟩,λw p=>?_⟩;obtain⟨k1,O⟩:=Y w p;have E:(gz a (.cell ad t))=loadVar t ⟨b,off,ae⟩:=by simp[gz,V,asAddr]
     refine⟨by grind[Go.Sem.run_bind,Go.Sem.run_pure,Go.Result.andThen_ok],λes e l=>?_⟩;rw[l6,E]at l;simp only[aR,R w p,aV,k1,Sem.events_pure]at l;rcases O _ e l with l|l
     .rcases EZ l with l|l
      .grind
      .obtain⟨j,m,rfl⟩:=gy (hT t i hi) (w:=w) (n:=cs.length) (λj m=>⟨g j,p _ _ _ (S j cs[j] (bn m))⟩) (by have:=lu k;grind) e l;exact .inr ⟨b,off+j,g j,rfl,S j cs[j] (bn m)⟩
     grind
theorem AY.VF(hT:cV P T){fn:Func}{ds:List D}{d:D}(h:AZ T φ fn.results.toList=aa ds)(hj:ta ds=aa d):AY P fn φ d:=by
 intro N σ s a f;obtain⟨vs,h1,h2⟩:=A0 hT f h;refine⟨_,CR hj h1,λw j=>?_⟩;obtain⟨k1,i⟩:=h2 w j;have e1:(fn.results.mapM (gz a)).run P w=Result.ok vs.toArray w:=by grind[Array.mapM_eq_mapM_toList,Sem.run_map,Go.Result.andThen_ok]
 have e2:∀es,∀e∈(fn.results.mapM (gz a)).events P w es,e∈es∨∃b o u,e=⟨.cell ⟨b,o,ae⟩,af,af⟩/\s.M b o=aa u:=by rw[rR];intro es e c;exact i es e (by simpa using c)
 constructor
 .unfold results;rw[bT];refine(dH (λr=>Result.andThen r _) (Eq.trans ?_ e1)).trans ?_
  .congr 2
  .simp
 .intro e c;have g:e∈(fn.results.mapM (gz a)).events P w #[]:=by unfold results at c;rw[aR]at c;change e∈((fn.results.mapM (gz a)).run P w).evThen ((fn.results.mapM (gz a)).events P w #[]) _ at c;rw[e1]at c;simpa using c
  grind
section
variable {X:Cx P}
def Iz(T:List (Nat×TI))(rs:List ResultVar)(ks:List Nat)(φ:Fr)(res:D):Option (List Prop) :=
 match AZ T φ rs with
 |some ds=>match ta ds with
  |some d=>match w7 ks.length res with
   |true=>ET d (iE ks res)
   |false=>ae
  |none=>ae
 |none=>ae
def AK.SB(hT:cV P T){fn:Func}{a:Nat}{res:D}(ks:List Nat)(h:Iz T fn.results.toList ks φ res=aa ps)(e:au ps)(d:kh ks σ=aa σ')(b:kS σ'=ab)(c:dK ks=ab)(hk:∀j,j<a->ks[j]?=aa j):
  AK X N (rZ P fn a res σ') (.code .ret::K) .normal φ σ:=by refine AK.ret ⟨.inl rfl,ks,?_⟩;unfold Iz at h;grind[AY.VF]
def Ev.tc{f:aH}{fn:Func}{args:List D}{res:D}(d:P.funcs[f]?=aa fn)(a:(fn.name== "runtime.NumGoroutine")=af)(e:fn.body=aa c)(b:bD args.length fn.ntmps=ab)(h:Fits args σ->AK X fn.ntmps (rZ P fn σ.length res σ') [.code c] .normal (js 0 args) σ):Ev X f args σ res σ':=by refine⟨⟨fn,d,a,by grind⟩,λs vs hr hh=>?_⟩;have:=ek.Kr (X:=X) (ι:=Unit) (σ':=λ_=>σ') (res:=λ_=>res) d a e (dr b) (AW.mono (AK.of_code (h ⟨s,vs,hr,hh⟩)) λ_ _ _ q=>⟨(),q⟩);exact this.E9.2 s vs hr hh
def cz.mk{fn:Func}{a:Nat}{res:D}(ks:List Nat)(h:A1 fn.results.toList ks φ res=aa ps)(e:au ps)(d:kh ks σ=aa σ')(b:kS σ'=ab)(c:dK ks=ab)(hk:∀j,j<a->ks[j]?=aa j):cz fn a res σ' .ret φ σ:=by refine⟨.inl rfl,ks,?_⟩;unfold A1 at h;grind
end
def HC{α:Type}{l:Nat}{x:α}:∀{ks:List Nat}{a r:List α},kh ks a=aa r->l∉ks->kh ks (a.set l x)=aa r
 |[],a,r,h,_=>h
 |k::ks,a,r,h,c=>by
  simp only[eb,not_or]at c;simp only[kh,fE]at h⊢;rw[kL c.1];cases hk:a[k]? with
  |none=>simp[hk]at h
  |some y =>
   simp only[hk]at h⊢;cases b:kh ks a with
   |none=>simp[b]at h
   |some q=>rw[HC b c.2];simp only[b]at h;exact h
def Dj{k:Nat}{l:List Nat}(h:iF k l=af):k∉l:=λhk=>by rw[wz hk]at h;cases h
def oR:Option (Tmp×E1)->List ResultVar
 |none=>[]
 |some q=>[.tmp q.1]
def oD(cs:List A):Option (Tmp×E1)->D
 |none=>.e (.agg cs)
 |some q=>.fD [.agg cs,q.2]
def Lw(T:List (Nat×TI))(fn:Func)(a:Nat)(res:D)(σ':List bg):Post:=λe φ σ1 =>
 (e=.ret∨e=.normal)/\∃ks l E cs t ty it ps,∃o:Option (Tmp×E1),(∀q,o=aa q->look φ q.1=.e q.2)/\fn.results.toList=.cell t ty::oR o/\bJ T ty=aa it/\it.agg=ab/\cs.length=it.size/\look φ t=.e (.one (.ptr l 0))/\σ1[l]?=aa (.cells E cs)/\l∉ks /\
  ET (oD cs o) (iE ks res)=aa ps/\au ps/\w7 ks.length res=ab/\kh ks σ1=aa σ'/\kS σ'=ab/\dK ks=ab/\(∀j,j<a->ks[j]?=aa j)
def ek.Tq{X:Cx P}(hT:cV P T){f:aH}{fn:Func}{args:List D}{σ':ι->List bg}(hf:P.funcs[f]?=aa fn)(Tf:(fn.name== "runtime.NumGoroutine")=af)(p:fn.body=aa c)(hlen:args.length<=fn.ntmps)(h:∀s a,cx fn.ntmps σ s (js 0 args) a->aE σ s->∀(b:aX) (k:List Item) (cs:List aX) (S:ar->St->Prop),b.kind≠.early->b.roundOf=ae ->
  (∀e φ' σ1 s' a',(∃j,Lw T fn σ.length (res j) (σ' j) e φ' σ1)->cx fn.ntmps σ1 s' φ' a'->aE σ1 s'->c6 σ s σ1 s'->ends X S b k cs e a' s')->fL X S (G (b.aT a (.code c::k)) cs) s):ek X f args σ res σ':=by
 refine⟨⟨fn,hf,Tf,by rw[p];rfl⟩,λs vs hr hh S cs hS=>?_⟩;obtain⟨hl,hg⟩:=cp.get hr;let b:aX:={fn:=f,tmps:=#[],todo:=[],defers:=[],mode:=.run,kind:=.normal,roundOf:=ae}
 have J:Frame.enter P f vs.toArray .normal=b.aT {tmps:=vs.toArray++Array.replicate (fn.ntmps-vs.toArray.size) ah,defers:=[]} [.code c]:=by simp[Frame.enter,Frame.aT,hf,p,b]
 rw[J];refine h s {tmps:=vs.toArray++Array.replicate (fn.ntmps-vs.toArray.size) ah,defers:=[]} ⟨by simp;omega,⟨[],ak⟩,λt=>?_⟩ hh b [] cs S (by simp[b]) rfl ?_
 .rw[oP];simp only[jc,b6,l7];have:=hg t;rcases cN t vs.length with ug|U2
  .have e:(vs.toArray++Array.replicate (fn.ntmps-vs.toArray.size) ah).getD t ah=(vs[t]?).getD ah:=by simp only[ef];grind
   rw[e];exact this
  .rw[rV (by omega)];trivial
 .rintro e φ' σ0 s0 a1 ⟨jj,he,ks,l,E,rcs,t,ty,it,ps,o,q0,q1,q2,q3,q4,q5,q6,q7,h3,h4,h5,h6',h7',h8,h9⟩ f0 h0 Zb;obtain⟨h7,h7n⟩:=zC h7';have F:=f0.slot t;rw[q5]at F;obtain⟨_,L,bb,r,Yj,W⟩:=F;obtain⟨b2,d,VL,Q,hrv,hM⟩:=h0.box l _ L q6 r;subst VL;cases Yj;let M':Mem:=λm o=>if m=bb then d[o]? else s0.M m o;have abA:∀o v,d[o]?=aa v->s0.w.cell? ⟨bb,o,ae⟩=aa v:=λo v ho=>by simpa[aP,Q]using ho
  have Vq:∀m o v,s0.M m o=aa v->M' m o=aa v:=λm o v hv=>by grind
  have hcM:∀m o v,M' m o=aa v->s0.w.cell? ⟨m,o,ae⟩=aa v:=λm o v hv=>by
   by_cases e:m=bb
   .grind
   .simp only[M',e,cg]at hv;exact h0.mem m o v hv
  obtain⟨h',I⟩:=h0.gT (M':=M') (w':=s0.w) (B':=.dead) (L':=⟨.pointer (aa ⟨bb,0,ae⟩),[]⟩) q6 r rfl (bh _) (λ_ _ _=>rfl) (λm _ O o=>by grind) Vq hcM (by simp) rfl rfl rfl ak
  have Yg:eH s0 ⟨s0.β.set l ⟨.pointer (aa ⟨bb,0,ae⟩),[]⟩,M',s0.w,s0.own⟩:=⟨rfl,Vq,λm O o=>by
   have:m≠bb:=by rintro rfl;exact O _ (bP r) (by simp)
   simp only[M',this,cg],hcM,λm O=>by grind⟩
  have f':cx fn.ntmps (σ0.set l .dead) ⟨s0.β.set l ⟨.pointer (aa ⟨bb,0,ae⟩),[]⟩,M',s0.w,s0.own⟩ φ' a1:=⟨f0.size,f0.defers.imp λ_ h1=>h1.mono I.ext,λu=>(f0.slot u).mono I.ext h0.len⟩
  have h6:=HC (x:=bg.dead) h6' q7;have ZG:er (σ0.set l .dead) ⟨s0.β.set l ⟨.pointer (aa ⟨bb,0,ae⟩),[]⟩,M',s0.w,s0.own⟩ d rcs:=hrv.mono I.ext h0.len;have st:=Zb.trans (I.nN h0);let V:ai:=match o with|none=>.agg d.toArray|some q=>.tuple #[.agg d.toArray,a1.tmps.getD q.1 ah]
  have N:∀w,(∀b o u,M' b o=aa u->w.cell? ⟨b,o,ae⟩=aa u)->(results fn a1.tmps).run P w=.ok V w/\∀e∈(results fn a1.tmps).events P w #[],∃b o u,e=⟨.cell ⟨b,o,ae⟩,af,af⟩/\M' b o=aa u:=by
   intro w hw;have U:=hT ty it q2;have hrl:d.length=it.size:=by rw[hrv.length,q4]
   have Y:∀j v,d[j]?=aa v->w.cell? ⟨bb,0+j,ae⟩=aa v:=λj v hj=>hw _ _ _ (by grind);have X5:=run_loadCells_list (P:=P) w ⟨bb,0,ae⟩ d (λj v hj=>by rw[dw];exact Y j v hj);rw[hrl]at X5;have Iu:(loadVar ty ⟨bb,0,ae⟩).run P w=.ok (.agg d.toArray) w:=by simp only[loadVar,bT,U.kP,cu,q3];simp[U.run_sizeOf,X5]
   have hra:fn.results=(ResultVar.cell t ty::oR o).toArray:=by apply Array.ext';simpa using q1
   have K:asAddr (a1.tmps[t]?.getD ah)=(pure ⟨bb,0,ae⟩:Sem Addr):=by rw[<-ef,W];rfl
   refine⟨by cases o<;>simp[results,hra,K,Iu,V,oR],λe he=>?_⟩;have Su:e∈(loadVar ty ⟨bb,0,ae⟩).events P w #[]:=by cases o<;>simpa[results,hra,K,Iu,oR]using he
   obtain⟨j,hj,rfl⟩:=gy U (w:=w) (n:=d.length) (λj hj=>⟨_,Y j d[j] (bn hj)⟩) (by rw[q3,hrl];simp) e Su;exact⟨bb,0+j,d[j],rfl,by grind⟩
  have fin:∀(fr:aX) s2,cw (⟨s0.β.set l ⟨.pointer (aa ⟨bb,0,ae⟩),[]⟩,M',s0.w,s0.own⟩:St) s2->fr.fn=f->fr.tmps=a1.tmps->fr.defers=a1.defers->fr.mode=.returning->fr.kind=.normal->fL X S (G fr cs) s2:=by
   intro fr s2 ua e1 e2 e3 e4 e5;have f2:=f'.rely ua h';have A:=h'.rely ua;have g:=st.trans ua.stepW;have r2:du (σ0.set l .dead) s2 V (oD rcs o):=by
    have hr3:=ZG.mono ua.stepW.ext h'.len;cases o with
    |none=>exact⟨d,rfl,hr3⟩
    |some q =>
     have hx:=f2.slot q.1;rw[q0 q rfl]at hx;exact⟨[.agg d.toArray,a1.tmps.getD q.1 ah],rfl,⟨d,rfl,hr3⟩,hx,ak⟩
   obtain⟨i,H⟩:=wZ (l':=s2.β) h6 A.len;have r4:=(oQ h3 h4 r2).sub h6 H h5;obtain⟨c1,c2⟩:=je h6;obtain⟨d1,d2⟩:=je H;have R:∀L∈i,L∈s2.β:=AX H;have U6:aE (σ' jj) {s2 with β:=i}:=by obtain⟨g1,_⟩:=A.sub h6 H h7 h8;refine⟨g1.mem,g1.len,λj B L hB r=>?_,g1.eO,g1.lt,λb p=>⟨(A.own b p).1,λL r=>(A.own b p).2 L (R L r)⟩⟩;exact eG.plain (σ:=σ' jj) (s:={s2 with β:=i,own:=w9 s2 i}) (s':={s2 with β:=i}) rfl rfl (ll h7 B (bP hB)) (g1.box j B L hB r)
   have Tp:c6 σ s (σ' jj) {s2 with β:=i}:=by refine⟨g.size,g.fA,g.mem,g.jo,λL r b p=>g.wu _ (R L r) b p,λl B L hB r=>?_,g.os,g.tape,g.output,g.own⟩;have hl:l<σ.length:=(bX.1 hB).1;obtain⟨B',L',p1,p2,p3⟩:=g.box l B L hB r;grind
   obtain⟨ls,Tb⟩:=f2.defers;refine r9 ls fr s2 _ A.l9 (by grind) e4 (by rw[e3];exact Tb.taken A) λs3 z=>?_;have C:cw {s2 with β:=i} {s3 with β:=i}:=by
    refine⟨rfl,z.M,z.own,z.size,λb p=>z.fA b (p.imp id ?_),z.mem,z.os,z.tape,z.output⟩;rintro⟨L,r,p⟩;obtain⟨j,hj,rfl⟩:=dD r;have Z:j<ks.length:=by rw[<-d1];exact hj
    obtain⟨y,y1,y2⟩:=d2 j _ (bn Z);obtain⟨x,x1,x2⟩:=c2 j _ (bn Z);rw[bn hj]at y1;cases y1;refine⟨_,_,y2,λhc=>?_,p⟩;rw[Tb.Da _ hc]at x2;cases x2;exact nW h7n _ (bP x1) rfl
   have hG:eH s3 {s3 with β:=i}:=⟨rfl,λ_ _ _ h=>h,λ_ _ _=>rfl,λb o v hv=>z.mem b o v (by rw[<-z.M];exact hv),λb p=>p.imp id λ⟨L,r,p⟩=>⟨L,by rw[z.β];exact R L r,p⟩⟩
   have ZH:s2.M=M':=ua.M;refine .ghost hG (hS jj _ V _ ⟨e1,e4,rfl,e5,fn,by grind,λw hw=>?_⟩ (r4.mono C.stepW.ext U6.len) (U6.rely C) (Tp.trans C.stepW));show(results fn fr.tmps).run P w=_/\∀e∈(results fn fr.tmps).events P w #[],_;rw[e2];have hw':∀b o u,M' b o=aa u->w.cell? ⟨b,o,ae⟩=aa u:=λb o u h=>hw b o u (by show s3.M b o=aa u;rw[z.M,ZH];exact h);refine⟨(N w hw').1,λe he=>?_⟩;obtain⟨b,o,u,q1,q2⟩:=(N w hw').2 e he;exact⟨b,o,u,q1,by show s3.M b o=aa u;rw[z.M,ZH];exact q2⟩
  rcases he with rfl|rfl
  .intro pre;exact .ghost Yg (.ctl h' rfl (λ_=>E3 rfl) λs2 ua=>fin _ s2 ua rfl rfl (iw _) rfl rfl)
  .exact .ghost Yg (.ctl h' rfl (λ_=>E4 rfl) λs2 ua=>fin _ s2 ua rfl rfl (iw _) rfl rfl)
def ek.tc{X:Cx P}(hT:cV P T){f:aH}{fn:Func}{args:List D}{σ':ι->List bg}(i:P.funcs[f]?=aa fn)(d:(fn.name== "runtime.NumGoroutine")=af)(l:fn.body=aa c)(g:bD args.length fn.ntmps=ab)(h:Fits args σ->AK X fn.ntmps (λe φ σ1=>∃j,Lw T fn σ.length (res j) (σ' j) e φ σ1) [.code c] .normal (js 0 args) σ):ek X f args σ res σ':=by refine⟨⟨fn,i,d,by rw[l];rfl⟩,λs0 vs hr Om=>?_⟩;have:=ek.Tq (X:=X) (σ':=σ') (res:=res) hT i d l (dr g) λs a f hh b k cs S hk _ m=>(show AW X fn.ntmps c _ (js 0 args) σ from AK.of_code (h ⟨s0,vs,hr,Om⟩)) s a f hh b k cs S hk m;exact this.2 s0 vs hr Om
def er.set{σ:List bg}{s:St}{a:A}{v:ai}:∀{vs:List ai}{cs:List A}{j:Nat},er σ s vs cs->vs[j]?=aa v->gH σ s v a->er σ s vs (cs.set j a)
 |[],[],_,_,h,_=>by grind
 |[],_::_,_,h,_,_=>h.elim
 |_::_,[],_,h,_,_=>h.elim
 |u::vs,c::cs,0,h,d,b=>by simp at d;subst d;exact⟨b,h.2⟩
 |u::vs,c::cs,j+1,h,d,b=>⟨h.1,er.set h.2 (by grind) b⟩
section
variable {X:Cx P}
def AK.iq(l j:Nat)(E k:Nat)(es':Nat->List C){E0:av}{cs:List A}{k':Nat}{x:Nat->List C}(hl:dF l σ=aa (.cells E0 cs))(hj:dF j cs=aa (.c (.sl ab k' 0 x)))(kk:AK X N Qf (.code c::K) .normal φ ((σ++[bg.vec E k 0 es']).set l (.cells E0 (cs.set j (.vec σ.length k 0 es'))))):AK X N Qf (.code c::K) .normal φ σ:=by
 refine AK.ghost (λs a p hh=>?_) kk;have hB:=b7 hl;have R:=b7 hj;have G:l<σ.length:=(bX.1 hB).1;have f:l<s.β.length:=by rw[hh.len];grind
 have D:=bn f;generalize s.β[l]=L at D;obtain⟨b,vs,r,d,g,O⟩:=hh.box l _ L hB D;obtain⟨v,T,S⟩:=g.get R;have h1:Rd s.M v (.sl ab k 0 es'):=(Rd.wo (k:=k') (k':=k) (.inr rfl) S).EX λi hi=>by omega
 have z:eG (σ++[bg.vec E k 0 es']) {s with β:=s.β++[⟨v,[]⟩]} (.vec E k 0 es') ⟨v,[]⟩:=⟨h1.loose,.inl ⟨⟨rfl,rfl⟩,h1⟩⟩;obtain⟨H,I⟩:=hh.iy (.refl _ _) rfl hh z (by simp)
 have t:(σ++[bg.vec E k 0 es'])[l]?=aa (.cells E0 cs):=by grind
 have q:(s.β++[(⟨v,[]⟩:Loc)])[l]?=aa L:=by grind
 have n:(s.β++[(⟨v,[]⟩:Loc)]).set l L=s.β++[⟨v,[]⟩]:=by apply ji;grind
 have y:gR (.cells E0 cs) L (.cells E0 (cs.set j (.vec σ.length k 0 es'))) L:=rfl;have J:σ.length≠l:=by omega
 have m:eG ((σ++[bg.vec E k 0 es']).set l (.cells E0 (cs.set j (.vec σ.length k 0 es')))) ⟨(s.β++[(⟨v,[]⟩:Loc)]).set l L,s.M,s.w,s.own⟩ (.cells E0 (cs.set j (.vec σ.length k 0 es'))) L:=by
  rw[n];refine⟨b,vs,r,d,?_,O⟩;have ex:Ext (σ++[bg.vec E k 0 es']) {s with β:=s.β++[⟨v,[]⟩]} ((σ++[bg.vec E k 0 es']).set l (.cells E0 (cs.set j (.vec σ.length k 0 es')))) {s with β:=s.β++[⟨v,[]⟩]}:=by
   refine⟨λ_ _ _ h=>h,λi B L' kG fC=>?_⟩;by_cases e:l=i
   .grind
   .exact⟨B,L',by grind,fC,.refl _ _⟩
  have o:er (σ++[bg.vec E k 0 es']) {s with β:=s.β++[⟨v,[]⟩]} vs cs:=g.mono I.ext hh.len;refine er.set (o.mono ex H.len) T ?_;refine⟨h1.loose,by simp,λE2 k2 n2 AL h=>?_⟩;rw[kL (by omega),gp (by omega),Nat.sub_self]at h;cases h;refine⟨bh _,λ_=>⟨⟨v,[]⟩,?_,rfl⟩⟩;simp[<-hh.len]
 obtain⟨Q,q2⟩:=H.gT (M':=s.M) (w':=s.w) (L':=L) t q y (bh _) (λ_ _ _=>rfl) (λ_ _ _ _=>rfl) (λ_ _ _ h=>h) hh.mem (λb F=>⟨.inl F,hh.lt L (bP D) b F⟩) rfl rfl rfl m;have st:=I.trans q2;exact⟨⟨(s.β++[(⟨v,[]⟩:Loc)]).set l L,s.M,s.w,s.own⟩,rfl,⟨p.size,p.defers.imp λ_ h1=>h1.mono st.ext,λu=>(p.slot u).mono st.ext hh.len⟩,Q,st⟩
end
section
variable {X:Cx P}
def AK.Wo(t:Nat)(E k:Nat)(es':Nat->List C){k':Nat}{d:Nat->List C}(j:look φ t=.e (.one (.c (.sl ab k' 0 d))))(kk:AK X N Qf (.code c::K) .normal ((t,.e (.one (.bp σ.length (.sl 0 k 0 0))))::φ) (σ++[.buf E k 0 es'])):AK X N Qf (.code c::K) .normal φ σ:=by
 refine AK.ghost (λs a b hh=>?_) kk;have g:=b.slot t;rw[j]at g;obtain⟨i,f⟩:=hh.iy (B:=.buf E k 0 es') (L:=⟨.slice ae 0 0,[]⟩) (.refl _ _) rfl hh (.inl ⟨rfl,rfl⟩) (by simp);refine⟨{s with β:=s.β++[⟨.slice ae 0 0,[]⟩]},rfl,⟨b.size,b.defers.imp λ_ h1=>h1.mono f.ext,λu=>?_⟩,i,f⟩;simp only[look];cases h:aw t u with
 |false=>exact(b.slot u).mono f.ext hh.len
 |true =>
  have e:=bY h;subst e;exact wq (E:=E) (es:=es') (fe g) (by simp) (by simp[<-hh.len])
def AK.tE(l j:Nat)(E k:Nat)(es':Nat->List C){E0:av}{cs:List A}{k':Nat}{y:Nat->List C}(hl:dF l σ=aa (.cells E0 cs))(hj:dF j cs=aa (.c (.sl ab k' 0 y)))(kk:AK X N Qf (.code c::K) .normal φ ((σ++[bg.buf E k 0 es']).set l (.cells E0 (cs.set j (.bp σ.length (.sl 0 k 0 0)))))):AK X N Qf (.code c::K) .normal φ σ:=by
 refine AK.ghost (λs a q hh=>?_) kk;have hB:=b7 hl;have S:=b7 hj;have H:l<σ.length:=(bX.1 hB).1;have g:l<s.β.length:=by rw[hh.len];grind
 have F:=bn g;generalize s.β[l]=L at F;obtain⟨b,vs,t,f,m,O⟩:=hh.box l _ L hB F;obtain⟨v,U,T⟩:=m.get S;let d:Loc:=⟨.slice ae 0 0,[]⟩
 obtain⟨I,J⟩:=hh.iy (B:=.buf E k 0 es') (L:=d) (.refl _ _) rfl hh (.inl ⟨rfl,rfl⟩) (by grind);have x:(σ++[bg.buf E k 0 es'])[l]?=aa (.cells E0 cs):=by grind
 have r:(s.β++[d])[l]?=aa L:=by grind
 have o:(s.β++[d]).set l L=s.β++[d]:=by apply ji;grind
 have z:gR (.cells E0 cs) L (.cells E0 (cs.set j (.bp σ.length (.sl 0 k 0 0)))) L:=rfl;have n:eG ((σ++[bg.buf E k 0 es']).set l (.cells E0 (cs.set j (.bp σ.length (.sl 0 k 0 0))))) ⟨(s.β++[d]).set l L,s.M,s.w,s.own⟩ (.cells E0 (cs.set j (.bp σ.length (.sl 0 k 0 0)))) L:=by
  rw[o];refine⟨b,vs,t,f,?_,O⟩;have ex:Ext (σ++[bg.buf E k 0 es']) {s with β:=s.β++[d]} ((σ++[bg.buf E k 0 es']).set l (.cells E0 (cs.set j (.bp σ.length (.sl 0 k 0 0))))) {s with β:=s.β++[d]}:=by
   refine⟨λ_ _ _ h=>h,λi B L R D=>?_⟩;by_cases e:l=i
   .grind
   .exact⟨B,L,by grind,D,.refl _ _⟩
  have p:er (σ++[bg.buf E k 0 es']) {s with β:=s.β++[d]} vs cs:=m.mono J.ext hh.len;exact er.set (p.mono ex I.len) U (wq (E:=E) (es:=es') T (by grind) (by simp[<-hh.len,d]))
 obtain⟨Q,q2⟩:=I.gT (M':=s.M) (w':=s.w) (L':=L) x r z (bh _) (λ_ _ _=>rfl) (λ_ _ _ _=>rfl) (λ_ _ _ h=>h) hh.mem (λb G=>⟨.inl G,hh.lt L (bP F) b G⟩) rfl rfl rfl n;have st:=J.trans q2;exact⟨⟨(s.β++[d]).set l L,s.M,s.w,s.own⟩,rfl,⟨q.size,q.defers.imp λ_ h1=>h1.mono st.ext,λu=>(q.slot u).mono st.ext hh.len⟩,Q,st⟩
end
def r6:Nat->(Nat->List C)->Nat->List C
 |0,es=>es
 |o+1,es=>my (o+1) es
def wB(o:Nat)(es:Nat->List C)(i:Nat):r6 o es i=es (o+i):=by cases o<;>simp[r6,my]
def Bx(l k n:Nat)(es:Nat->List C)(a:A):Option (A×List Prop):=match Iy l a with
 |true=>aa (a,[])
 |false=>match a with
  |.bp l' (.sl g k' o m)=>match aw l' l,aw k' k with
   |true,ab=>aa (.c (.sl af k m (r6 o es)),[g=n,o+m<=n])
   |_,_=>ae
  |_=>ae
def By(l k n:Nat)(es:Nat->List C):List A->Option (List A×List Prop)
 |[]=>aa ([],[])
 |a::r=>match Bx l k n es a with
  |some (a',p)=>match By l k n es r with
   |some (r',q)=>aa (a'::r',lp p q)
   |none=>ae
  |none=>ae
def xZ(l k n:Nat)(es:Nat->List C):E1->Option (E1×List Prop)
 |.one a=>match Bx l k n es a with|some (a,p)=>aa (.one a,p)|none=>ae
 |.agg cs=>match By l k n es cs with|some (cs,p)=>aa (.agg cs,p)|none=>ae
def wK(l k n:Nat)(es:Nat->List C):List E1->Option (List E1×List Prop)
 |[]=>aa ([],[])
 |a::r=>match xZ l k n es a with
  |some (a',p)=>match wK l k n es r with
   |some (r',q)=>aa (a'::r',lp p q)
   |none=>ae
  |none=>ae
def x0(l k n:Nat)(es:Nat->List C):D->Option (D×List Prop)
 |.e x=>match xZ l k n es x with|some (x,p)=>aa (.e x,p)|none=>ae
 |.fD xs=>match wK l k n es xs with|some (xs,p)=>aa (.fD xs,p)|none=>ae
 |.any=>aa (.any,[])
section
variable {σ1:List bg}{s2:St}{E k:Nat}
structure mG(σ1:List bg)(E k n:Nat)(es:Nat->List C)(s s2:St):Prop where
 fA:∀v a,gH (σ1++[.buf E k n es]) s v a->Iy σ1.length a=ab->gH σ1 s2 v a
 Kt:∀v k' o m,gH (σ1++[.buf E k n es]) s v (.bp σ1.length (.sl n k' o m))->k'=k->o+m<=n->Rd s2.M v (.sl af k m (r6 o es))
def mG.a(h:mG σ1 E k n es s s2){v:ai}{a a':A}{ps:List Prop}(b:Bx σ1.length k n es a=aa (a',ps))(d:au ps)(r:gH (σ1++[.buf E k n es]) s v a):gH σ1 s2 v a':=by
 unfold Bx at b;split at b
 .rename_i c;cases b;exact h.fA v a r c
 .split at b
  .rename_i l' g k' o m _;split at b
   .rename_i e1 e2;cases b;have e1:=bY e1;have e2:=bY e2;subst e1 e2;obtain⟨rfl,h2⟩:g=n/\o+m<=n:=d;exact h.Kt v _ _ _ r rfl h2
   grind
  grind
def mG.cl(h:mG σ1 E k n es s s2):∀{vs:List ai}{cs nO:List A}{ps:List Prop},By σ1.length k n es cs=aa (nO,ps)->au ps->er (σ1++[.buf E k n es]) s vs cs->er σ1 s2 vs nO
 |[],[],_,_,b,_,_=>by cases b;trivial
 |[],_::_,_,_,_,_,r=>r.elim
 |_::_,[],_,_,_,_,r=>r.elim
 |v::vs,c::cs,nO,ps,b,d,r=>by
  simp only[By]at b;split at b
  .rename_i a' p h1;split at b
   .rename_i r' q h2;cases b;rw[au.cat]at d;exact⟨h.a h1 d.1 r.1,h.cl h2 d.2 r.2⟩
   grind
  grind
def mG.e(h:mG σ1 E k n es s s2){x c:E1}(b:xZ σ1.length k n es x=aa (c,ps))(d:au ps)(r:ow (σ1++[.buf E k n es]) s v x):ow σ1 s2 v c:=by
 cases x with
 |one a =>
  simp only[xZ]at b;split at b
  .rename_i a' p h1;cases b;exact h.a h1 d r
  grind
 |agg cs =>
  simp only[xZ]at b;split at b
  .rename_i a' p h1;cases b;obtain⟨vs,g,f⟩:=r;exact⟨vs,g,h.cl h1 d f⟩
  grind
def mG.es'(h:mG σ1 E k n es s s2):∀{vs:List ai}{cs nO:List E1}{ps:List Prop},wK σ1.length k n es cs=aa (nO,ps)->au ps->im (σ1++[.buf E k n es]) s vs cs->im σ1 s2 vs nO
 |[],[],_,_,a,_,_=>by cases a;trivial
 |[],_::_,_,_,_,_,r=>r.elim
 |_::_,[],_,_,_,_,r=>r.elim
 |v::vs,c::cs,nO,ps,a,b,r=>by
  simp only[wK]at a;split at a
  .rename_i a' p h1;split at a
   .rename_i r' q h2;cases a;rw[au.cat]at b;exact⟨h.e h1 b.1 r.1,h.es' h2 b.2 r.2⟩
   grind
  grind
def mG.d(h:mG σ1 E k n es s s2){x b:D}(a:x0 σ1.length k n es x=aa (b,ps))(c:au ps)(r:du (σ1++[.buf E k n es]) s v x):du σ1 s2 v b:=by
 cases x with
 |e x =>
  simp only[x0]at a;split at a
  .rename_i a' p h1;cases a;exact h.e h1 c r
  grind
 |fD xs =>
  simp only[x0]at a;split at a
  .rename_i a' p h1;cases a;obtain⟨vs,g,f⟩:=r;exact⟨vs,g,h.es' h1 c f⟩
  grind
 |any=>cases a;trivial
def aE.Kt(hh:aE (σ1++[.buf E k n es]) s)(C:te σ1.length σ1=ab):
  ∃s2:St,aE σ1 s2/\eH s s2/\mG σ1 E k n es s s2/\∀{σ0:List bg} {s0:St},c6 σ0 s0 (σ1++[.buf E k n es]) s->σ0.length<=σ1.length->c6 σ0 s0 σ1 s2:=by
 have hB:(σ1++[bg.buf E k n es])[σ1.length]?=aa (.buf E k n es):=by simp
 have K:s.β.length=σ1.length+1:=by rw[hh.len];simp
 have A:s.β[σ1.length]?=aa s.β[σ1.length]:=bn (by omega);generalize s.β[σ1.length]=L at A;have z:=hh.box _ _ L hB A;obtain⟨M',G,J,D,Q⟩:∃M':Mem,(∀b o v,s.M b o=aa v->M' b o=aa v)/\(∀b,b∉L.bs->∀o,M' b o=s.M b o)/\(∀b o v,M' b o=aa v->s.w.cell? ⟨b,o,ae⟩=aa v) /\
   (∀v k' o m,gH (σ1++[.buf E k n es]) s v (.bp σ1.length (.sl n k' o m))->k'=k->o+m<=n->Rd M' v (.sl af k m (r6 o es))):=by
  rcases z with⟨rfl,rfl⟩|⟨b,c0,vs,zs,rfl,Z,T,U,R,N,hM⟩
  .refine⟨s.M,λ_ _ _ h=>h,λ_ _ _=>rfl,hh.mem,λv k' o m r e l=>?_⟩;obtain⟨lv,⟨a,a0,cap,c0,p,h1,h2,O,y,W⟩,_,H⟩:=r;grind[Rd.iR]
  .let M':Mem:=λd o=>if d=b then vs[o]? else s.M d o;have F:∀d o v,s.M d o=aa v->M' d o=aa v:=λd o v p=>by grind
   refine⟨M',F,λd Y o=>?_,λd o v p=>?_,λv k' o m r e l=>?_⟩
   .grind
   .by_cases e:d=b
    .subst e;simp only[M',b6]at p;simp only[aP,Z];grind
    .simp only[M',e,cg]at p;exact hh.mem d o v p
   .subst e;obtain⟨lv,⟨a,a0,cap,c1,p,h1,h2,O,y,W⟩,_,H⟩:=r;obtain⟨L',f,x⟩:=(H _ _ _ _ hB).2 rfl;rw[A]at f;cases f;rw[y]at x;cases x;rw[p];have t:∀i,i<m->∀j c,(r6 o es i)[j]?=aa c->∃u,vs[(o+i)*k'+j]?=aa u/\Rd s.M u c:=λi hi j c hj=>by rw[wB]at hj;exact N.rd (o+i) (by omega) j c hj
    refine .sl b (o*k') (λi j=>(vs[(o+i)*k'+j]?).getD ah) h1 (by omega) (by simp) (λi hi=>by rw[wB];exact N.width _ (by omega)) (λhm=>?_) (λi hi j c hj=>?_) (λi hi j c hj=>?_)
    .grind
    .grind
    .obtain⟨u,V,S⟩:=t i hi j c hj;rw[V];exact S.mono F
 have B:(σ1++[bg.buf E k n es]).set σ1.length .dead=σ1++[.dead]:=by simp
 obtain⟨I,q2⟩:=hh.gT (M':=M') (w':=s.w) (B':=.dead) (L':=⟨L.v,[]⟩) hB A ak (bh _) (λ_ _ _=>rfl) (λb _ g o=>J b g o) G D (by simp) rfl rfl rfl ak;rw[B]at I q2;have q3:=I.drop (rest:=[.dead]) C;refine⟨_,q3,⟨rfl,G,λb g o=>J b (g L (bP A)) o,D,λb g=>?_⟩,⟨λv a r q=>?_,λv k' o m r e l=>Q v k' o m r e l⟩,λ{σ0 s0} st hle=>(st.trans (q2.nN hh)).drop (rest:=[.dead]) hle⟩
 .rcases g with g|⟨L',f,g⟩
  .exact .inl g
  .have:=fN f;grind
 .exact(r.mono q2.ext hh.len).drop (rest:=[.dead]) q
end
def ek.LH{X:Cx P}{f:aH}{args:List D}{a:ι->D}{σ1:ι->List bg}{E k:Nat}{n:ι->Nat}{es:ι->Nat->List C}(h:ek X f args σ res (λi=>σ1 i++[.buf E k (n i) (es i)])){ps:ι->List Prop}(e:∀i,x0 (σ1 i).length k (n i) (es i) (res i)=aa (a i,ps i))(g:∀i,au (ps i))(c:∀i,te (σ1 i).length (σ1 i)=ab)(b:∀i,σ.length<=(σ1 i).length):ek X f args σ a σ1:=by refine⟨h.1,λs vs hr hh S cs hS=>h.2 s vs hr hh S cs λi fr v s' hl mT jP st=>?_⟩;obtain⟨s2,c1,c2,c3,c4⟩:=jP.Kt (c i);exact .ghost c2 (hS i fr v s2 (hl.mono c2.mem) (c3.d (e i) (g i) mT) c1 (c4 st (b i)))
def Ev.LH{P:aJ}{X:Cx P}{f:aH}{args:List D}{σ:List bg}{res FA:D}{σ1:List bg}{E k n:Nat}{es:Nat->List C}(h:Ev X f args σ res (σ1++[.buf E k n es])){ps:List Prop}(c:x0 σ1.length k n es res=aa (FA,ps))(d:au ps)(b:te σ1.length σ1=ab)(a:σ.length<=σ1.length):Ev X f args σ FA σ1 :=
 (ek.LH (ι:=Unit) h.sH (λ_=>c) (λ_=>d) (λ_=>b) (λ_=>a)).E9
section
def A2(h:o.op=.call {callee:=.builtin .clear,args:=#[x],argTypes:=#[t]})(a:aB->ai):
  aq a o=(do pure (.value (<-Builtin.clear_ #[t] o.type #[a x]))):=by simp[aq,h,resolve,invoke,builtin]
def Ks{z:ai}{e:List C}{m k:Nat}(l:z.cells.toList.map r5=e.map aa)(hk:e.length=k):Flat M k m (λ_=>e) (Builtin.zeroCells z.cells m).toList:=by
 have d:z.cells.size=k:=by have:=dH List.length l;grind
 have f:er [] ⟨[],M,default,λ_=>False⟩ z.cells.toList (e.map A.c):=lk l;refine⟨by simp[Builtin.zeroCells,d],λ_ _=>hk,λi hi j c r=>?_⟩;have p:j<k:=by grind
 obtain⟨v,v1,n⟩:=f.get (j:=j) (a:=A.c c) (by grind);refine⟨v,?_,n⟩;have g:i*k+j<m*k:=by
  have:i*k+k<=m*k:=by rw[<-lO];exact eP k hi
  omega
 have b:(i*k+j) % k=j:=by grind[Nat.add_mul_mod_self_right,Nat.mod_eq_of_lt]
 have o:j<z.cells.size:=by omega
 have q:z.cells[j]=v:=by grind
 have h:z.cells[j]! = v:=by grind
 simp[Builtin.zeroCells,d,g,b,h]
def bL.SC(hT:cV P T)(h:o.op=.call {callee:=.builtin .clear,args:=#[x],argTypes:=#[t]}){i:TI}(hi:bJ T t=aa i)(hd:i.desc=.slice E)(hE:bJ T E=aa ie){q m:Nat}{F:av}(hx:η x=.e (.one (.bp l (.sl n ie.size q m))))(hl:σ[l]?=aa (.buf F ie.size n es))(A:q+m<=n):
  bL P o η σ .any (σ.set l (.buf F ie.size n (uo q (q+m) ie.zero es))):=by
 intro s ρ hh hr;have h1:=hr x;rw[hx]at h1;change gH σ s (ρ x) (.bp l _)at h1;obtain⟨lv,⟨a,a0,cap,c0,hv,X0,Z,Yr,O,R⟩,_,Q⟩:=h1;obtain⟨L,S,p⟩:=(Q _ _ _ _ hl).2 rfl;rw[O]at p;have c:=(hT t i hi).UY;rw[hd]at c;rw[A2 h,hv];by_cases hm:m=0
 .subst hm;have hz:uo q (q+0) ie.zero es=es:=by funext j;simp only[uo];grind
  have hs:σ.set l (.buf F ie.size n es)=σ:=by apply ji;grind
  rw[hz,hs];refine⟨.value (.tuple #[]),s,?_,ak,hh,.refl _ _,?_⟩
  .cases a<;>simp[Builtin.clear_,run_underlying c]
  .intro K g;cases a<;>simp[Builtin.clear_,run_underlying c,aR]at g
 .obtain⟨b,rfl,rfl⟩:=R (by omega);rcases hh.box l _ L hl S with⟨_,rfl⟩|⟨b',c1,vs,y,rfl,d,J,N,H,Y,V⟩
  .cases p
  .cases p;obtain⟨inf,z,W,z2,z3,U,z5,z6,z7⟩:=(hT E ie hE).info;have r:=Ks (M:=s.M) (m:=m) z5 z7;have X:(Builtin.zeroCells z.cells m).toList.length=m*ie.size:=r.len;have Rb:=Y.len;have hb:q*ie.size+m*ie.size<=n*ie.size:=by rw[<-iP];exact eP _ A
   have q2:=Y.Vk r A;have he:(λi=>if q<=i/\i<q+m then(λ_=>ie.zero) (i-q)else es i)=uo q (q+m) ie.zero es:=rfl;rw[he]at q2;obtain⟨t1,t2⟩:=hh.dY hl S J N H d q2 (by grind) V;have f:∀v∈(Builtin.zeroCells z.cells m).toList,v.oneCell'=ab:=r.cell;have k:=run_storeCells_at P b (q*ie.size) F (Builtin.zeroCells z.cells m).toList 0 (vs++y).toArray s.w d (by grind) f;have C:((vs++y).toArray.toList.take (q*ie.size+0)++(Builtin.zeroCells z.cells m).toList++(vs++y).toArray.toList.drop (q*ie.size+0+(Builtin.zeroCells z.cells m).toList.length))=vs.take (q*ie.size)++(Builtin.zeroCells z.cells m).toList++vs.drop (q*ie.size+(Builtin.zeroCells z.cells m).toList.length)++y:=by grind
   rw[C]at k;have B:∀u,(zeroValue E).run P u=.ok z u:=λu=>by simp[zeroValue,typeInfo,W,U]
   have I:∀u es,(zeroValue E).events P u es=es:=λu es=>by simp[zeroValue,typeInfo,W,U,aR]
   obtain⟨G,rfl⟩:∃G,m=G+1:=⟨m-1,by omega⟩
   refine⟨.value (.tuple #[]),_,?_,ak,t1,t2,?_⟩
   .simp[Builtin.clear_,run_underlying c,B,k]
   .intro K g;have D:K∈(storeCells ⟨b,q*ie.size,ae⟩ (Builtin.zeroCells z.cells (G+1)).toList).events P s.w #[]:=by simp only[Builtin.clear_,aR,iL,jI]at g;simpa[run_underlying c,B,I,k]using g
    rcases dT (Builtin.zeroCells z.cells (G+1)).toList 0 (vs++y).toArray s.w #[] d (by grind) f K D with Om|⟨j,_,_,rfl⟩
    .grind
    .exact j7 (bP S) (by simp) (V _)
end
section
variable {X:Cx P}
theorem AK.Lg{φ':Fr}(h:∀s a,cx N σ s φ a->aE σ s->∃s':St,s'.w=s.w/\cx N σ' s' φ' a/\aE σ' s'/\Step σ s σ' s')(k:AK X N Qf (.ops all rest::K) .normal φ' σ'):AK X N Qf (.ops all rest::K) .normal φ σ:=by intro s a i hh b kk cs S idx hb jO hQ;obtain⟨s',g,e,c,st⟩:=h s a i hh;have d:=st.nN hh;refine .ghost (.of hh c g d) ?_;exact k s' a e c b kk cs S idx hb jO λf σ2 s2 a2 q j h2 m0=>hQ f σ2 s2 a2 q j h2 (d.trans m0)
def AK.Hs(t:Nat)(E k:Nat)(es':Nat->List C){k':Nat}{d:Nat->List C}(j:look φ t=.e (.one (.c (.sl ab k' 0 d))))(kk:AK X N Qf (.ops all rest::K) .normal ((t,.e (.one (.bp σ.length (.sl 0 k 0 0))))::φ) (σ++[.buf E k 0 es'])):AK X N Qf (.ops all rest::K) .normal φ σ:=by
 refine AK.Lg (λs a b hh=>?_) kk;have g:=b.slot t;rw[j]at g;obtain⟨i,f⟩:=hh.iy (B:=.buf E k 0 es') (L:=⟨.slice ae 0 0,[]⟩) (.refl _ _) rfl hh (.inl ⟨rfl,rfl⟩) (by simp);refine⟨{s with β:=s.β++[⟨.slice ae 0 0,[]⟩]},rfl,⟨b.size,b.defers.imp λ_ h1=>h1.mono f.ext,λu=>?_⟩,i,f⟩;simp only[look];cases h:aw t u with
 |false=>exact(b.slot u).mono f.ext hh.len
 |true =>
  have e:=bY h;subst e;exact wq (E:=E) (es:=es') (fe g) (by simp) (by simp[<-hh.len])
def AK.Ht(hT:cV P T){g d:Nat}(h:o.op=.binOp .eql t x (.const (.slice ae g d)) ty){i:TI}(hi:bJ T t=aa i)(F:i.desc=.slice E){tt:Bool}{k:Nat}(z:bS φ x=.e (.one (.c (.sl tt k n es))))(B:o.guard=ae)(C:gm N o.dst=ab)(kk:∀b:Bool,(b=ab->n=0)->AK X N Qf (.ops all rest::K) .normal (kQ o.dst (.e (.one (.c (.bool b)))) φ) σ):AK X N Qf (.ops all (o::rest)::K) .normal φ σ:=by
 refine AK.hand (ι:={b:Bool // b=ab->n=0}) (λb=>.e (.one (.c (.bool b.1)))) (λ_=>σ) B C (λs a v hh=>?_) λb=>kk b.1 b.2;have m:=dh v x;rw[z]at m;obtain⟨ad,cap,vs,m,_,_,_,_,D⟩:=(fe m).flat;have j:=(hT t i hi).UY;rw[F]at j;have q:=fe (by have:=dh v x;rw[z]at this;exact this);have r:ad.isNone=ab->n=0:=by
  intro H;rw[m]at q;cases q with
  |sl b off f A I J hk ha D u =>
   grind
 refine⟨⟨ad.isNone,r⟩,.value (.bool ad.isNone),s,.bool ad.isNone,?_,.inl rfl,Rd.bool,hh,.refl _ _,?_⟩
 .have u:(binOp .eql t (.slice ad n cap) (.slice ae g d)).run P s.w=.ok (.bool ad.isNone) s.w:=Go.Lib.run_eql_slice_nil s.w t E ad n cap g d j;have l:∀y,eqGuard .eql t x y (.slice ad n cap) (.slice ae g d)=pure ():=λy=>by simp[eqGuard]
  have e1:a.eval (.const (.slice ae g d))=.slice ae g d:=rfl;simp only[aq,h,m,e1,l];simp[u]
 .have G:∀es,(Op.equal t (.slice ad n cap) (.slice ae g d)).events P s.w es=es:=λes=>by show(aZ (9999+1) t _ _).events P s.w es=es;unfold aZ;cases ad<;>simp[underlying,j]
  have u:(Op.equal t (.slice ad n cap) (.slice ae g d)).run P s.w=.ok ad.isNone s.w:=by show(aZ (9999+1) t _ _).run P s.w=_;grind[Go.Lib.run_equalIn_slice_nil]
  have l:∀y,eqGuard .eql t x y (.slice ad n cap) (.slice ae g d)=pure ():=λy=>by simp[eqGuard]
  have e1:a.eval (.const (.slice ae g d))=.slice ae g d:=rfl;intro L p;exfalso;simp only[aq,h,m,e1,l,binOp]at p;simp[u,G,aR]at p
end
def eJ{i:TypeInfo}(h:P.types[t]?=aa i):P.info? t=aa i:=by unfold Tables.info?;rw[bo (iJ.1 h).1];exact h
def cV.nil:cV P []:=λ_ _ h=>by cases h
def cV.cons{i:TI}(h:dL P t i)(r:cV P T):cV P ((t,i)::T):=by
 intro b i2 h2;simp only[bJ]at h2;cases a:aw t b with
 |true=>rw[a]at h2;cases h2;rw[<-bY a];exact h
 |false=>rw[a]at h2;exact r b i2 h2
def dL.mk1{i:TI}{n:TypeInfo}(h:P.underlying t=aa i.desc)(k:P.types[t]?=aa n)(a:(Bt i.desc==i.agg&&n.size==i.size&&n.bytes==i.bytes&&(!i.agg||n.zero.any λz=>match z with|.agg _=>ab|_=>af)&&i.zero.length==i.size&&i.eq.isEmpty)=ab:=by rfl)(b:n.zero.map (λz=>z.cells.toList.map r5)=aa (i.zero.map aa):=by rfl):dL P t i:=by
 simp only[bM,gw,List.isEmpty_iff]at a;obtain⟨⟨⟨⟨⟨a1,a2⟩,a3⟩,a4⟩,a5⟩,a6⟩:=a;cases c:n.zero with
 |none=>rw[c]at b;cases b
 |some z =>
  rw[c]at b a4;refine⟨h,a1,⟨n,z,eJ k,a2,a3,c,l4 b,?_,a5⟩,λh=>absurd a6 h⟩;cases d:i.agg with
  |false=>exact⟨#[],rfl⟩
  |true =>
   rw[d]at a4;cases z<;>first|exact⟨_,rfl⟩|cases a4
def cV.c1{i:TI}{n:TypeInfo}(h:P.underlying t=aa i.desc)(k:P.types[t]?=aa n)(r:cV P T)(a:(Bt i.desc==i.agg&&n.size==i.size&&n.bytes==i.bytes&&(!i.agg||n.zero.any λz=>match z with|.agg _=>ab|_=>af)&&i.zero.length==i.size&&i.eq.isEmpty)=ab:=by rfl)(b:n.zero.map (λz=>z.cells.toList.map r5)=aa (i.zero.map aa):=by rfl):cV P ((t,i)::T):=cV.cons (dL.mk1 h k a b) r
namespace R1
abbrev pI:= "loop.example/depositary/impl"
abbrev pS:= "loop.example/depositary/spec"
abbrev f0(a:String)(b c:Nat)(d:String)(e:Nat)(f:Bool:=af):Field:={name:=a,type:=b,offset:=c,embedded:=f,tag:= "",pkgPath:=d,byteOffset:=e}
abbrev zS:C:=.sl ab 0 0 (λ_=>[])
@[simp] def Gv(n:av):TI:=⟨1,24,af,.slice n,[zS],[]⟩
@[simp] def Ka(n:av):TI:=⟨1,8,af,.pointer n,[.iD],[]⟩
@[simp] def Ej(b:Nat)(k:IntKind):TI:=⟨1,b,af,.int k,[.int k 0],[]⟩
@[simp] def vC(s b:Nat)(f:Array Field)(z:List C)(e:List TypeDesc:=[]):TI:=⟨s,b,ab,.struct f,z,e⟩
def i2:TI:=Ej 8 .i64
def i3:TI:=Ej 8 .i64
def i4:TI:=⟨1,1,af,TypeDesc.bool,[.bool af],[]⟩
def i5:TI:=Ej 1 .u8
def i6:TI:=Ej 1 .u8
def i7:TI:=vC 4 24 #[f0 "x" 2 0 "runtime" 0,f0 "y" 3 1 "runtime" 8,f0 "signed" 4 2 "runtime" 16,f0 "code" 6 3 "runtime" 17] [.int .i64 0,.int .i64 0,.bool af,.int .u8 0]
def i8:TI:=vC 4 24 #[f0 "x" 2 0 "runtime" 0,f0 "y" 3 1 "runtime" 8,f0 "signed" 4 2 "runtime" 16,f0 "code" 6 3 "runtime" 17] [.int .i64 0,.int .i64 0,.bool af,.int .u8 0]
def i9:TI:=⟨1,16,af,TypeDesc.string,[.str []],[]⟩
def i12:TI:=Ej 8 .u64
def i16:TI:=Ka 319
def i17:TI:=Ka 326
def i20:TI:=⟨1,16,af,TypeDesc.interface #[],[.jk],[]⟩
def i21:TI:=Ej 4 .i32
def i22:TI:=Gv 5
def i23:TI:=Gv 46
def i24:TI:=Gv 73
def i25:TI:=Gv 52
def i27:TI:=vC 3 72 #[f0 "Packs" 23 0 "" 0,f0 "Snaps" 24 1 "" 24,f0 "Log" 25 2 "" 48] [zS,zS,zS]
def i28:TI:=Gv 50
def i34:TI:=Gv 9
def i36:TI:=Gv 84
def i44:TI:=Gv 82
def i46:TI:=vC 2 32 #[f0 "No" 3 0 "" 0,f0 "Item" 44 1 "" 8] [.int .i64 0,zS]
def i50:TI:=vC 2 32 #[f0 "Path" 9 0 "" 0,f0 "Text" 9 1 "" 16] [.str [],.str []] [.string,.string]
def g50:dL ag 50 i50:=⟨Tryz.underlying50,rfl,⟨_,_,eJ Tryz.type50,rfl,rfl,rfl,rfl,⟨_,rfl⟩,rfl⟩,λ_=>lC (fs:=[f0 "Path" 9 0 "" 0,f0 "Text" 9 1 "" 16]) Tryz.underlying50 (by decide +kernel) Tryz.eqGuardType50 ⟨by decide,rfl,Tryz.underlying9,ak,by decide,rfl,Tryz.underlying9,ak,ak⟩⟩
def i52:TI:=vC 2 16 #[f0 "By" 3 0 "" 0,f0 "Snap" 3 1 "" 8] [.int .i64 0,.int .i64 0] [.int .i64,.int .i64]
def g52:dL ag 52 i52:=⟨Tryz.underlying52,rfl,⟨_,_,eJ Tryz.type52,rfl,rfl,rfl,rfl,⟨_,rfl⟩,rfl⟩,λ_=>lC (fs:=[f0 "By" 3 0 "" 0,f0 "Snap" 3 1 "" 8]) Tryz.underlying52 (by decide +kernel) Tryz.eqGuardType52 ⟨by decide,rfl,Tryz.underlying3,ak,by decide,rfl,Tryz.underlying3,ak,ak⟩⟩
def i53:TI:=Ka 98
def i61:TI:=⟨1,16,af,TypeDesc.interface #[("Error",258)],[.jk],[]⟩
def i64:TI:=Ka 119
def i66:TI:=Ka 64
def i71:TI:=Gv 141
def i73:TI:=vC 2 32 #[f0 "No" 3 0 "" 0,f0 "All" 71 1 "" 8] [.int .i64 0,zS]
def i76:TI:=Ka 149
def i82:TI:=vC 2 24 #[f0 "Name" 3 0 "" 0,f0 "Body" 9 1 "" 8] [.int .i64 0,.str []] [.int .i64,.string]
def g82:dL ag 82 i82:=⟨Tryz.underlying82,rfl,⟨_,_,eJ Tryz.type82,rfl,rfl,rfl,rfl,⟨_,rfl⟩,rfl⟩,λ_=>lC (fs:=[f0 "Name" 3 0 "" 0,f0 "Body" 9 1 "" 8]) Tryz.underlying82 (by decide +kernel) Tryz.eqGuardType82 ⟨by decide,rfl,Tryz.underlying3,ak,by decide,rfl,Tryz.underlying9,ak,ak⟩⟩
def i84:TI:=vC 2 16 #[f0 "Name" 3 0 "" 0,f0 "Pack" 3 1 "" 8] [.int .i64 0,.int .i64 0] [.int .i64,.int .i64]
def g84:dL ag 84 i84:=⟨Tryz.underlying84,rfl,⟨_,_,eJ Tryz.type84,rfl,rfl,rfl,rfl,⟨_,rfl⟩,rfl⟩,λ_=>lC (fs:=[f0 "Name" 3 0 "" 0,f0 "Pack" 3 1 "" 8]) Tryz.underlying84 (by decide +kernel) Tryz.eqGuardType84 ⟨by decide,rfl,Tryz.underlying3,ak,by decide,rfl,Tryz.underlying3,ak,ak⟩⟩
def i87:TI:=Gv 3
def i88:TI:=Gv 46
def i90:TI:=vC 3 72 #[f0 "packed" 88 0 pI 0 ab,f0 "snaps" 24 1 pI 24,f0 "log" 25 2 pI 48] [zS,zS,zS]
def i98:TI:=vC 2 32 #[f0 "b" 22 0 pS 0,f0 "p" 3 1 pS 24] [zS,.int .i64 0]
def i119:TI:=vC 1 16 #[f0 "what" 9 0 pI 0] [.str []] [.string]
def aak:dL ag 119 i119:=⟨Tryz.underlying119,rfl,⟨_,_,eJ Tryz.type119,rfl,rfl,rfl,rfl,⟨_,rfl⟩,rfl⟩,λ_=>lC (fs:=[f0 "what" 9 0 pI 0]) Tryz.underlying119 (by decide +kernel) Tryz.eqGuardType119 ⟨by decide,rfl,Tryz.underlying9,ak,ak⟩⟩
def i124:TI:=⟨1,8,af,TypeDesc.unsafePointer,[.iD],[]⟩
def i125:TI:=Ej 8 .u64
def i127:TI:=vC 3 24 #[f0 "typ_" 17 0 "internal/reflectlite" 0,f0 "ptr" 124 1 "internal/reflectlite" 8,f0 "flag" 125 2 "internal/reflectlite" 16 ab] [.iD,.iD,.int .u64 0]
def i130:TI:=⟨1,16,af,TypeDesc.interface #[("AssignableTo",135),("Comparable",134),("Elem",131),("Implements",135),("Kind",133),("Name",258),("PkgPath",258),("Size",327),("String",258),("internal/reflectlite.common",320),("internal/reflectlite.uncommon",328)],[.jk],[]⟩
def i132:TI:=Ej 1 .u8
def i141:TI:=vC 2 40 #[f0 "Path" 9 0 "" 0,f0 "Names" 87 1 "" 16] [.str [],zS]
def i143:TI:=Gv 36
def i149:TI:=vC 4 32 #[f0 "spot" 84 0 pI 0,f0 "left" 76 2 pI 16,f0 "right" 76 3 pI 24] [.int .i64 0,.int .i64 0,.iD,.iD]
def i150:TI:=Ej 8 .i64
def i179:TI:=Ka 180
def i180:TI:=Gv 82
def i189:TI:=⟨1,16,af,TypeDesc.interface #[("As",191)],[.jk],[]⟩
def i192:TI:=⟨1,16,af,TypeDesc.interface #[("Unwrap",193)],[.jk],[]⟩
def i194:TI:=⟨1,16,af,TypeDesc.interface #[("Unwrap",196)],[.jk],[]⟩
def i195:TI:=Gv 61
def i201:TI:=Gv 214
def i203:TI:=vC 0 0 #[] []
def i204:TI:=vC 0 0 #[] []
def i205:TI:=vC 0 0 #[] []
def i206:TI:=Ej 8 .u64
def i208:TI:=vC 1 8 #[f0 "_" 204 0 "sync/atomic" 0,f0 "_" 205 0 "sync/atomic" 0,f0 "v" 206 0 "sync/atomic" 0] [.int .u64 0]
def i209:TI:=Ej 4 .u32
def i211:TI:=vC 2 16 #[f0 "noCopy" 203 0 "sync" 0,f0 "state" 208 0 "sync" 0,f0 "sema" 209 1 "sync" 8] [.int .u64 0,.int .u32 0]
def i214:TI:=vC 2 24 #[f0 "piece" 9 0 pI 0,f0 "ok" 4 1 pI 16] [.str [],.bool af] [.string,.bool]
def aal:dL ag 214 i214:=⟨Tryz.underlying214,rfl,⟨_,_,eJ Tryz.type214,rfl,rfl,rfl,rfl,⟨_,rfl⟩,rfl⟩,λ_=>lC (fs:=[f0 "piece" 9 0 pI 0,f0 "ok" 4 1 pI 16]) Tryz.underlying214 (by decide +kernel) Tryz.eqGuardType214 ⟨by decide,rfl,Tryz.underlying9,ak,by decide,rfl,Tryz.underlying4,ak,ak⟩⟩
def i221:TI:=Ej 8 .u64
def i228:TI:=⟨1,16,af,TypeDesc.interface #[("Len",177),("Less",198),("Pop",233),("Push",229),("Swap",231)],[.jk],[]⟩
def i235:TI:=⟨1,16,af,TypeDesc.interface #[("Is",237)],[.jk],[]⟩
def i253:TI:=Ka 255
def i255:TI:=vC 2 32 #[f0 "addr" 253 0 "strings" 0,f0 "buf" 22 1 "strings" 8] [.iD,zS]
def i261:TI:=Ej 8 .i64
def i281:TI:=Ka 5
def i283:TI:=Ej 8 .u64
def i286:TI:=Ka 3
def i301:TI:=Ka 297
def i312:TI:=vC 2 2 #[f0 "lo" 5 0 "unicode/utf8" 0,f0 "hi" 5 1 "unicode/utf8" 1] [.int .u8 0,.int .u8 0] [.int .u8,.int .u8]
def aam:dL ag 312 i312:=⟨Tryz.underlying312,rfl,⟨_,_,eJ Tryz.type312,rfl,rfl,rfl,rfl,⟨_,rfl⟩,rfl⟩,λ_=>lC (fs:=[f0 "lo" 5 0 "unicode/utf8" 0,f0 "hi" 5 1 "unicode/utf8" 1]) Tryz.underlying312 (by decide +kernel) Tryz.eqGuardType312 ⟨by decide,rfl,Tryz.underlying5,ak,by decide,rfl,Tryz.underlying5,ak,ak⟩⟩
def i313:TI:=⟨32,32,ab,TypeDesc.array 16 312,[.int .u8 0,.int .u8 0,.int .u8 0,.int .u8 0,.int .u8 0,.int .u8 0,.int .u8 0,.int .u8 0,.int .u8 0,.int .u8 0,.int .u8 0,.int .u8 0,.int .u8 0,.int .u8 0,.int .u8 0,.int .u8 0,.int .u8 0,.int .u8 0,.int .u8 0,.int .u8 0,.int .u8 0,.int .u8 0,.int .u8 0,.int .u8 0,.int .u8 0,.int .u8 0,.int .u8 0,.int .u8 0,.int .u8 0,.int .u8 0,.int .u8 0,.int .u8 0],[]⟩
def i314:TI:=Ka 332
def i317:TI:=⟨0,0,ab,TypeDesc.array 0 16,[],[]⟩
def i319:TI:=vC 0 0 #[f0 "_" 317 0 "runtime" 0] []
def i321:TI:=Ej 1 .u8
def i323:TI:=Ej 4 .i32
def i324:TI:=Ej 4 .i32
def i326:TI:=vC 11 48 #[f0 "Size_" 12 0 "" 0,f0 "PtrBytes" 12 1 "" 8,f0 "Hash" 209 2 "" 16,f0 "TFlag" 321 3 "" 20,f0 "Align_" 5 4 "" 21,f0 "FieldAlign_" 5 5 "" 22,f0 "Kind_" 132 6 "" 23,f0 "Equal" 322 7 "" 24,f0 "GCData" 281 8 "" 32,f0 "Str" 323 9 "" 40,f0 "PtrToThis" 324 10 "" 44] [.int .u64 0,.int .u64 0,.int .u32 0,.int .u8 0,.int .u8 0,.int .u8 0,.int .u8 0,.za,.iD,.int .i32 0,.int .i32 0]
def i332:TI:=vC 1 16 #[f0 "s" 9 0 "errors" 0] [.str []] [.string]
def aan:dL ag 332 i332:=⟨Tryz.underlying332,rfl,⟨_,_,eJ Tryz.type332,rfl,rfl,rfl,rfl,⟨_,rfl⟩,rfl⟩,λ_=>lC (fs:=[f0 "s" 9 0 "errors" 0]) Tryz.underlying332 (by decide +kernel) Tryz.eqGuardType332 ⟨by decide,rfl,Tryz.underlying9,ak,ak⟩⟩
def tt:List (Nat×TI):=[(2,i2),(3,i3),(4,i4),(5,i5),(6,i6),(7,i7),(8,i8),(9,i9),(12,i12),(16,i16),(17,i17),(20,i20),(21,i21),(22,i22),(23,i23),(24,i24),(25,i25),(27,i27),(28,i28),(34,i34),(36,i36),(44,i44),(46,i46),(50,i50),(52,i52),(53,i53),(61,i61),(64,i64),(66,i66),(71,i71),(73,i73),(76,i76),(82,i82),(84,i84),(87,i87),(88,i88),(90,i90),(98,i98),(119,i119),(124,i124),(125,i125),(127,i127),(130,i130),(132,i132),(141,i141),(143,i143),(149,i149),(150,i150),(179,i179),(180,i180),(189,i189),(192,i192),(194,i194),(195,i195),(201,i201),(203,i203),(204,i204),(205,i205),(206,i206),(208,i208),(209,i209),(211,i211),(214,i214),(221,i221),(228,i228),(235,i235),(253,i253),(255,i255),(261,i261),(281,i281),(283,i283),(286,i286),(301,i301),(312,i312),(313,i313),(314,i314),(317,i317),(319,i319),(321,i321),(323,i323),(324,i324),(326,i326),(332,i332)]
def tok:cV ag tt:=cV.c1 Tryz.underlying2 Tryz.type2 ( cV.c1 Tryz.underlying3 Tryz.type3 ( cV.c1 Tryz.underlying4 Tryz.type4 ( cV.c1 Tryz.underlying5 Tryz.type5 ( cV.c1 Tryz.underlying6 Tryz.type6 ( cV.c1 Tryz.underlying7 Tryz.type7 ( cV.c1 Tryz.underlying8 Tryz.type8 ( cV.c1 Tryz.underlying9 Tryz.type9 ( cV.c1 Tryz.underlying12 Tryz.type12 ( cV.c1 Tryz.underlying16 Tryz.type16 ( cV.c1 Tryz.underlying17 Tryz.type17 ( cV.c1 Tryz.underlying20 Tryz.type20 ( cV.c1 Tryz.underlying21 Tryz.type21 ( cV.c1 aO Tryz.type22 ( cV.c1 Tryz.underlying23 Tryz.type23 ( cV.c1 Tryz.underlying24 Tryz.type24 ( cV.c1 Tryz.underlying25 Tryz.type25 ( cV.c1 Tryz.underlying27 Tryz.type27 ( cV.c1 Tryz.underlying28 Tryz.type28 ( cV.c1 Tryz.underlying34 Tryz.type34 ( cV.c1 Tryz.underlying36 Tryz.type36 ( cV.c1 Tryz.underlying44 Tryz.type44 ( cV.c1 Tryz.underlying46 Tryz.type46 ( cV.cons g50 ( cV.cons g52 ( cV.c1 Tryz.underlying53 Tryz.type53 ( cV.c1 Tryz.underlying61 Tryz.type61 ( cV.c1 Tryz.underlying64 Tryz.type64 ( cV.c1 Tryz.underlying66 Tryz.type66 ( cV.c1 Tryz.underlying71 Tryz.type71 ( cV.c1 Tryz.underlying73 Tryz.type73 ( cV.c1 Tryz.underlying76 Tryz.type76 ( cV.cons g82 ( cV.cons g84 ( cV.c1 Tryz.underlying87 Tryz.type87 ( cV.c1 Tryz.underlying88 Tryz.type88 ( cV.c1 Tryz.underlying90 Tryz.type90 ( cV.c1 Tryz.underlying98 Tryz.type98 ( cV.cons aak ( cV.c1 Tryz.underlying124 Tryz.type124 ( cV.c1 Tryz.underlying125 Tryz.type125 ( cV.c1 Tryz.underlying127 Tryz.type127 ( cV.c1 Tryz.underlying130 Tryz.type130 ( cV.c1 Tryz.underlying132 Tryz.type132 ( cV.c1 Tryz.underlying141 Tryz.type141 ( cV.c1 Tryz.underlying143 Tryz.type143 ( cV.c1 Tryz.underlying149 Tryz.type149 ( cV.c1 Tryz.underlying150 Tryz.type150 ( cV.c1 Tryz.underlying179 Tryz.type179 ( cV.c1 Tryz.underlying180 Tryz.type180 ( cV.c1 Tryz.underlying189 Tryz.type189 ( cV.c1 Tryz.underlying192 Tryz.type192 ( cV.c1 Tryz.underlying194 Tryz.type194 ( cV.c1 Tryz.underlying195 Tryz.type195 ( cV.c1 Tryz.underlying201 Tryz.type201 ( cV.c1 Tryz.underlying203 Tryz.type203 ( cV.c1 Tryz.underlying204 Tryz.type204 ( cV.c1 Tryz.underlying205 Tryz.type205 ( cV.c1 Tryz.underlying206 Tryz.type206 ( cV.c1 Tryz.underlying208 Tryz.type208 ( cV.c1 Tryz.underlying209 Tryz.type209 ( cV.c1 Tryz.underlying211 Tryz.type211 ( cV.cons aal ( cV.c1 Tryz.underlying221 Tryz.type221 ( cV.c1 Tryz.underlying228 Tryz.type228 ( cV.c1 Tryz.underlying235 Tryz.type235 ( cV.c1 Tryz.underlying253 Tryz.type253 ( cV.c1 Tryz.underlying255 Tryz.type255 ( cV.c1 Tryz.underlying261 Tryz.type261 ( cV.c1 Tryz.underlying281 Tryz.type281 ( cV.c1 Tryz.underlying283 Tryz.type283 ( cV.c1 Tryz.underlying286 Tryz.type286 ( cV.c1 Tryz.underlying301 Tryz.type301 ( cV.cons aam ( cV.c1 Tryz.underlying313 Tryz.type313 ( cV.c1 Tryz.underlying314 Tryz.type314 ( cV.c1 Tryz.underlying317 Tryz.type317 ( cV.c1 Tryz.underlying319 Tryz.type319 ( cV.c1 Tryz.underlying321 Tryz.type321 ( cV.c1 Tryz.underlying323 Tryz.type323 ( cV.c1 Tryz.underlying324 Tryz.type324 ( cV.c1 Tryz.underlying326 Tryz.type326 ( cV.cons aan (cV.nil)))))))))))))))))))))))))))))))))))))))))))))))))))))))))))))))))))))))))))))))))))
end R1
abbrev Bs:=List UInt8
abbrev dS(s:Bs):D:=.e (.one (.c (.str s)))
abbrev dI(n:Int):D:=.e (.one (.c (.int .i64 n)))
abbrev dU(n:Int):D:=.e (.one (.c (.int .u8 n)))
abbrev dB(b:Bool):D:=.e (.one (.c (.bool b)))
def k6{s:Bs}:jl s i=s.getD i 0:=rfl
namespace R1
variable {X:Cx ag}
def ju:Tryz.prog.follows Departure.mixedOrders=ab:=rfl
def aao{X:Cx ag}{CT:List (Nat×dJ)}(c:bH X CT)(ds:List (Nat×Bool)){N:Nat}{Qf:Post}(n:Nat){K b:List It}{φ φ':Fr}{σ σ':List bg}{a:List Prop}(h:AM.lD tt CT ds N n K φ σ []=aa (b,φ',σ',a))(d:au a)(k:AK X N Qf b .normal φ' σ'):AK X N Qf K .normal φ σ:=AK.lD ju tok c ds n h d k
def qi{X:Cx ag}(ds:List (Nat×Bool)){N:Nat}{Qf:Post}(n:Nat){K b:List It}{φ φ':Fr}{σ σ':List bg}{a:List Prop}(h:AM.lD tt [] ds N n K φ σ []=aa (b,φ',σ',a))(c:au a)(k:AK X N Qf b .normal φ' σ'):AK X N Qf K .normal φ σ:=AK.lD ju tok bH.nil ds n h c k
def bu{X:Cx ag}{N:Nat}{Qf:Post}{K b:List It}{φ φ':Fr}{σ σ':List bg}{a:List Prop}(h:AM.lD tt [] [] N 100 K φ σ []=aa (b,φ',σ',a))(c:au a)(k:AK X N Qf b .normal φ' σ'):AK X N Qf K .normal φ σ:=AK.lD ju tok bH.nil [] 100 h c k
def dk{X:Cx ag}{N:Nat}{Qf:Post}{K b:List It}{φ φ':Fr}{σ σ':List bg}{a:List Prop}(h:AM.lD tt [] [] N 200 K φ σ []=aa (b,φ',σ',a))(c:au a)(k:AK X N Qf b .normal φ' σ'):AK X N Qf K .normal φ σ:=AK.lD ju tok bH.nil [] 200 h c k
def aU{X:Cx ag}{CT:List (Nat×dJ)}(c:bH X CT)(ds:List (Nat×Bool)){N:Nat}{Qf:Post}{K b:List It}{φ φ':Fr}{σ σ':List bg}{a:List Prop}(h:AM.lD tt CT ds N 100 K φ σ []=aa (b,φ',σ',a))(d:au a)(k:AK X N Qf b .normal φ' σ'):AK X N Qf K .normal φ σ:=AK.lD ju tok c ds 100 h d k
def bm{X:Cx ag}{CT:List (Nat×dJ)}(c:bH X CT)(ds:List (Nat×Bool)){N:Nat}{Qf:Post}{K b:List It}{φ φ':Fr}{σ σ':List bg}{a:List Prop}(h:AM.lD tt CT ds N 200 K φ σ []=aa (b,φ',σ',a))(d:au a)(k:AK X N Qf b .normal φ' σ'):AK X N Qf K .normal φ σ:=AK.lD ju tok c ds 200 h d k
def aW{X:Cx ag}(ds:List (Nat×Bool)){N:Nat}{Qf:Post}{K b:List It}{φ φ':Fr}{σ σ':List bg}{a:List Prop}(h:AM.lD tt [] ds N 100 K φ σ []=aa (b,φ',σ',a))(c:au a)(k:AK X N Qf b .normal φ' σ'):AK X N Qf K .normal φ σ:=AK.lD ju tok bH.nil ds 100 h c k
def bO{X:Cx ag}(ds:List (Nat×Bool)){N:Nat}{Qf:Post}{K b:List It}{φ φ':Fr}{σ σ':List bg}{a:List Prop}(h:AM.lD tt [] ds N 200 K φ σ []=aa (b,φ',σ',a))(c:au a)(k:AK X N Qf b .normal φ' σ'):AK X N Qf K .normal φ σ:=AK.lD ju tok bH.nil ds 200 h c k
def ck{X:Cx ag}{CT:List (Nat×dJ)}(c:bH X CT){N:Nat}{Qf:Post}{K b:List It}{φ φ':Fr}{σ σ':List bg}{a:List Prop}(h:AM.lD tt CT [] N 100 K φ σ []=aa (b,φ',σ',a))(d:au a)(k:AK X N Qf b .normal φ' σ'):AK X N Qf K .normal φ σ:=AK.lD ju tok c [] 100 h d k
def cG{X:Cx ag}{CT:List (Nat×dJ)}(c:bH X CT){N:Nat}{Qf:Post}{K b:List It}{φ φ':Fr}{σ σ':List bg}{a:List Prop}(h:AM.lD tt CT [] N 200 K φ σ []=aa (b,φ',σ',a))(d:au a)(k:AK X N Qf b .normal φ' σ'):AK X N Qf K .normal φ σ:=AK.lD ju tok c [] 200 h d k
def mL(b:Int):Bool:=decide (97<=b)&&decide (b<=101)
theorem Qt(b:Int):Ev X 108 [dU b] [] (dB (mL b)) []:=by
 refine Ev.bQ Tryz.func108 rfl λ_=>?_;by_cases h:97<=b
 .refine aW [(4,ab)] rfl ?_ (AK.bC rfl ?_)<;>simp[h,mL]
 .refine aW [(4,af)] rfl ?_ (AK.bC rfl ?_)<;>simp[h,mL]
def e9(b:UInt8):Bool:=decide (97<=b.toNat)&&decide (b.toNat<=122)
def cf(s:Bs):Bool:=s.all e9
def tS{s:Bs}(h:∀j,j<s.length->e9 (s.getD j 0)=ab):cf s=ab:=by simp only[cf,bz];grind[List.getElem_of_mem]
def lg{s:Bs}(h:j<s.length)(b:e9 (s.getD j 0)=af):cf s=af:=by
 cases a:cf s with
 |false=>rfl
 |true =>
  simp only[cf,bz]at a;grind
theorem Gw(s:Bs):Ev X 109 [dS s] [] (dB (cf s)) []:=by
 refine Ev.bQ Tryz.func109 rfl λe=>?_;have g:=e.str 0 rfl;refine bu rfl ak ?_;refine AK.xJ (λi=>i<=s.length/\∀j,j<i->e9 (s.getD j 0)=ab) (λi:Nat=>[(0,dS s),(3,dI i)]) (λ_=>[]) (λi=>s.length-i) 0 rfl (by simp) ⟨by omega,by omega⟩ rfl ?_;rintro i ⟨hi,c⟩;by_cases h:i<s.length
 .generalize a:s.getD i 0=b;by_cases k:b.toNat<97
  .refine aW [(7,ab),(13,ab)] rfl ?_ (AK.iC (cz.zero rfl ?_))
   .simp only[au,k6,a9,a];omega
   .rw[au,lg h (by rw[a];simp only[e9,qx,bR];omega)]
  .by_cases f:b.toNat>122
   .refine aW [(7,ab),(13,af),(18,ab)] rfl ?_ (AK.iC (cz.zero rfl ?_))
    .simp only[au,k6,a9,bR,a];omega
    .rw[au,lg h (by rw[a];simp only[e9,qx,bR];omega)]
   .refine aW [(7,ab),(13,af),(18,af)] rfl ?_ (AK.again (i+1) rfl ?_ ?_ ?_ rfl)
    .simp only[au,k6,a9,bR,a,bE];omega
    .simp
    .refine⟨by omega,λj d=>?_⟩;rcases wa.1 d with d|rfl
     .grind
     .rw[a];simp only[e9,bM,a9];omega
    .omega
 .refine aW [(7,af)] rfl (by simp;omega) (AK.leave rfl rfl ?_);refine bu rfl ak (AK.bC rfl ?_);rw[au,tS (λj d=>c j (by omega))]
end R1
def Ev.args{P:aJ}{X:Cx P}{f:aH}{args Ek:List D}{σ σ':List bg}{res:D}(h:Ev X f Ek σ res σ')(hl:∀s vs,cp σ s vs args->cp σ s vs Ek):Ev X f args σ res σ' :=
 ⟨h.1,λs vs hr hh=>h.2 s vs (hl s vs hr) hh⟩
def kH(a:Nat):D->Option (Nat×(Nat->List C))
 |.e (.one (.c (.sl _ k n es)))=>match aw k a with
  |true=>aa (n,es)
  |false=>match aw n 0 with
   |true=>aa (0,λ_=>[])
   |false=>ae
 |_=>ae
def M7{g:Nat}{d:D}{n:Nat}{es:Nat->List C}(h:kH g d=aa (n,es)){σ:List bg}{s:St}{v:ai}(r:du σ s v d):Rd s.M v (.sl af g n es):=by
 unfold kH at h;split at h
 .rename_i t k m es';split at h
  .rename_i hk;have e:=bY hk;subst e;cases h;exact(fe r).loose
  .split at h
   .rename_i i;have e:=bY i;subst e;cases h;have r':=fe r;cases r' with
    |sl b off f a j l hk ha hm hr=>exact Rd.sl b off f a j (by simp) (by omega) (by omega) (by omega) (by omega)
   grind
 grind
def BQ{α:Type}(enc:α->List C)(b8:α)(l:List α):Nat->List C:=λi=>enc (l.getD i b8)
structure mS(α:Type) where
 k:Nat
 enc:α->List C
 dec:List C->α
 b8:α
 inv:∀a,dec (enc a)=a
 len:∀a,(enc a).length=k
namespace mS
variable {α:Type}(c:mS α)
def list(n:Nat)(es:Nat->List C):List α:=(bc n).map λi=>c.dec (es i)
def fn(l:List α):Nat->List C:=BQ c.enc c.b8 l
def fits(n:Nat)(es:Nat->List C):Prop:=∀i,i<n->es i=c.enc (c.dec (es i))
def sl(l:List α):D:=.e (.one (.c (.sl af c.k l.length (c.fn l))))
def El{n:Nat}{es:Nat->List C}:(c.list n es).length=n:=by simp[list]
def list_fn(l:List α):c.list l.length (c.fn l)=l:=by
 apply sR
 .simp[list]
 .intro i b a;simp[list,fn,BQ,aj,bn a,c.inv]
def aK(l:List α){n:Nat}:c.fits n (c.fn l):=λi _=>by simp[fn,BQ,c.inv]
def Qu{n:Nat}{es:Nat->List C}(h:c.fits n es):cE n es (c.fn (c.list n es)):=by intro i hi;rw[h i hi];simp[fn,BQ,list,aj,hi]
def jS{d:D}{n:Nat}{es:Nat->List C}(h:kH c.k d=aa (n,es))(b:c.fits n es){σ:List bg}{s:St}{v:ai}(r:du σ s v d):du σ s v (c.sl (c.list n es)):=by have e:=M7 h r;have a:=e.EX (c.Qu b);show Rd s.M v (.sl af c.k (c.list n es).length _);rw[c.El];exact a
end mS
def cU(s:Bs)(i:Nat):Int:=(s.getD i 0).toNat
theorem cY(s:Bs)(j:Int):((jl s j).toNat:Int)=cU s j.toNat:=rfl
abbrev bw:=Bs×Bs
def Dv(cs:List C)(j:Nat):Bs:=match dF j cs with|some (.str s)=>s|_=>[]
def ya(cs:List C)(j:Nat):Int:=match dF j cs with|some (.int _ s)=>s|_=>0
def cF:mS bw:={k:=2,enc:=λf=>[.str f.1,.str f.2],dec:=λcs=>(Dv cs 0,Dv cs 1),b8:=([],[]),inv:=λ_=>rfl,len:=λ_=>rfl}
namespace R1
variable {X:Cx ag}
def Uk:dJ:=λargs σ=>match args,σ with
 |[.e (.one (.c (.int .u8 b)))],[]=>aa (dB (mL b),[],[])
 |_,_=>ae
def t108:eh X 108 Uk:=by intro args σ res σ' obs h _;unfold Uk at h;grind[Qt]
def Qh:dJ:=λargs σ=>match args,σ with
 |[.e (.one (.c (.str b)))],[]=>aa (dB (cf b),[],[])
 |_,_=>ae
def t109:eh X 109 Qh:=by intro args σ res σ' obs h _;unfold Qh at h;grind[Gw]
def ct1:List (Nat×dJ):=[(108,Uk),(109,Qh)]
def Em:bH X ct1:=bH.cons t108 (bH.cons t109 bH.nil)
def dO(s:Bs):Bool:=if s.length=1 then mL (cU s 0)else if s.length=3 then mL (cU s 0)&&(cU s 1==47)&&mL (cU s 2)else af
theorem Jz(s:Bs):Ev X 58 [dS s] [] (dB (dO s)) []:=by
 refine Ev.bQ Tryz.func58 rfl λf=>?_;by_cases e:s.length=1
 .refine aU Em [(6,ab)] rfl ?_ (AK.bC rfl ?_)
  .simp[e]
  .simp[dO,e,cY]
 .by_cases a:s.length=3
  .by_cases b:mL (cU s 0)=ab
   .by_cases d:cU s 1=47
    .refine aU Em [(6,af),(11,ab),(14,ab),(18,ab)] rfl ?_ (AK.bC rfl ?_)
     .simp[a,cY,b,d]
     .simp[dO,a,b,d,cY]
    .refine aU Em [(6,af),(11,ab),(14,ab),(18,af)] rfl ?_ (AK.bC rfl ?_)
     .simp[a,cY,b,d]
     .simp[dO,a,b,d]
   .refine aU Em [(6,af),(11,ab),(14,af)] rfl ?_ (AK.bC rfl ?_)
    .simp[a,cY,b]
    .simp[dO,a,b]
  .refine aU Em [(6,af),(11,af)] rfl ?_ (AK.bC rfl ?_)
   .simp;omega
   .simp[dO,e,a]
def ez(s:Bs):Bool:=decide (s.length<=40)&&cf s
theorem JA(s:Bs):Ev X 59 [dS s] [] (dB (ez s)) []:=by
 refine Ev.bQ Tryz.func59 rfl λb=>?_;by_cases a:s.length<=40
 .refine aU Em [(5,ab)] rfl ?_ (AK.bC rfl ?_)
  .simp;omega
  .simp[ez,a]
 .refine aU Em [(5,af)] rfl ?_ (AK.bC rfl ?_)
  .simp;omega
  .simp[ez,a]
def clash(a b:Bs):Bool:=(a.length != b.length)&&(cU a 0==cU b 0)
def M8(a b:Bs)(g:a≠[])(h:b≠[]):Ev X 60 [dS a,dS b] [] (dB (clash a b)) []:=by
 have d:=List.length_pos_iff.2 g;have f:=List.length_pos_iff.2 h;refine Ev.bQ Tryz.func60 rfl λi=>?_;by_cases e:a.length=b.length
 .refine aW [(9,af)] rfl ?_ (AK.bC rfl ?_)
  .simp[e]
  .simp[clash,e]
 .refine aW [(9,ab)] rfl ?_ (AK.bC rfl ?_)
  .simp[d,f];omega
  .simp[clash,e,cY]
end R1
section
variable {X:Cx P}
def Yields(X:Cx P)(d:Nat)(ds:List D)(σ:List bg)(res:Bool)(σ':ι->List bg):Prop :=
 ∀s (vs:List ai) (l:Nat),cp σ s vs ds->aE σ s->(∃L,s.β[d]?=aa L/\L.v=.func (.yield l) #[] #[]) ->
  ∃fn tmps assign body,(Instr.yield l vs.toArray).run P s.w=.ok (.round l fn tmps assign body) s.w/\(Instr.yield l vs.toArray).events P s.w #[]=#[⟨.obj l,af,af⟩] /\
  ∀(S:ar->St->Prop) (c:aX) (cs:List aX),(∀i s',aE (σ' i) s'->c6 σ s (σ' i) s'->fL X S (G (c.finish (.bool res)) cs) s') ->
   fL X S (G (Frame.round l fn tmps assign body .normal) (c::cs)) s
def na{r:Loop}(h:w.heap[l]?=aa (.loop r)):(Instr.getLoop l).run P w=.ok r w/\∀es,(Instr.getLoop l).events P w es=es.push ⟨.obj l,af,af⟩:=by
 have c:(getObj l).run P w=.ok (.loop r) w:=by simp only[getObj,Sem.run,h]
 have d:∀es,(getObj l).events P w es=es.push ⟨.obj l,af,af⟩:=λes=>by simp only[getObj,Sem.events,Sem.runT,h];rfl
 constructor
 .simp[Instr.getLoop,c]
 .intro es;simp[Instr.getLoop,c,d]
def p9{r r':Loop}(h:w.heap[l]?=aa (.loop r)):(setObj l (.loop r')).run P w=.ok () {w with heap:=w.heap.setIfInBounds l (.loop r')}/\∀es,(setObj l (.loop r')).events P w es=es.push ⟨.obj l,ab,af⟩:=by
 constructor
 .simp only[setObj,Sem.run,h]
 .intro es;simp only[setObj,Sem.events,Sem.runT,h];rfl
def IM{r:Loop}{args:Array ai}(h:w.heap[l]?=aa (.loop r))(d:args.size=r.params.size):
  (Instr.yield l args).run P w=.ok (.round l r.fn ((r.params.zip args).foldl (λtmps (t,a)=>tmps.setIfInBounds t a) r.tmps) r.assign r.body) w/\(Instr.yield l args).events P w #[]=#[⟨.obj l,af,af⟩]:=by
 obtain⟨c,e⟩:=na (P:=P) h;constructor
 .simp[Instr.yield,c,d]
 .simp[Instr.yield,c,e,d]
def IN{r:Loop}(h:w.heap[l]?=aa (.loop r))(d:r.state=.ready):
  (Instr.beginRound l).run P w=.ok () {w with heap:=w.heap.setIfInBounds l (.loop {r with state:=.busy})}/\(Instr.beginRound l).events P w #[]=#[⟨.obj l,af,af⟩,⟨.obj l,ab,af⟩]:=by
 obtain⟨e,f⟩:=na (P:=P) h;obtain⟨c,g⟩:=p9 (P:=P) (r':={r with state:=.busy}) h;constructor
 .simp[Instr.beginRound,e,c,d]
 .simp[Instr.beginRound,e,f,c,g,d]
def Be{r:Loop}(h:w.heap[l]?=aa (.loop r))(j:Option Code):
  (Instr.endRound l j).run P w=.ok (.bool j.isNone) {w with heap:=w.heap.setIfInBounds l (.loop {r with state:=if j.isNone then .ready else .done,pending:=j})}/\(Instr.endRound l j).events P w #[]=#[⟨.obj l,af,af⟩,⟨.obj l,ab,af⟩]:=by
 obtain⟨c,e⟩:=na (P:=P) h;obtain⟨d,f⟩:=p9 (P:=P) (r':={r with state:=if j.isNone then .ready else .done,pending:=j}) h;constructor
 .simp only[Instr.endRound,bT,c,d,cu,dE]
 .simp only[Instr.endRound,aR,c,e,d,f,aV,Sem.events_pure];rfl
def C6{r:Loop}(h:w.heap[l]?=aa (.loop r))(c:r.state≠.busy):
  (Instr.endLoop l).run P w=.ok r.pending {w with heap:=w.heap.setIfInBounds l (.loop {r with state:=.exhausted})}/\(Instr.endLoop l).events P w #[]=#[⟨.obj l,af,af⟩,⟨.obj l,ab,af⟩]:=by
 obtain⟨d,e⟩:=na (P:=P) h;obtain⟨f,g⟩:=p9 (P:=P) (r':={r with state:=.exhausted}) h;have j:(r.state==.busy)=af:=by cases i:r.state<;>simp_all
 constructor
 .simp[Instr.endLoop,d,f,c]
 .simp[Instr.endLoop,d,e,g,c]
section steps
variable {b:aX}{a:Act}{k:List Item}{main:Bool}
def C7(c:o.op=.call {callee:=.value fo,args:=xs,argTypes:=jU})(e:a.eval fo=.func (.yield l) #[] #[]):
  (aq a.eval o).run P w=(Instr.yield l (xs.toList.map a.eval).toArray).run P w/\(aq a.eval o).events P w #[]=(Instr.yield l (xs.toList.map a.eval).toArray).events P w #[]:=by
 have d:xs.map a.eval=(xs.toList.map a.eval).toArray:=by grind
 constructor
 .simp[aq,c,resolve,e,Deferred.ofValue,invoke,d]
 .simp[aq,c,resolve,e,Deferred.ofValue,invoke,d]
def La{rest:List Nat}{fn:aH}{tmps:Array ai}{assign body:Code}(f:ops[i]?=aa o)(e:bl o (yielded ops a.tmps)=ab)(hk:b.kind≠.early)(g:(aq a.eval o).run P w=.ok (.round l fn tmps assign body) w'):
  aG P main (G (b.aT a (.inRegion ops (i::rest)::k)) cs) w=.go (G (Frame.round l fn tmps assign body .normal) (b.aT a (.inRegion ops (i::rest)::k)::cs)) w' (Go.Conc.listed P b.fn a o w):=by
 have d:(b.kind==CallKind.early)=af:=by grind
 rw[wx f e (λc h=>by grind[s8])];simp[stepG.apply,g,G,Frame.aT,d,GStep.after,Go.Conc.listed]
def Lb{r:Loop}(f:b.roundOf=aa l)(hk:b.kind≠.early)(h:w.heap[l]?=aa (.loop r))(e:r.state=.ready):
  aG P main (G (b.aT a (.beginRound::k)) cs) w=.go (G (b.aT a k) cs) {w with heap:=w.heap.setIfInBounds l (.loop {r with state:=.busy})} (seen P b.fn #[⟨.obj l,af,af⟩,⟨.obj l,ab,af⟩]):=by
 obtain⟨g,d⟩:=IN (P:=P) h e;have c:(b.kind==CallKind.early)=af:=by grind
 simp[G,aG,stepG.exec,stepG.apply,Frame.aT,f,c,g,d,GStep.after,Frame.finish]
def C8{r:Loop}{j:Option Code}{e:List Item}{c:aX}(g:b.roundOf=aa l)(hk:b.kind=.normal)(h:w.heap[l]?=aa (.loop r))(m:(j=ae/\e=[])∨(j=aa .ret/\∃k1,e=.code .ret::k1)∨(∃id k1,j=aa (.exit id)/\e=.code (.exit id)::k1/\exitTo id k1=ae)):
  aG P main (G (b.aT a e) (c::cs)) w=.go (G (c.finish (.bool j.isNone)) cs) {w with heap:=w.heap.setIfInBounds l (.loop {r with state:=if j.isNone then .ready else .done,pending:=j})} (seen P b.fn #[⟨.obj l,af,af⟩,⟨.obj l,ab,af⟩]):=by
 obtain⟨d,f⟩:=Be (P:=P) h j;rcases m with⟨rfl,rfl⟩|⟨rfl,k1,rfl⟩|⟨id,k1,rfl,rfl,i⟩
 .simp only[Option.isNone_none,b6]at d;simp[G,aG,stepG.exec,Frame.aT,g,d,f,GStep.after,doReturn,hk]
 .simp only[Option.isNone_some,cg,jZ]at d;simp[G,aG,stepG.exec,Frame.aT,g,d,f,GStep.after,doReturn,hk]
 .simp only[Option.isNone_some,cg,jZ]at d;simp[G,aG,stepG.exec,Frame.aT,g,d,f,GStep.after,doReturn,hk,i]
def Fv{r:Loop}(h:w.heap[l]?=aa (.loop r))(d:r.state≠.busy):
  aG P main (G (b.aT a (.endRangeFunc l::k)) cs) w=.go (G (b.aT a ((r.pending.map Item.code).toList++k)) cs) {w with heap:=w.heap.setIfInBounds l (.loop {r with state:=.exhausted})} (seen P b.fn #[⟨.obj l,af,af⟩,⟨.obj l,ab,af⟩]):=by obtain⟨e,c⟩:=C6 (P:=P) h d;simp[G,aG,stepG.exec,Frame.aT,e,c,GStep.after]
def zi{fn:aH}{tmps:Array ai}{params:Array Tmp}{assign body:Code}:
  (Instr.enterLoop fn tmps params assign body ae).run P w=.ok (w.heap.size+1,[{target:=.collected w.heap.size,args:=#[]}]) {w with heap:=(w.heap.push (.deferred (aa []))).push (.loop {state:=.ready,pending:=ae,fn,tmps,params,assign,body,defers:=w.heap.size})} /\
  (Instr.enterLoop fn tmps params assign body ae).events P w #[]=#[]:=by
 have c:∀(o:Obj) (w:ay),(newObj o).run P w=.ok w.heap.size {w with heap:=w.heap.push o}:=λo w=>by simp only[newObj,Sem.run]
 have d:∀(o:Obj) (w:ay) es,(newObj o).events P w es=es:=λo w es=>by simp only[newObj,Sem.events,Sem.runT]
 constructor
 .simp[Instr.enterLoop,c];rfl
 .simp[Instr.enterLoop,c,d]
def Bf{f:aB}{ps:Array Tmp}{assign body:Code}{F:aH}{fn:Func}{c:List ai}(q:b.roundOf=ae)(hk:b.kind≠.early)(i:P.funcs[F]?=aa fn)(l:(fn.name== "runtime.NumGoroutine")=af)(j:fn.body.isNone=af)(r:a.eval f=.func (.func F) #[] c.toArray):
  aG P main (G (b.aT a (.code (.rangeFunc f ps assign body)::k)) cs) w =
   .go (G (Frame.enter P F (Value.func (.yield (w.heap.size+1)) #[] #[]::c).toArray .normal) (b.aT {a with defers:={target:=.collected w.heap.size,args:=#[]}::a.defers} (.inRangeFunc (w.heap.size+1)::k)::cs))
    {w with heap:=(w.heap.push (.deferred (aa []))).push (.loop {state:=.ready,pending:=ae,fn:=b.fn,tmps:=a.tmps,params:=ps,assign,body,defers:=w.heap.size})} #[]:=by
 obtain⟨p,o⟩:=zi (P:=P) (w:=w) (fn:=b.fn) (tmps:=a.tmps) (params:=ps) (assign:=assign) (body:=body);have h:(b.kind==CallKind.early)=af:=by grind
 have g:fn.name≠ "runtime.NumGoroutine":=by grind
 have e:fn.body≠ae:=by grind
 have n:∀(d:List Deferred) (t:List Item) (m:FrameMode),({fn:=b.fn,tmps:=a.tmps,todo:=t,defers:=d,mode:=m,kind:=b.kind,roundOf:=b.roundOf}:aX).eval f=.func (.func F) #[] c.toArray:=by intro d t m;rw[<-r];cases f<;>rfl
 simp only[G,aG,stepG.exec,Frame.aT,q]at n⊢;simp[p,o,GStep.after,stepG.apply,resolve,n,Deferred.ofValue,invoke,callFunc,i,g,e,h,seen];rfl
end steps
end
section
variable {X:Cx P}
def aE.Bg(hh:aE σ s){a:Nat}{φ0:Fr}{r:Loop}(hB:σ[a]?=aa (.loop N φ0 r))(hl:∃L,s.β[a]?=aa L/\L.v=.func (.yield l) #[] #[]):
  ∃tmps fn df,s.β[a]?=aa ⟨.func (.yield l) #[] #[],[l]⟩/\s.w.heap[l]?=aa (.loop {r with tmps:=tmps,fn:=fn,defers:=df})/\tmps.size=N/\(∀t,du σ s (tmps.getD t ah) (look φ0 t))/\(∀o,s.M l o=ae):=by obtain⟨L,h1,h2⟩:=hl;obtain⟨l',tmps,fn,df,b,e,d,c,f⟩:=hh.box a _ L hB h1;grind
def aE.Bh(hh:aE σ s){a:Nat}{φ0:Fr}{r r':Loop}{B':bg}(hB:σ[a]?=aa (.loop N φ0 r)){tmps:Array ai}{fn df:Nat}(m:s.β[a]?=aa ⟨.func (.yield l) #[] #[],[l]⟩)(A:s.w.heap[l]?=aa (.loop {r with tmps:=tmps,fn:=fn,defers:=df}))(z:tmps.size=N)(d:∀t,du σ s (tmps.getD t ah) (look φ0 t))(q:∀o,s.M l o=ae)(c:B'=.dead∨B'=.loop N φ0 r'):
  aE (σ.set a B') {s with w:={s.w with heap:=s.w.heap.setIfInBounds l (.loop {r' with tmps:=tmps,fn:=fn,defers:=df})}}/\Step σ s (σ.set a B') {s with w:={s.w with heap:=s.w.heap.setIfInBounds l (.loop {r' with tmps:=tmps,fn:=fn,defers:=df})}}:=by
 have y:l<s.w.heap.size:=hh.lt _ (bP m) l (by simp);have hk:∀b,b≠l->(s.w.heap.setIfInBounds l (.loop {r' with tmps:=tmps,fn:=fn,defers:=df}))[b]?=s.w.heap[b]?:=λb j=>by grind
 have n:s.β.set a ⟨.func (.yield l) #[] #[],[l]⟩=s.β:=by apply ji;grind
 have k:a<σ.length:=(bX.1 hB).1;have g:gR (.loop N φ0 r) ⟨.func (.yield l) #[] #[],[l]⟩ B' ⟨.func (.yield l) #[] #[],[l]⟩:=by rcases c with rfl|rfl<;>rfl
 have ex:Ext σ s (σ.set a B') {s with w:={s.w with heap:=s.w.heap.setIfInBounds l (.loop {r' with tmps:=tmps,fn:=fn,defers:=df})}}:=by
  refine⟨λ_ _ _ h=>h,λi B L p f=>?_⟩;by_cases e:a=i
  .grind
  .exact⟨B,L,by grind,f,.refl _ _⟩
 have:=hh.gT (M':=s.M) (w':={s.w with heap:=s.w.heap.setIfInBounds l (.loop {r' with tmps:=tmps,fn:=fn,defers:=df})}) (B':=B') (L':=⟨.func (.yield l) #[] #[],[l]⟩) hB m g (by simp) (λb _ j=>hk b (by grind)) (λ_ _ _ _=>rfl) (λ_ _ _ h=>h)
  (λb o v u=>by
   have x:b≠l:=by grind
   rw[<-hh.mem b o v u];simp only[aP]
   grind) (λb j=>by grind) rfl rfl rfl (by
   rcases c with rfl|rfl
   .trivial
   .refine⟨l,tmps,fn,df,rfl,?_,z,λt=>?_,q⟩
    .grind
    .have:=(d t).mono ex hh.len
     grind)
 grind
def AK.yield{σ':ι->List bg}{i:Nat}{ds:List D}{res:Bool}(I:Yields X i ds σ res σ')(M:o.guard=ae)(O:gm N o.dst=ab)(J:o.op=.call {callee:=.value fo,args:=xs,argTypes:=jU}){N0:Nat}{φ0:Fr}{r:Loop}(z:σ[i]?=aa (.loop N0 φ0 r))(F:bS φ fo=.e (.one (.ref i)))(u:xs.toList.map (bS φ)=ds)(k:∀j,AK X N Qf (.ops all rest::K) .normal (kQ o.dst (.e (.one (.c (.bool res)))) φ) (σ' j)):AK X N Qf (.ops all (o::rest)::K) .normal φ σ:=by
 intro s a f hh b kk cs S idx hb jO hQ;cases idx with
 |nil=>exact jO.elim
 |cons j idx =>
 refine .next rfl λh m=>?_;have A:=X.iS m;have d:=hh.rely A;have v:=f.rely A hh;have E:=dh v fo;rw[F]at E;obtain⟨_,L,B,y,_⟩:=(show gH _ h _ (.ref i)from E)
 obtain⟨l,tmps,fn,df,H,h4,h5,Z,h7⟩:=d.box i _ L z B;subst H;have n:cp σ h (xs.toList.map a.eval) ds:=by grind[ma,dh]
 obtain⟨Q,x,assign,body,Y,T,V⟩:=I h (xs.toList.map a.eval) l n d ⟨_,B,rfl⟩;obtain⟨G,W⟩:=C7 (P:=P) (w:=h.w) (a:=a) J y;refine⟨_,h,_,La jO.1 (dM M) hb (G.trans Y),⟨⟨σ,σ,d,d,.refl _ _⟩,fj.seen ?_⟩,V S _ _ λC s' jP st=>?_⟩
 .rw[W,T];exact .one (pR (L:=⟨.func (.yield l) #[] #[],[l]⟩) (bP B) (by simp))
 have g:=kO (b:=b) (a:=a) (k:=kk) all.toArray j idx (.bool res);rw[jO.1]at g;simp only[oB]at g;rw[g];refine k C s' _ ?_ jP b kk cs S idx hb jO.2 λp σ2 s2 a2 q R h2 m0=>hQ p σ2 s2 a2 q R h2 ((A.stepW.trans st).trans m0);cases U:o.dst with
 |none=>exact v.mono st d.len
 |some t=>exact(v.mono st d.len).put (gU O t U) (show du (σ' C) s' (.bool res) (.e (.one (.c (.bool res))))from Rd.bool)
def si:List Tmp->List D->Fr->Fr
 |t::ts,d::ds,φ=>si ts ds ((t,d)::φ)
 |_,_,φ=>φ
def Pp(N:Nat):List Tmp->Bool
 |[]=>ab
 |t::ts=>match bD (t+1) N with|true=>Pp N ts|false=>af
def Hq{N:Nat}{σ:List bg}{s:St}:∀{ps:List Tmp}{ds:List D}{vs:List ai}{φ:Fr}{a:Act},cx N σ s φ a->cp σ s vs ds->Pp N ps=ab->cx N σ s (si ps ds φ) {a with tmps:=(ps.zip vs).foldl (λtmps (t,v)=>tmps.setIfInBounds t v) a.tmps}
 |[],ds,vs,φ,a,h,_,_=>by simpa[si]using h
 |_::_,[],[],φ,a,h,_,_=>by simpa[si]using h
 |_::_,[],_::_,φ,a,h,b,_=>b.elim
 |_::_,_::_,[],φ,a,h,b,_=>b.elim
 |t::ts,d::ds,v::vs,φ,a,h,b,c=>by
  simp only[Pp]at c;split at c
  .rename_i e;have:=Hq (h.put (d:=t) (dr e) b.1) b.2 c;simpa[si,Act.put]using this
  grind
def S9:Exit->Option (Option Code)
 |.normal=>aa ae
 |.ret=>aa (aa .ret)
 |.exit id=>aa (aa (.exit id))
 |_=>ae
def Yields.intro{ι:Type}{k N:Nat}{φ0:Fr}{r:Loop}{ds:List D}{σ:List bg}{σ':ι->List bg}{j:Option Code}(p:σ[k]?=aa (.loop N φ0 r))(Hl:r.state=.ready)(hlen:ds.length=r.params.size)(Zp:Pp N r.params.toList=ab)(h:AW X N r.assign (λe H σ1=>e=.normal/\σ1[k]?=aa (.loop N φ0 r)/\AW X N r.body (λe φ2 σ2=>S9 e=aa j/\σ2[k]?=aa (.loop N φ0 {r with state:=.busy}) /\
   ∃i,Fw (σ2.set k (.loop N φ0 {r with state:=if j.isNone then .ready else .done,pending:=j})) (σ' i)) H (σ1.set k (.loop N φ0 {r with state:=.busy}))) (si r.params.toList ds φ0) σ):Yields X k ds σ j.isNone σ':=by
 intro s vs l R hh hl;obtain⟨tmps,fn,df,h1,h2,h3,h4,h5⟩:=hh.Bg p hl;have Rb:vs.length=r.params.size:=by grind[cp.get]
 obtain⟨y1,y2⟩:=IM (P:=P) (args:=vs.toArray) h2 (by grind);refine⟨_,_,_,_,y1,y2,λS c cs hS=>?_⟩;let b:aX:={fn:=fn,tmps:=#[],todo:=[],defers:=[],mode:=.run,kind:=.normal,roundOf:=aa l}
 have J:b.kind≠.early:=by simp[b]
 have hf:cx N σ s (si r.params.toList ds φ0) {tmps:=(r.params.zip vs.toArray).foldl (λtmps (t,a)=>tmps.setIfInBounds t a) tmps,defers:=[]}:=by
  have:=Hq (a:={tmps:=tmps,defers:=[]}) (φ:=φ0) ⟨h3,⟨[],ak⟩,h4⟩ R Zp;have e:(r.params.zip vs.toArray).foldl (λtmps (x:Tmp×ai)=>tmps.setIfInBounds x.1 x.2) tmps=(r.params.toList.zip vs).foldl (λtmps (x:Tmp×ai)=>tmps.setIfInBounds x.1 x.2) tmps:=by rw[<-Array.foldl_toList];simp
  grind
 show fL X S (G (b.aT {tmps:=(r.params.zip vs.toArray).foldl (λtmps (t,a)=>tmps.setIfInBounds t a) tmps,defers:=[]} [.code r.assign,.beginRound,.code r.body]) (c::cs)) s;refine h s _ hf hh b [.beginRound,.code r.body] (c::cs) S J ?_;rintro e H σ1 s1 a1 ⟨rfl,n,q⟩ f1 C F;refine .next rfl λs2 ua=>?_;have M:=X.iS ua;have g:=C.rely M;have f2:=f1.rely M C;have T:∃L,s2.β[k]?=aa L/\L.v=.func (.yield l) #[] #[]:=by obtain⟨B',L',k1,O,U⟩:=(F.trans M.stepW).box k _ _ p h1;rw[n]at k1;cases k1;exact⟨L',O,U⟩
 obtain⟨W,fn2,Yd,g1,g2,g3,g4,g5⟩:=g.Bg n T;have K:=g.Bh (r':={r with state:=.busy}) n g1 g2 g3 g4 g5 (.inr rfl);have y:∀{s:St} {σ:List bg} {L:Loc},s.β[k]?=aa L->L.bs=[l]->fj s #[⟨.obj l,af,af⟩,⟨.obj l,ab,af⟩]:=λ{s σ L} hL J =>
  .two (pR (bP hL) (by grind)) (pR (bP hL) (by grind))
 refine⟨_,_,_,Lb (l:=l) rfl J g2 Hl,⟨⟨_,_,g,K.1,K.2⟩,fj.seen (y (σ:=σ1) g1 rfl)⟩,?_⟩;have E:=K.2.nN g;have Y:=K.1;refine q _ a1 (f2.mono E g.len) Y b [] (c::cs) S J ?_;rintro e φ3 Q s3 a3 ⟨hj,o,ii,u⟩ f3 I V;have stA:=((F.trans M.stepW).trans E).trans V;have fin:∀B f,cw s3 f->((j=ae/\B=[])∨(j=aa .ret/\∃k1,B=.code .ret::k1)∨(∃id k1,j=aa (.exit id)/\B=.code (.exit id)::k1/\exitTo id k1=ae)) ->
   ∃g' s' es,aG P X.main (G (b.aT a3 B) (c::cs)) f.w=.go g' s'.w es/\rW f s' es/\fL X S g' s':=by
  intro B f d Yz;have m:=I.rely d;have z:∃L,f.β[k]?=aa L/\L.v=.func (.yield l) #[] #[]:=by obtain⟨B',L',k1,O,U⟩:=(stA.trans d.stepW).box k _ _ p h1;rw[o]at k1;cases k1;exact⟨L',O,U⟩
  obtain⟨Z,fn5,df5,p1,p2,p3,p4,p5⟩:=m.Bg o z;have A:=m.Bh (r':={r with state:=if j.isNone then .ready else .done,pending:=j}) o p1 p2 p3 p4 p5 (.inr rfl);obtain⟨p7,p8,_⟩:=u _ A.1;exact⟨_,_,_,C8 (l:=l) rfl rfl p2 Yz,⟨⟨_,_,m,A.1,A.2⟩,fj.seen (y (σ:=Q) p1 rfl)⟩,hS ii _ p7 (((stA.trans d.stepW).trans (A.2.nN m)).trans (p8.nN A.1))⟩
 cases e with
 |normal =>
  cases hj;exact .next rfl λf d=>fin [] f (X.iS d) (.inl ⟨rfl,rfl⟩)
 |ret =>
  cases hj;intro pre;exact .next rfl λf d=>fin _ f (X.iS d) (.inr (.inl ⟨rfl,pre,rfl⟩))
 |exit id =>
  cases hj;intro pre hp;refine .next rfl λf d=>fin _ f (X.iS d) (.inr (.inr ⟨id,_,rfl,rfl,?_⟩));have:=hp [];simpa[exitTo]using this
 |_=>cases hj
end
def lA(X:Cx P)(N:Nat)(c:Code)(Q:Post)(φ:Fr)(σ:List bg):Prop :=
 ∀s a,cx N σ s φ a->aE σ s->∀(b:aX) (k:List Item) (cs:List aX) (S:ar->St->Prop),b.kind≠.early->b.roundOf=ae ->
  (∀e φ' σ' s' a',Q e φ' σ'->cx N σ' s' φ' a'->aE σ' s'->c6 σ s σ' s'->ends X S b k cs e a' s')->fL X S (G (b.aT a (.code c::k)) cs) s
section
variable {X:Cx P}{Q:Post}
def AW.top(h:AW X N c Q φ σ):lA X N c Q φ σ:=λs a f hh b k cs S d _ e=>h s a f hh b k cs S d e
theorem lA.seq{x y:Code}(h:lA X N x (C9 (lA X N y Q) Q) φ σ):lA X N (.seq x y) Q φ σ:=by
 intro s a m hh b k cs S j d l;refine .ctl hh rfl (λ_=>oL) λn h1=>?_;refine h n a (m.rely h1 hh) (hh.rely h1) b (.code y::k) cs S j d ?_;intro e φ' σ' s' a' q g i st;have c:=h1.stepW.trans st;cases e with
 |normal=>exact q s' a' g i b k cs S j d λe f σ2 s2 a2 q2 f2 h2 m0=>l e f σ2 s2 a2 q2 f2 h2 (c.trans m0)
 |_=>exact ends.cons (λ_ _=>rfl) (by simp) (l _ _ _ _ _ q g i c)
theorem lA.block{id:Nat}(h:lA X N c (xH id Q) φ σ):lA X N (.block id c) Q φ σ:=by
 intro s a m hh b k cs S n j i;refine .ctl hh rfl (λ_=>sZ) λo h1=>?_;refine h o a (m.rely h1 hh) (hh.rely h1) b (.inBlock id::k) cs S n j ?_;intro e φ' σ' s' a' q g f st;have d:=h1.stepW.trans st;cases e with
 |normal =>
  exact .ctl f rfl (λ_=>rY) λs2 h2=>i .normal φ' σ' s2 a' q (g.rely h2 f) (f.rely h2) (d.trans h2.stepW)
 |exit J7 =>
  simp only[xH]at q;split at q
  .rename_i e;subst e;intro pre hp;refine .ctl f rfl (λ_=>AP (k':=k) (by rw[hp];simp[exitTo])) λs2 h2=>?_;exact i .normal φ' σ' s2 a' q (g.rely h2 f) (f.rely h2) (d.trans h2.stepW)
  .rename_i p
   intro pre hp;have:=i (.exit J7) φ' σ' s' a' q g f d (pre++[.inBlock id]) (λk'=>by
    rw[mm,hp];have:(id==J7)=af:=by grind
    simp[exitTo,this])
   grind
 |ret=>exact i _ _ _ _ _ q g f d
 |panic ch=>exact i _ _ _ _ _ q g f d
 |goto l=>exact i _ _ _ _ _ q g f d
 |outgrown=>exact i _ _ _ _ _ q g f d
def aE.Ta(h:aE σ s){o:Nat->Prop}(a:∀b,o b->b<s.w.heap.size/\∀L∈s.β,b∉L.bs):aE σ {s with own:=o} :=
 ⟨h.mem,h.len,λl B L hB hL=>eG.carry (σ:=σ) (s:=s) (σ':=σ) (s':={s with own:=o}) ⟨λ_ _ _ h=>h,λ_ B L h c=>⟨B,L,h,c,.refl _ _⟩⟩ h.len (λ_ _=>⟨rfl,λ_=>rfl⟩) (h.box l B L hB hL),h.eO,h.lt,a⟩
def aE.iW(h:aE σ s){r:Nat}{o:Nat->Prop}(g:s.own r)(j:∀b,o b->s.own b)(m:¬o r)(f:∀i,s.M r i=ae)(k:s.w.heap[r]?=aa (.deferred (aa []))):
  aE (σ++[.rX]) {s with β:=s.β++[⟨.int .i64 r,[r]⟩],own:=o}/\eH s {s with β:=s.β++[⟨.int .i64 r,[r]⟩],own:=o}:=by
 obtain⟨q,n⟩:=h.own r g;have ex:Ext σ s (σ++[.rX]) {s with β:=s.β++[⟨.int .i64 r,[r]⟩],own:=o}:=by
  refine⟨λ_ _ _ h=>h,λl B L hB hL=>⟨B,L,?_,?_,.refl _ _⟩⟩
  .grind
  grind
 refine⟨⟨h.mem,by simp[h.len],?_,?_,?_,?_⟩,⟨rfl,λ_ _ _ h=>h,λ_ _ _=>rfl,h.mem,?_⟩⟩
 .intro l B L hB hL;rcases gx hL with c|⟨hl,rfl⟩
  .have hl:l<σ.length:=by rw[<-h.len];grind
   rw[jH hl]at hB;exact(h.box l B L hB c).carry ex h.len λ_ _=>⟨rfl,λ_=>rfl⟩
  .rw[hl,h.len,gp (bh _)]at hB;simp at hB;subst hB;exact⟨r,rfl,k,f⟩
 .intro l l' L L' hL fC b a d;rcases gx hL with k1|⟨e1,rfl⟩<;>rcases gx fC with e|⟨e2,rfl⟩
  .exact h.eO l l' L L' k1 e b a d
  .grind
  .grind
  grind
 .intro L hL b a;simp only[fz,fO]at hL;rcases hL with hL|rfl
  .exact h.lt L hL b a
  grind
 .intro b a;obtain⟨p,p2⟩:=h.own b (j b a);grind
 grind
def Hp:Option Code->Option Exit
 |none=>aa .normal
 |some .ret=>aa .ret
 |some (.exit id)=>aa (.exit id)
 |_=>ae
def lA.rangeFunc{f:aB}{ps:Array Tmp}{assign body:Code}{F:aH}{capD:List D}{σ':ι->List bg}{r':ι->Loop}(JW:∀s a,cx N σ s φ a->aE σ s->∃n:List ai,a.eval f=.func (.func F) #[] n.toArray/\cp σ s n capD)(Rc:ek X F (.e (.one (.ref σ.length))::capD) (σ++[.loop N φ {state:=.ready,pending:=ae,fn:=0,tmps:=#[],params:=ps,assign:=assign,body:=body,defers:=0}]) res σ')(hl:∀i,(σ' i)[σ.length]?=aa (.loop N φ (r' i))/\(r' i).state≠.busy)(k:∀i,∃e,Hp (r' i).pending=aa e/\Q e φ ((σ' i).set σ.length .dead++[.rX])):lA X N (.rangeFunc f ps assign body) Q φ σ:=by
 intro s a fr hh b kk cs S m Pn hQ;obtain⟨⟨fn,Pq,W,z⟩,C⟩:=Rc;refine .next rfl λd Zq=>?_;have hr:=X.iS Zq;have j:=hh.rely hr;have f1:=fr.rely hr hh;obtain⟨n,hv,A⟩:=JW d a f1 j;generalize XS:d.w.heap.size=r;have u:=λmain=>Bf (P:=P) (main:=main) (k:=kk) (cs:=cs) (ps:=ps) (assign:=assign) (body:=body) (b:=b) (w:=d.w) Pn m Pq W z hv;rw[XS]at u;let w1:ay:={d.w with heap:=d.w.heap.push (.deferred (aa []))}
 let lo:Loop:={state:=.ready,pending:=ae,fn:=b.fn,tmps:=a.tmps,params:=ps,assign:=assign,body:=body,defers:=r}
 let w2:ay:={d.w with heap:=(d.w.heap.push (.deferred (aa []))).push (.loop lo)}
 have JX:w2.heap.size=r+2:=by grind
 have adO:w1.heap.size=r+1:=by grind
 have hk1:∀b,b<d.w.heap.size->w1.heap[b]?=d.w.heap[b]?:=λb m=>by grind
 have Zr:∀b,b<w1.heap.size->w2.heap[b]?=w1.heap[b]?:=λb m=>by grind
 have U:∀b,b<d.w.heap.size->w2.heap[b]?=d.w.heap[b]?:=λb m=>by grind
 have R:w2.heap[r]?=aa (.deferred (aa [])):=by grind
 have Zs:w2.heap[r+1]?=aa (.loop lo):=by grind
 have nM:∀b,d.w.heap.size<=b->∀o,d.M b o=ae:=λb m o=>by
  cases x:d.M b o with
  |none=>rfl
  |some v=>have:=j.block x;omega
 let L1:Loc:=⟨.func (.yield (r+1)) #[] #[],[r+1]⟩
 let L2:Loc:=⟨.int .i64 r,[r]⟩
 let rr:Loop:={state:=.ready,pending:=ae,fn:=0,tmps:=#[],params:=ps,assign:=assign,body:=body,defers:=0}
 obtain⟨g1,g2⟩:=j.grow (M':=d.M) (w':=w2) (by omega) U (λ_ _ _=>rfl) (λb m o v x=>by grind) rfl rfl rfl;have K:Ext σ d (σ++[.loop N φ rr]) ⟨d.β++[L1],d.M,w2,d.own⟩:=by
  refine⟨λ_ _ _ h=>h,λl B L hB hL=>⟨B,L,?_,?_,.refl _ _⟩⟩
  .grind
  grind
 obtain⟨a1,a2⟩:=g1.iy (B:=.loop N φ rr) (L:=L1) g2 rfl j ⟨r+1,a.tmps,b.fn,r,rfl,Zs,f1.size,λt=>(f1.slot t).mono K j.len,λo=>nM _ (by omega) o⟩ (λb m=>by grind)
 have hD:=a1.Ta (o:=λb=>d.own b∨b=r) (by
  rintro b (m|rfl)
  .exact a1.own b m
  .refine⟨by grind,λL hL=>?_⟩;simp only[fz,fO]at hL;rcases hL with hL|rfl
   .intro Z;have:=j.lt L hL b Z;omega
   grind)
 have d1:=j.l9;obtain⟨e1,e2⟩:=d1.grow (M':=d.M) (w':=w1) (by omega) hk1 (λ_ _ _=>rfl) (λb m o v x=>by grind) rfl rfl rfl;obtain⟨e3,e4⟩:=e1.iy (B:=.dead) (L:=L2) e2 rfl d1 ak (λb m=>by grind)
 obtain⟨e5,e6⟩:=e3.grow (M':=d.M) (w':=w2) (by grind) Zr (λ_ _ _=>rfl) (λb m o v x=>by grind) rfl rfl rfl
 obtain⟨e7,e8⟩:=e5.iy (B:=.dead) (L:=L1) e6 rfl e3 ak (λb m=>by grind);have Yg:eH ⟨d.β++[L2]++[L1],d.M,w2,d.own⟩ ⟨d.β++[L1],d.M,w2,λb=>d.own b∨b=r⟩:=by
  refine⟨rfl,λ_ _ _ h=>h,λ_ _ _=>rfl,a1.mem,?_⟩;rintro b ((m|rfl)|⟨L,hL,m⟩)
  .grind
  .exact .inr ⟨L2,by simp,by grind⟩
  grind
 refine⟨_,⟨d.β++[L2]++[L1],d.M,w2,d.own⟩,_,u X.main,⟨⟨_,_,d1,e7,e4.trans e8⟩,.nil⟩,.ghost Yg (C _ (Value.func (.yield (r+1)) #[] #[]::n) ?_ hD S _ λi UZ v s4 I mT V st4=>?_)⟩
 .refine⟨⟨λB p=>?_,L1,?_,rfl,rfl⟩,?_⟩
  .rw[gp (bh _)]at p;simp at p;subst p;rfl
  .show (d.β++[L1])[σ.length]?=_;rw[<-j.len,gp (bh _)];simp
  .exact A.mono (σ:=σ) (s:=d) (σ':=σ++[.loop N φ rr]) (s':=⟨d.β++[L1],d.M,w2,λb=>d.own b∨b=r⟩) ⟨K.mem,K.box⟩ j.len
 have O:(b.aT {a with defers:={target:=.collected r,args:=#[]}::a.defers} (.inRangeFunc (r+1)::kk)).finish v=b.aT {a with defers:={target:=.collected r,args:=#[]}::a.defers} (.endRangeFunc (r+1)::kk):=by simp[Frame.finish,Frame.aT]
 refine qR (cs:=cs) (c:=b.aT {a with defers:={target:=.collected r,args:=#[]}::a.defers} (.inRangeFunc (r+1)::kk)) V I λs5 hr5=>?_;rw[O];refine .next rfl λs6 T=>?_;have hr6:=X.iS T;have y:=(V.rely hr5).rely hr6;have Y:=(st4.trans hr5.stepW).trans hr6.stepW;obtain⟨H,V5⟩:=hl i;have hLl:∃L,s6.β[σ.length]?=aa L/\L.v=.func (.yield (r+1)) #[] #[]:=by
  obtain⟨B',L',k1,k2,k3⟩:=Y.box σ.length (.loop N φ rr) L1 (show(σ++[bg.loop N φ rr])[σ.length]?=_ from List.getElem?_concat_length) (by show(d.β++[L1])[σ.length]?=_;rw[<-j.len,gp (bh _)];simp)
  rw[H]at k1;cases k1;exact⟨L',k2,k3⟩
 obtain⟨E,fn6,df6,p1,p2,p3,p4,p5⟩:=y.Bg H hLl;obtain⟨q1,q2⟩:=y.Bh (r':={r' i with state:=.exhausted}) (B':=.dead) H p1 p2 p3 p4 p5 (.inl rfl);refine⟨_,_,_,Fv p2 V5,⟨⟨_,_,y,q1,q2⟩,fj.seen (.two (pR (bP p1) (by simp)) (pR (bP p1) (by simp)))⟩,?_⟩;have g:=Y.trans (q2.nN y);generalize hs7:({s6 with w:={s6.w with heap:=s6.w.heap.setIfInBounds (r+1) (.loop {{r' i with state:=.exhausted}with tmps:=E,fn:=fn6,defers:=df6})}}:St)=s7 at q1 q2 g;have h7r:s7.own r:=by rw[g.own];grind
 have h7d:s7.w.heap[r]?=aa (.deferred (aa [])):=by rw[g.fA r (.inr rfl)];exact R
 have h7M:∀o,s7.M r o=ae:=λo=>by rw[g.jo r (by grind) (λL hL=>(hD.own r (.inr rfl)).2 L hL)];grind
 obtain⟨t1,t2⟩:=q1.iW (r:=r) (o:=d.own) h7r (λb m=>by rw[g.own];grind) (λZ=>by have:=(j.own r Z).1;omega) h7M h7d;refine .ghost t2 ?_;have J:c6 σ d ((σ' i).set σ.length .dead++[.rX]) {s7 with β:=s7.β++[⟨.int .i64 r,[r]⟩],own:=d.own}:=by
  refine⟨?_,λb m=>?_,λb o v x=>g.mem b o v x,λb m hn o=>?_,λL hL b m=>?_,λl B L hB hL=>?_,g.os,g.tape,g.output,rfl⟩
  .grind
  .show s7.w.heap[b]?=_;rw[g.fA b (.inl m)];exact U b (j.own b m).1
  .show s7.M b o=_;rw[g.jo b (by grind) (λL hL=>?_)];grind
  .simp only[fz,fO]at hL;rcases hL with hL|rfl
   .rcases g.wu L hL b m with h1|⟨L0,h1,h2⟩
    .grind
    grind
   grind
  .have So:=(bX.1 hB).1;have Yw:=(bX.1 hL).1;obtain⟨B',L',k1,k2,k3⟩:=g.box l B L (by grind) (by grind);grind
 have fF:cx N ((σ' i).set σ.length .dead++[.rX]) {s7 with β:=s7.β++[⟨.int .i64 r,[r]⟩],own:=d.own} φ {a with defers:={target:=.collected r,args:=#[]}::a.defers}:=by
  have x:=f1.mono J j.len;obtain⟨ls,Tb⟩:=f1.defers;refine⟨x.size,⟨((σ' i).set σ.length .dead).length::ls,⟨⟨?_,⟨.int .i64 r,[r]⟩,r,?_,rfl,rfl⟩,λZ=>?_,Tb.mono J.ext⟩⟩,x.slot⟩
  .grind
  .show (s7.β++_)[_]?=_;rw[<-q1.len,gp (bh _)];simp
  .have h1:=Tb.Da _ Z;grind
 obtain⟨e,p,hq⟩:=k i;have q:=hQ e φ _ _ _ hq fF t1 (hr.stepW.trans J);revert p;show Hp (r' i).pending=aa e->fL X S (G (b.aT _ (((r' i).pending.map Item.code).toList++kk)) cs) _;intro p;cases hp:(r' i).pending with
 |none=>rw[hp]at p;cases p;exact q
 |some c =>
  rw[hp]at p;cases c<;>simp only[Hp,reduceCtorEq,dn]at p
  .subst p;exact q [] (λ_=>rfl)
  .subst p;exact q kk
def cx.callee{t:Nat}{F:aH}(hl:look φ t=.e (.one (.c (.fn (.func F) [] cap)))):∀s a,cx N σ s φ a->aE σ s->∃b:List ai,a.eval (.tmp t)=.func (.func F) #[] b.toArray/\cp σ s b (fY cap):=by
 intro s a d _;have h:=d.slot t;rw[hl]at h;have h:=fe h;show ∃b:List ai,a.tmps.getD t ah=.func (.func F) #[] b.toArray/\_;generalize a.tmps.getD t ah=v at h;cases h with
 |fn fs cs hl ES f1 f2 h1 h2 r1 r2 =>
  grind[nU]
def ek.Fx{f:aH}{fn:Func}{args:List D}{σ':ι->List bg}(l:P.funcs[f]?=aa fn)(d:(fn.name== "runtime.NumGoroutine")=af)(m:fn.body=aa c)(g:bD args.length fn.ntmps=ab)(h:Fits args σ->lA X fn.ntmps c (λe φ σ1=>∃j,cz fn σ.length (res j) (σ' j) e φ σ1) (js 0 args) σ):ek X f args σ res σ':=by refine⟨⟨fn,l,d,by grind⟩,λs0 vs hr hh=>?_⟩;exact(ek.Ry l d m (dr g) λs a f i b k cs S hk Pn hQ=>h ⟨s0,vs,hr,hh⟩ s a f i b k cs S hk Pn hQ).2 s0 vs hr hh
def Zt(fn:Func)(res:D)(σ':List bg):Post:=λe φ σ1 =>
 (e=.ret∨e=.normal)/\σ1=σ'/\lX σ'=ab/\∃ds d ps,zc φ fn.results.toList=aa ds/\ta ds=aa d/\ET d res=aa ps/\au ps
def ek.Lc{f:aH}{fn:Func}{args:List D}{σ':ι->List bg}(p:P.funcs[f]?=aa fn)(k:(fn.name== "runtime.NumGoroutine")=af)(x:fn.body=aa c)(g:bD args.length fn.ntmps=ab)(h:AW X fn.ntmps c (λe φ σ1=>∃j,Zt fn (res j) (σ' j) e φ σ1) (js 0 args) σ):ek X f args σ res σ':=by
 refine⟨⟨fn,p,k,by grind⟩,λs vs hr hh S cs hS=>?_⟩;obtain⟨hl,y⟩:=cp.get hr;let b:aX:={fn:=f,tmps:=#[],todo:=[],defers:=[],mode:=.run,kind:=.normal,roundOf:=ae}
 have a:Frame.enter P f vs.toArray .normal=b.aT {tmps:=vs.toArray++Array.replicate (fn.ntmps-vs.toArray.size) ah,defers:=[]} [.code c]:=by simp[Frame.enter,Frame.aT,p,x,b]
 rw[a];have g:=dr g;refine h s {tmps:=vs.toArray++Array.replicate (fn.ntmps-vs.toArray.size) ah,defers:=[]} ⟨by grind,⟨[],ak⟩,λt=>?_⟩ hh b [] cs S (by simp[b]) ?_
 .rw[oP];simp only[jc,b6,l7];have:=y t;rcases cN t vs.length with C|A
  .have e:(vs.toArray++Array.replicate (fn.ntmps-vs.toArray.size) ah).getD t ah=(vs[t]?).getD ah:=by simp only[ef];grind
   grind
  .rw[rV (by omega)];trivial
 .rintro e φ' σ1 s1 a1 ⟨I,o,rfl,n,ds,d,ps,h1,h2,u,E⟩ z m st;have fin:∀(fr:aX) s2,cw s1 s2->fr.fn=f->fr.tmps=a1.tmps->fr.defers=a1.defers->fr.mode=.returning->fr.kind=.normal->fL X S (G fr cs) s2:=by
   intro fr s2 ua e1 e2 e3 e4 e5;have q:=z.rely ua m;obtain⟨v,r,F,J⟩:=vf (P:=P) q h1 h2;obtain⟨ls,i⟩:=q.defers;have H:a1.defers=[]:=by
    cases ls with
    |nil=>cases B:a1.defers with
     |nil=>rfl
     |cons d ds=>rw[B]at i;exact i.elim
    |cons l ls=>exact absurd rfl (nW n _ (bP (i.Da l (by simp))))
   refine hS I fr v _ ⟨e1,e4,by grind,e5,fn,by grind,λw _=>?_⟩ (oQ u E F) (m.rely ua) (st.trans ua.stepW);rw[e2];exact⟨r w,λe o=>by rw[J w #[]]at o;grind⟩
  rcases o with rfl|rfl
  .intro pre;exact .ctl m rfl (λ_=>E3 rfl) λs2 ua=>fin _ s2 ua rfl rfl (iw _) rfl rfl
  .exact .ctl m rfl (λ_=>E4 rfl) λs2 ua=>fin _ s2 ua rfl rfl (iw _) rfl rfl
end
structure LF{P:aJ}(X:Cx P)(N:Nat)(ops:Array aC)(φ:Fr)(σ:List bg)(x:Nat->D)(c:Nat->Fr)(idx:Nat->Option Nat)(last:Nat):Prop where
 back:∀i o,ops[i]?=aa o->∀e∈o.after,dv e=ab->e.on<i
 Kw:∀i o d,ops[i]?=aa o->o.dst=aa d->idx d=aa i/\d<N
 zd:∀d i,idx d=aa i->∃o,ops[i]?=aa o/\o.dst=aa d
 one:∀i o,ops[i]?=aa o->i≠last->OA X N ops.toList o (c i) σ (x i) σ
 UZ:∀i o,ops[i]?=aa o->i≠last->∀t σ s v,du σ s v (match idx t with|some j=>(if ∃e∈o.after,dv e=ab/\e.on=j then x j else .any)|none=>look φ t)->du σ s v (look (c i) t)
 lst:∀o,ops[last]?=aa o->∀j,j<ops.size->j≠last->∃e∈o.after,dv e=ab/\e.on=j
 has:last<ops.size
section
variable {X:Cx P}{x:Nat->D}{c:Nat->Fr}{idx:Nat->Option Nat}{last:Nat}
theorem Di{a t:Nat}(h:∀i,i<ops.size->L.getD i ab=ab):Region.linearise.go .any ops a t L []=[]:=by
 cases a with
 |zero=>exact xi t L
 |succ n =>
  have b:ba .any ops L=[]:=by
   cases b:ba .any ops L with
   |nil=>rfl
   |cons y d =>
    have e:y∈ba .any ops L:=by grind
    grind[mem_ready]
  grind[pT]
def LF.arr(h:LF X N ops φ σ x c idx last){T:ar->St->Prop}{b:aX}{kk:List Item}(M:b.kind≠.early){s0:St}(hQ:∀s a,a.tmps.size=N->(∀t,du σ s (a.tmps.getD t ah) (match idx t with|some j=>if j=last then .any else x j|none=>look φ t))->a.defers=[]->aE σ s->c6 σ s0 σ s->fL X T (G (b.aT a (.inRegion ops [last]::kk)) cs) s):
  ∀(f:Nat) (L:Array Bool),L.size=ops.size->(L.toList.filter (λb=>!b)).length<=f->¬L.getD last af=ab ->
   (∀i o,ops[i]?=aa o->L.getD i af=ab->∀e∈o.after,dv e=ab->L.getD e.on af=ab) ->
   ∀(s:St) (a:Act),J1 N σ s (gF φ x idx L) a->a.defers=[]->aE σ s->c6 σ s0 σ s ->
   ∀t,fL X T (G (b.aT a (.inRegion ops (Region.linearise.go .any ops f t L [])::kk)) cs) s:=by
 intro f;induction f with
 |zero =>
  intro L hs hf m U s a g I hh st t;exfalso;have hm:L[last]'(by have:=h.has;omega)∈L.toList:=by simp
  have W:=h.has;cases M:L[last]'(by omega)with
  |true=>exact m (by simp[ef,gq (by omega:last<L.size),M])
  |false =>
   have:L[last]'(by omega)∈L.toList.filter (λb=>!b):=gN.2 ⟨hm,by grind⟩;grind
 |succ f ih =>
  intro L hs hf m U s a g I hh st t;rw[pT];cases H:(ba .any ops L)[t % (ba .any ops L).length]? with
  |none =>
   exfalso;have hr:ba .any ops L=[]:=by
    cases hr:ba .any ops L with
    |nil=>rfl
    |cons y ys =>
     grind[Nat.mod_lt]
   have K:∀i,i<ops.size->L.getD i af=ab:=by
    intro i;induction i using Nat.strongRecOn with
    |_ i ihi =>
     intro hi;cases M:L.getD i af with
     |true=>rfl
     |false =>
      have hm:i∈ba .any ops L:=mem_ready.2 ⟨ops[i],gq hi,by
       grind,λe Z B=>by
       have:=h.back i _ (gq hi) e Z B
       grind⟩
      grind
   exact m (K last h.has)
  |some i =>
   have hi:=bP H;obtain⟨o,C,X2,SD⟩:=mem_ready.1 hi;have W:i<ops.size:=(iJ.1 C).1;have J:¬L.getD i af=ab:=by grind
   by_cases z:i=last
   .subst z;have A:Region.linearise.go .any ops f (t / (ba .any ops L).length) (L.setIfInBounds i ab) []=[]:=by
     refine Di λj hj=>?_;have hj2:(L.setIfInBounds i ab).getD j af=ab:=by
      rw[eW (by omega)];by_cases e:j=i
      .grind
      .obtain⟨ed,Z,B,rfl⟩:=h.lst o C j hj e;grind
     grind
    simp only[A];refine hQ s a g.size (λt=>?_) I hh st;have:=g.slot t;unfold gF at this;cases k:idx t with
    |none=>grind
    |some j =>
     simp only[k]at this⊢;obtain⟨oj,u,_⟩:=h.zd _ _ k;by_cases e:j=i
     .rw[bo e];trivial
     .rw[aY e];obtain⟨ed,Z,B,rfl⟩:=h.lst o C j (iJ.1 u).1 e;grind
   have p:(L.setIfInBounds i ab).size=ops.size:=by grind
   have r:((L.setIfInBounds i ab).toList.filter (λb=>!b)).length<=f:=by
    have h1:L.toList[i]?=aa af:=by rw[AG,gq (by omega:i<L.size)];simpa[ef,gq (by omega:i<L.size)]using J
    grind[count_set]
   have F:∀j o',ops[j]?=aa o'->(L.setIfInBounds i ab).getD j af=ab->∀e∈o'.after,dv e=ab->(L.setIfInBounds i ab).getD e.on af=ab:=by grind[eW]
   have q:¬(L.setIfInBounds i ab).getD last af=ab:=by grind[eW]
   have Q:cx N σ s (c i) a:=g.Kv λt σ s v E=>h.UZ i o C z t σ s v (by
    unfold gF at E;cases k:idx t with
    |none=>grind
    |some j =>
     simp only[k]at E⊢;split
     .grind
     .trivial)
   have w:∀(s':St) (v:ai),c6 σ s σ s'->du σ s' v (x i)->J1 N σ s' (gF φ x idx (L.setIfInBounds i ab)) (a.put o.dst v):=by
    intro s' v l E;cases I:o.dst with
    |none =>
     refine⟨g.size,g.defers.imp λ_ h1=>h1.mono l.ext,λt=>?_⟩;have n:=(g.slot t).mono l.ext hh.len;simp only[Act.put];unfold gF at n⊢;cases k:idx t with
     |none=>grind
     |some j =>
      simp only[k]at n⊢;obtain⟨oj,u,R⟩:=h.zd _ _ k;grind[eW]
    |some d =>
     obtain⟨V,S⟩:=h.Kw i o d C I;refine⟨by simp[Act.put,g.size],g.defers.imp λ_ h1=>h1.mono l.ext,λt=>?_⟩;simp only[Act.put];by_cases e:d=t
     .subst e;have Y:d<a.tmps.size:=by rw[g.size];exact S
      simp only[ef,wS Y,gv];unfold gF;simp only[V];rw[bo ((eW (by omega)).2 (.inl rfl))];exact E
     .have n:=(g.slot t).mono l.ext hh.len;simp only[ef]at n⊢;rw[wT e];unfold gF at n⊢;cases k:idx t with
      |none=>grind
      |some j =>
       simp only[k]at n⊢;obtain⟨oj,u,R⟩:=h.zd _ _ k;grind[eW]
   have:=h.one i o C z s a Q hh b kk cs T i (Region.linearise.go .any ops f (t / (ba .any ops L).length) (L.setIfInBounds i ab) []) M (by grind);simp only[pJ]at this;exact this λv s' E O l=>ih _ p r q F s' _ (w _ _ l E) (by cases o.dst<;>exact I) O (st.trans l) _
theorem LF.region(h:LF X N ops φ σ x c idx last)(v:P.follows Departure.mixedOrders=ab){r:ar->St->Prop}{b:aX}{kk:List Item}(y:b.kind≠.early){s0:St}{a0:Act}{id:Nat}(f0:cx N σ s0 φ a0)(p:a0.defers=[])(n:aE σ s0)(z:∀s a,a.tmps.size=N->(∀t,du σ s (a.tmps.getD t ah) (match idx t with|some j=>if j=last then .any else x j|none=>look φ t))->a.defers=[]->aE σ s->c6 σ s0 σ s->fL X r (G (b.aT a (.inRegion ops [last]::kk)) cs) s):
  fL X r (G (b.aT a0 (.code (.region id ops ab)::kk)) cs) s0:=by
 refine .next rfl λg f=>?_;have f:=X.iS f;have e:=n.rely f;have m:=f0.rely f n;have k:Step σ g σ {g with w:={g.w with drawn:=g.w.drawn+1}}:=Step.same rfl rfl rfl rfl;have l:aE σ {g with w:={g.w with drawn:=g.w.drawn+1}}:=e.same rfl;have q:=f.stepW.trans (k.nN e);refine⟨_,{g with w:={g.w with drawn:=g.w.drawn+1}},#[],mq,⟨⟨σ,σ,e,l,k⟩,.nil⟩,?_⟩;simp only[Region.schedule,v,Bool.true_or,b6];refine h.arr y (s0:=s0) z ops.size _ (by simp) (by simp) ?_ ?_ _ a0 ?_ p l q _
 .simp[ef,nw];split<;>simp
 .intro i o A hi;simp[ef,nw]at hi;split at hi<;>simp at hi
 .have d:=m.mono (k.nN e) e.len;refine⟨d.size,d.defers,λt=>?_⟩;unfold gF;cases u:idx t with
  |none=>exact d.slot t
  |some j =>
   simp only;rw[aY]
   .exact d.slot t
   .simp[ef,nw];split<;>simp
end
def m9(X:Cx P)(N:Nat)(all:List aC)(o:aC)(φ:Fr)(σ:List bg)(x:ι->D)(σ':ι->List bg):Prop :=
 ∀s a,cx N σ s φ a->aE σ s->∀(b:aX) (k:List Item) (cs:List aX) (S:ar->St->Prop) (i:Nat) (rest:List Nat),b.kind≠.early->all.toArray[i]?=aa o ->
  (∀j v s',du (σ' j) s' v (x j)->aE (σ' j) s'->c6 σ s (σ' j) s'->fL X S (G (b.aT (a.put o.dst v) (.inRegion all.toArray rest::k)) cs) s')->fL X S (G (b.aT a (.inRegion all.toArray (i::rest)::k)) cs) s
def Bo:List aC->Nat->(Nat->D)->List (Option Nat×D)
 |[],_,_=>[]
 |o::r,i,x=>(o.dst,x i)::Bo r (i+1) x
def xL{x:Nat->D}:∀{l:List aC}{k j:Nat},(Bo l k x)[j]?=(l[j]?).map λo=>(o.dst,x (k+j))
 |[],k,j=>by simp[Bo]
 |o::r,k,0=>by simp[Bo]
 |o::r,k,j+1=>by simp only[Bo,ox];rw[xL,show k+1+j=k+(j+1) by omega]
def kC(all:List aC)(φ:Fr)(x:Nat->D)(i:Nat):Fr:=jQ (λj=>iF j (bZ (all.getD i jY).after.toList)) 0 (Bo all 0 x) (vR all φ)
def On(all:List aC)(φ:Fr)(x:Nat->D):Fr:=jQ (λ_=>ab) 0 (Bo all 0 x) (vR all φ)
def oS(N:Nat):List aC->Bool
 |[]=>ab
 |o::r=>match gm N o.dst with|true=>oS N r|false=>af
def zF{N:Nat}:∀{l:List aC},oS N l=ab->∀(i:Nat)(o:aC),l[i]?=aa o->gm N o.dst=ab
 |[],_,i,o,h=>by grind
 |p::r,h,i,o,hi=>by
  simp only[oS]at h;split at h
  .rename_i a;cases i with
   |zero=>grind
   |succ i=>exact zF h i o (by grind)
  grind
def tb:List aC->Nat->Bool
 |[],_=>ab
 |o::r,i=>match U1 i (bZ o.after.toList)with|true=>tb r (i+1)|false=>af
def Df:∀{l:List aC}{k:Nat},tb l k=ab->∀(i:Nat)(o:aC),l[i]?=aa o->∀e∈bZ o.after.toList,e<k+i
 |[],_,_,i,o,h=>by grind
 |p::r,k,h,i,o,hi=>by
  simp only[tb]at h;split at h
  .rename_i a;cases i with
   |zero=>simp at hi;subst hi;exact Fc a
   |succ i=>intro e b;have:=Df h i o (by grind) e b;omega
  grind
def Bp(pre:Nat->Bool):List Nat->Bool
 |[]=>af
 |e::r=>match pre e with|true=>Bp pre r|false=>ab
theorem zG{pre:Nat->Bool}:∀{l:List Nat},Bp pre l=ab->∃e∈l,pre e=af
 |[],h=>by cases h
 |e::r,h=>by
  simp only[Bp]at h;split at h
  .obtain⟨b,c,a⟩:=zG h;grind
  grind
def Bq(pre:Nat->Bool)(m:Nat):List aC->Nat->Bool
 |[],_=>ab
 |o::r,i=>match pre i with
  |true=>Bq pre m r (i+1)
  |false=>match aw i m with
   |true=>Bq pre m r (i+1)
   |false=>match Bp pre (bZ o.after.toList)with|true=>Bq pre m r (i+1)|false=>af
theorem Hv{pre:Nat->Bool}{m:Nat}:∀{l:List aC}{k:Nat},Bq pre m l k=ab->∀(i:Nat)(o:aC),l[i]?=aa o->pre (k+i)=af->k+i≠m->∃e∈bZ o.after.toList,pre e=af
 |[],_,_,i,o,h=>by grind
 |p::r,k,h,i,o,hi=>by
  intro b a;simp only[Bq]at h;cases i with
  |zero =>
   simp at hi;subst hi;simp only[iO]at b a;grind[Nat.eq_of_beq_eq_true,zG]
  |succ i =>
   have c:Bq pre m r (k+1)=ab:=by grind
   exact Hv c i o (by grind) (by grind) (by omega)
section
variable {X:Cx P}{idx:Nat->Option Nat}
def Ps{x:Nat->D}{a:Act}(b:∀t σ s v,du σ s v (match idx t with|some j=>(if ∃e∈o.after,dv e=ab/\e.on=j then x j else .any)|none=>look φ t)->du σ s v (look (kC ops.toList φ x i) t))(c:J1 N σ s (gF φ x idx L) a)(f:∀e∈o.after,dv e=ab->L.getD e.on af=ab):cx N σ s (kC ops.toList φ x i) a:=c.Kv λt σ s v g=>b t σ s v (by
 unfold gF at g;cases d:idx t with
 |none=>grind
 |some j =>
  simp only[d]at g⊢;split
  .grind
  .trivial)
def IS{x y:Nat->D}{σ2:List bg}{a:Act}(c:∀d,o.dst=aa d->idx d=aa i/\d<N)(p:∀d j,idx d=aa j->∃o,ops[j]?=aa o/\o.dst=aa d)(z:ops[i]?=aa o)(q:i<L.size)(r:∀j,L.getD j af=ab->y j=x j)(f:s.β.length=σ.length)(st:c6 σ s σ2 s')(b:J1 N σ s (gF φ x idx L) a)(w:du σ2 s' v (y i)):J1 N σ2 s' (gF φ y idx (L.setIfInBounds i ab)) (a.put o.dst v):=by
 have old:∀t,idx t≠aa i->du σ2 s' (a.tmps.getD t ah) (gF φ y idx (L.setIfInBounds i ab) t):=by intro t A;have n:=(b.slot t).mono st.ext f;unfold gF at n⊢;grind[eW]
 cases u:o.dst with
 |none =>
  refine⟨b.size,b.defers.imp λ_ m=>m.mono st.ext,λt=>?_⟩;refine old t λh=>?_;grind
 |some d =>
  obtain⟨l,g⟩:=c d u;refine⟨by simp[Act.put,b.size],b.defers.imp λ_ m=>m.mono st.ext,λt=>?_⟩;simp only[Act.put];by_cases e:d=t
  .subst e;have k:d<a.tmps.size:=by rw[b.size];exact g
   simp only[ef,wS k,gv];unfold gF;simp only[l];rw[bo ((eW q).2 (.inl rfl))];exact w
  .have:=old t (λh=>by grind)
   simp only[ef]at this⊢;grind
def Ll{back:∀i o,ops[i]?=aa o->∀e∈o.after,dv e=ab->e.on<i}(d:L.size=ops.size)(g:ba .any ops L=[]):∀i,i<ops.size->L.getD i af=ab:=by
 intro i;induction i using Nat.strongRecOn with
 |_ i b =>
  intro hi;cases h:L.getD i af with
  |true=>rfl
  |false =>
   have c:i∈ba .any ops L:=mem_ready.2 ⟨ops[i],gq hi,by
    grind,λe f a=>by grind⟩
   grind
def FC{t:Nat}(a:(ba .any ops L)[t % (ba .any ops L).length]?=ae):ba .any ops L=[]:=by
 cases b:ba .any ops L with
 |nil=>rfl
 |cons y c =>
  grind[Nat.mod_lt]
theorem Br(e:L.size=ops.size)(d:(L.toList.filter (λb=>!b)).length<=0):∀i,i<ops.size->L.getD i af=ab:=by
 intro i hi;have c:L[i]'(by omega)∈L.toList:=by simp
 cases a:L[i]'(by omega)with
 |true=>simp[ef,gq (by omega:i<L.size),a]
 |false =>
  have:L[i]'(by omega)∈L.toList.filter (λb=>!b):=gN.2 ⟨c,by grind⟩;grind
end
def rF(xs:List UInt8):List ai:=xs.map λx=>.int .u8 x.toNat
theorem wy{xs:List UInt8}:(rF xs).length=xs.length:=by simp[rF]
def OI{xs b:List UInt8}:rF (xs++b)=rF xs++rF b:=by simp[rF]
def pO(bf:Option (Nat×Nat))(n:Nat):ai:=match bf with|none=>.slice ae 0 0|some (g,cap)=>.slice (aa ⟨g,0,ae⟩) n cap
def BB(T E:av)(a:Bool)(v1:ai)(bf:Option (Nat×Nat))(xs:List UInt8)(f:Nat):ai->(Nat->Option Obj)->Prop:=λv d =>
 ∃b,v=.pointer (aa ⟨b,0,ae⟩)/\cO v1=ab/\d b=aa (.cells #[if a then v else .pointer ae,v1] T (0,0)) /\
 match bf with
 |none=>xs=[]/\∀c,(d c).isSome=ab↔c=b
 |some (g,cap)=>g≠b/\xs.length<=cap/\0<cap/\cap<=9223372036854775807/\f<=xs.length/\(∃e,(rF xs++e).length=cap/\d g=aa (.cells (rF xs++e).toArray E (0,f)))/\∀c,(d c).isSome=ab↔c=b∨c=g
section
variable {X:Cx P}{k:List (Nat×TI)}{T:av}{a:Bool}{v1:ai}{bf:Option (Nat×Nat)}{xs:List UInt8}{f:Nat}
structure wW(P:aJ)(σ:List bg)(s:St)(l:Nat)(T E:av)(a:Bool)(v1:ai)(bf:Option (Nat×Nat))(xs:List UInt8)(f:Nat)(L:Loc)(b:Nat)(ch:Nat->Option Obj):Prop where
 β:s.β[l]?=aa L
 v:L.v=.pointer (aa ⟨b,0,ae⟩)
 bb:BB T E a v1 bf xs f L.v ch
 heap:∀(b:Nat) (o:Obj),ch b=aa o->s.w.heap[b]?=aa o
 bs:∀b,b∈L.bs↔(ch b).isSome=ab
 M:∀b∈L.bs,∀o,s.M b o=ae
 ch:ch b=aa (.cells #[if a then L.v else .pointer ae,v1] T (0,0))
 cell:cO v1=ab
def BB.row(hh:aE σ s)(hl:σ[l]?=aa (.cj (BB T E a v1 bf xs f))):∃L b ch,wW P σ s l T E a v1 bf xs f L b ch:=by
 have c:l<s.β.length:=by rw[hh.len];grind
 have e:=bn c;generalize s.β[l]=L at e;obtain⟨ch,g,h1,h2,h⟩:=hh.box l _ L hl e;have d:=g;obtain⟨b,j,m,i,_⟩:=d;exact⟨L,b,ch,e,j,g,h1,h2,h,i,m⟩
def wW.mem{L:Loc}{ch:Nat->Option Obj}(r:wW P σ s l T E a v1 bf xs f L b ch):b∈L.bs:=(r.bs b).2 (by rw[r.ch];rfl)
def wW.ptr{L:Loc}{ch:Nat->Option Obj}(r:wW P σ s l T E a v1 bf xs f L b ch)(h:du σ s v (.e (.one (.ptr l off)))):v=.pointer (aa ⟨b,off,ae⟩):=by obtain⟨_,d,c,h1,h2,rfl⟩:=(h:gH σ s v (.ptr l off));rw[r.β]at h1;cases h1;rw[r.v]at h2;grind
def Kh(hT:cV P k){i:TI}(h:o.op=.load t x)(hi:bJ k t=aa i)(C:i.agg=af)(J:σ[l]?=aa (.cj (BB T E a v1 bf xs f))){d:D}(A:η x=.e (.one (.ptr l off)))(H:∀s L b ch,aE σ s->wW P σ s l T E a v1 bf xs f L b ch->∃v,(#[if a then L.v else .pointer ae,v1]:Array ai)[off]?=aa v/\du σ s v d):bL P o η σ d σ:=by
 refine .oM λs I u F=>?_;obtain⟨L,b,ch,r⟩:=BB.row (P:=P) u J;have z:=r.ptr (by have:=F x;rwa [A]at this);obtain⟨v,B,q⟩:=H s L b ch u r;have g:s.w.cell? ⟨b,off,ae⟩=aa v:=by simp only[aP,r.heap _ _ r.ch];grind
 have c:(loadVar t ⟨b,off,ae⟩).run P s.w=.ok v s.w:=by simp[loadVar,(hT t i hi).kP,C,run_load,g]
 refine⟨v,by simp[aq,h,z,Instr.loadAt,bt,c],q,λy m=>?_⟩;have p:y∈(loadVar t ⟨b,off,ae⟩).events P s.w #[]:=by
  have e:aq I o=(do pure (.value (<-loadVar t ⟨b,off,ae⟩))):=by simp[aq,h,z,Instr.loadAt,bt]
  rw[e]at m;simpa[c]using m
 obtain⟨j,G,rfl⟩:=gy (hT t i hi) (n:=1) (λj G=>by grind) (by grind) y p
 exact j9 (bP r.β) r.mem
def bL.fH(hT:cV P k){i:TI}(h:o.op=.load t x)(hi:bJ k t=aa i)(c:i.agg=af)(hl:σ[l]?=aa (.cj (BB T E a v1 bf xs f)))(d:η x=.e (.one (.ptr l 1))):bL P o η σ (.e (.one (.v v1))) σ :=
 Kh hT h hi c hl d λs L b ch hh r=>⟨v1,by simp,Rd.val r.cell⟩
def OJ(b:σ[l]?=aa (.cj H)):∀B,σ[l]?=aa B->B.gr=af:=by intro B h;rw[b]at h;cases h;rfl
def bL.Ki(hT:cV P k){i:TI}(h:o.op=.load t x)(hi:bJ k t=aa i)(c:i.agg=af)(hl:σ[l]?=aa (.cj (BB T E ab v1 bf xs f)))(d:η x=.e (.one (.ptr l 0))):bL P o η σ (.e (.one (.ptr l 0))) σ :=
 Kh hT h hi c hl d λs L b ch hh r=>⟨L.v,by simp,OJ hl,L,b,r.β,r.v,r.v⟩
def bL.Sr(hT:cV P k){i:TI}(h:o.op=.load t x)(hi:bJ k t=aa i)(d:i.agg=af)(hl:σ[l]?=aa (.cj (BB T E af v1 bf xs f)))(g:η x=.e (.one (.ptr l 0))):bL P o η σ (.e (.one (.c .iD))) σ :=
 Kh hT h hi d hl g λs L b ch hh r=>⟨.pointer ae,by simp,Rd.iD⟩
def setRow_size(w:ay)(b:Nat)(row:Array ai):(w.setRow b row).heap.size=w.heap.size:=by simp[World.setRow]
def Kj(hT:cV P k){i:TI}(h:o.op=.store t x y)(hi:bJ k t=aa i)(G:i.size=1)(W:σ[l]?=aa (.cj (BB T E a v1 bf xs f))){c:Bool}{d:ai}(hx:η x=.e (.one (.ptr l off)))(ho:off<2)(hc:cO d=ab)(hd:∀s L b ch v,aE σ s->wW P σ s l T E a v1 bf xs f L b ch->du σ s v (η y)->cO v=ab/\(#[if a then L.v else .pointer ae,v1]:Array ai).setIfInBounds off v=#[if c then L.v else .pointer ae,d]):bL P o η σ .any (σ.set l (.cj (BB T E c d bf xs f))):=by
 intro s q K Y;obtain⟨L,b,ch,r⟩:=BB.row (P:=P) K W;have H:=r.ptr (by have:=Y x;rwa [hx]at this);obtain⟨C,D⟩:=hd s L b ch (q y) K r (Y y);have p:(q y).cells=#[q y]:=by cases N:q y<;>simp[N,cO,Value.cells]at C⊢
 have A:∀v∈[q y],v.oneCell'=ab:=by intro v H;simp at H;subst H;cases N:q y<;>simp[N,cO,Value.oneCell']at C⊢
 have n:=r.heap _ _ r.ch;have J:=run_storeCells_at P b off T [q y] 0 _ s.w n (by grind) A;have B:((#[if a then L.v else .pointer ae,v1]:Array ai).toList.take (off+0)++[q y]++(#[if a then L.v else .pointer ae,v1]:Array ai).toList.drop (off+0+[q y].length)).toArray=#[if c then L.v else .pointer ae,d]:=by
  rw[<-D]
  match off,ho with
  |0,_=>grind
  |1,_=>grind
 rw[B]at J;have S:(s.w.setRow b #[if c then L.v else .pointer ae,d]).heap[b]?=aa (.cells #[if c then L.v else .pointer ae,d] T (0,0)):=setRow_heap s.w b _ _ T _ n;have z:∀g,g≠b->(s.w.setRow b #[if c then L.v else .pointer ae,d]).heap[g]?=s.w.heap[g]?:=λg m=>setRow_other s.w b g _ m;obtain⟨Z,R⟩:=K.jX (l:=l) (H':=BB T E c d bf xs f) (L':=L) (w':=s.w.setRow b #[if c then L.v else .pointer ae,d]) W r.β rfl (by rw[setRow_size];grind)
  (λg m hn=>z g (by rintro rfl;exact hn r.mem)) (λg m=>.inl m)
  ⟨λg=>if g=b then aa (.cells #[if c then L.v else .pointer ae,d] T (0,0))else ch g,by
   obtain⟨Q,V,q2,q3,q4⟩:=r.bb;have:Q=b:=by rw[r.v]at V;grind
   subst this;have O:∀g,(if g=Q then aa (Obj.cells #[if c then L.v else .pointer ae,d] T (0,0))else ch g).isSome=ab↔(ch g).isSome=ab:=by grind
   refine⟨Q,V,hc,by simp,?_⟩;grind,λg o' m=>by
   by_cases e:g=b
   .grind
   .simp only[e,cg]at m;rw[z g e];exact r.heap _ _ m,λg=>by
   rw[r.bs g];by_cases e:g=b
   .subst e;simp[r.ch]
   grind⟩ rfl rfl rfl
 have I:s.β.set l L=s.β:=by
  apply ji;intro j;by_cases e:l=j
  .subst e;rw[gu (bX.1 r.β).1,r.β]
  grind
 rw[I]at Z R;refine⟨.skip,{s with w:=s.w.setRow b #[if c then L.v else .pointer ae,d]},?_,rfl,Z,R,?_⟩
 .simp[aq,h,H,Instr.storeAt,bt,storeVar,(hT t i hi).run_sizeOf,G,p,J]
 .intro U u;have e:aq q o=(do storeVar t ⟨b,off,ae⟩ (q y);pure .skip):=by simp[aq,h,H,Instr.storeAt,bt]
  rw[e]at u;have F:U∈(storeCells ⟨b,off,ae⟩ [q y]).events P s.w #[]:=by
   simp only[storeVar,aR,(hT t i hi).run_sizeOf,p,G,aV,events_sizeOf,dz,fx,cg,bT,cu,Sem.events_pure,List.size_toArray,iK]at u;generalize(storeCells ⟨b,off,ae⟩ [q y]).run P s.w=r at u;cases r with
   |ok v w'=>simpa using u
   |halt x w'=>simpa using u
  rcases dT [q y] 0 _ s.w #[] n (by grind) A U F with Om|⟨j,_,_,rfl⟩
  .grind
  .exact j7 (bP r.β) r.mem (r.M _ r.mem _)
def bL.AQ(hT:cV P k){i:TI}(h:o.op=.store t x y)(hi:bJ k t=aa i)(d:i.size=1)(hl:σ[l]?=aa (.cj (BB T E a v1 bf xs f))){c:ai}(j:η x=.e (.one (.ptr l 1)))(m:η y=.e (.one (.v c)))(n:cO c=ab):bL P o η σ .any (σ.set l (.cj (BB T E a c bf xs f))) :=
 Kj hT h hi d hl j (by omega) n λs L b ch v hh r g=>by rw[m]at g;have:=Rd.eu g;grind
def bL.OK(hT:cV P k){i:TI}(h:o.op=.store t x y)(hi:bJ k t=aa i)(c:i.size=1)(hl:σ[l]?=aa (.cj (BB T E a v1 bf xs f)))(g:η x=.e (.one (.ptr l 0)))(j:η y=.e (.one (.ptr l 0)))(m:cO v1=ab):bL P o η σ .any (σ.set l (.cj (BB T E ab v1 bf xs f))) :=
 Kj hT h hi c hl g (by omega) m λs L b ch v hh r d=>by rw[j]at d;have:=r.ptr d;subst this;refine⟨rfl,?_⟩;rw[<-r.v];rfl
def bL.Ss{T:av}(h:o.op=.alloc T)(j:∀w,(zeroValue T).run P w=.ok (.agg #[.pointer ae,.slice ae 0 0]) w)(i:∀w es,(zeroValue T).events P w es=es):bL P o η σ (.e (.one (.ptr σ.length 0))) (σ++[.cj (BB T E af (.slice ae 0 0) ae [] 0)]):=by
 intro s x hh hr;let w':=s.w.alloc (.cells #[.pointer ae,.slice ae 0 0] T);obtain⟨u,q⟩:=hh.grow (M':=s.M) (w':=w') (by simp[w']) (λb n=>cT s.w _ n) (λ_ _ _=>rfl) (λb n o v g=>by have:=hh.block g;omega) rfl rfl rfl;have r:w'.heap.size=s.w.heap.size+1:=by simp[w']
 have l:w'.heap[s.w.heap.size]?=aa (.cells #[.pointer ae,.slice ae 0 0] T (0,0)):=dX s.w _;obtain⟨t,p⟩:=u.iy q rfl hh (B:=.cj (BB T E af (.slice ae 0 0) ae [] 0)) (L:=⟨.pointer (aa ⟨s.w.heap.size,0,ae⟩),[s.w.heap.size]⟩)
  ⟨λd=>if d=s.w.heap.size then aa (.cells #[.pointer ae,.slice ae 0 0] T (0,0))else ae,⟨s.w.heap.size,rfl,rfl,by simp,rfl,λd=>by by_cases e:d=s.w.heap.size<;>simp[e]⟩,λd m c=>by
   grind,λd=>by by_cases e:d=s.w.heap.size<;>simp[e],λd c m=>by
   simp at c;subst c;show s.M _ _=ae;cases g:s.M s.w.heap.size m with
   |none=>rfl
   |some v=>have:=hh.block g;omega⟩ (λd c=>by grind)
 refine⟨.value (.pointer (aa ⟨s.w.heap.size,0,ae⟩)),_,?_,⟨by simp,⟨.pointer (aa ⟨s.w.heap.size,0,ae⟩),[s.w.heap.size]⟩,s.w.heap.size,?_,rfl,rfl⟩,t,p,?_⟩
 .simp[aq,h,Instr.alloc,j,Go.newVar,newRow,Value.cells,w']
 .simp[<-hh.len]
 .simp[aq,h,Instr.alloc,j,i,Go.newVar,newRow];exact .nil
end
section
variable {X:Cx P}{q:List (Nat×TI)}{T:av}{d:Bool}{v1:ai}{bf:Option (Nat×Nat)}{xs:List UInt8}{k:Nat}
def pP{P:aJ}{b o:Nat}{t:av}{k:Nat×Nat}:∀(vs:List ai)(i:Nat)(a:Array ai)(w:ay)(es:Array Event),w.heap[b]?=aa (.cells a t k)->k.2<=o+i->o+i+vs.length<=a.size->(∀v∈vs,v.oneCell'=ab) ->
  ∀e∈(storeCells ⟨b,o,ae⟩ vs i).events P w es,e∈es∨∃j,i<=j/\j<i+vs.length/\e=Ix b (o+j)
 |[],_,_,_,_,_,_,_,_=>λe h=>.inl (by simpa[storeCells]using h)
 |v::rest,i,a,w,es,m,p,A,n=>λe h=>by
  have hi:o+i<a.size:=by grind
  have c:w.cell? ⟨b,o+i,ae⟩=aa a[o+i]:=by simp[aP,m,hi]
  have f:w.frozen? ⟨b,o+i,ae⟩=af:=by obtain⟨lo,r⟩:=k;simp only[World.frozen?,m,qx,bR];grind
  have l:(store (⟨b,o+i,ae⟩:Addr) v).run P w=.ok () (w.setRow b (a.setIfInBounds (o+i) v)):=by grind[run_store,setCell_eq_setRow]
  have g:(store (⟨b,o+i,ae⟩:Addr) v).events P w es=es.push (Ix b (o+i)):=by rw[events_store P w es _ v _ (n v (by simp)),c];simp only[f,jZ,cg];rfl
  simp only[storeCells,aR,dw,l,g,aV]at h;rcases pP rest (i+1) (a.setIfInBounds (o+i) v) _ _ (setRow_heap _ _ _ _ _ _ m) (by omega) (by grind) (λu z=>n u (by grind)) e h with s|⟨j,y,x,rfl⟩
  .grind
  grind
def wW.at{L:Loc}{b g cap:Nat}{ch:Nat->Option Obj}(r:wW P σ s l T E d v1 (aa (g,cap)) xs k L b ch):
  g≠b/\xs.length<=cap/\0<cap/\cap<=9223372036854775807/\k<=xs.length/\(∃a,(rF xs++a).length=cap/\ch g=aa (.cells (rF xs++a).toArray E (0,k)))/\(∀c,(ch c).isSome=ab↔c=b∨c=g)/\g∈L.bs:=by
 obtain⟨f,i,_,_,a1,a2,a3,a4,a5,a6,h⟩:=r.bb;have:f=b:=by rw[r.v]at i;grind
 subst this;obtain⟨a,a6,e⟩:=a6;exact⟨a1,a2,a3,a4,a5,⟨a,a6,e⟩,h,(r.bs g).2 (by grind)⟩
def Kk{L:Loc}(h:s.β[l]?=aa L):s.β.set l L=s.β:=by apply ji;grind
def wW.jX{L:Loc}{b g cap:Nat}{ch:Nat->Option Obj}(hh:aE σ s)(hl:σ[l]?=aa (.cj (BB T E d v1 (aa (g,cap)) xs k)))(r:wW P σ s l T E d v1 (aa (g,cap)) xs k L b ch){xs':List UInt8}{fz':Nat}{zs':List ai}{w':ay}(f:(rF xs'++zs').length=cap)(i:xs'.length<=cap)(j:fz'<=xs'.length)(n:w'.heap.size=s.w.heap.size)(hk:∀a,a≠g->w'.heap[a]?=s.w.heap[a]?)(B:w'.heap[g]?=aa (.cells (rF xs'++zs').toArray E (0,fz')))(o:w'.os=s.w.os)(u:w'.tape=s.w.tape)(t:w'.output=s.w.output):
  aE (σ.set l (.cj (BB T E d v1 (aa (g,cap)) xs' fz'))) {s with w:=w'}/\Step σ s (σ.set l (.cj (BB T E d v1 (aa (g,cap)) xs' fz'))) {s with w:=w'}:=by
 obtain⟨a1,a2,a3,a4,a5,⟨A,a6,x⟩,C,m⟩:=r.at;obtain⟨p,h⟩:=hh.jX (l:=l) (H':=BB T E d v1 (aa (g,cap)) xs' fz') (L':=L) (w':=w') hl r.β rfl (by omega)
  (λa c y=>hk a (by grind)) (λa c=>.inl c)
  ⟨λa=>if a=g then aa (.cells (rF xs'++zs').toArray E (0,fz'))else ch a,⟨b,r.v,r.cell,(show(if b=g then _ else ch b)=_ from(aY λe=>a1 e.symm).trans r.ch),a1,i,a3,a4,j,⟨zs',f,by simp⟩,λa=>by
   grind⟩,λa z c=>by
   by_cases e:a=g
   .grind
   .simp only[e,cg]at c;rw[hk a e];exact r.heap _ _ c,λa=>by
   rw[r.bs a]
   grind⟩ o u t
 rw[Kk r.β]at p h;grind
def bL.OL{J:av}(U:o.op=.call {callee:=.builtin .append,args:=#[x,y],argTypes:=#[t,J]}){ie:TypeInfo}(V:P.underlying t=aa (.slice E))(C:P.underlying J=aa .string)(H:P.info? E=aa ie)(z:ie.size=1){g cap:Nat}(hl:σ[l]?=aa (.cj (BB T E d v1 (aa (g,cap)) xs k)))(hx:η x=.e (.one (.v (pO (aa (g,cap)) n))))(hn:xs.length=n){str:List UInt8}(hy:η y=.e (.one (.c (.str str))))(Yv:n+str.length<=cap):
  bL P o η σ (.e (.one (.v (pO (aa (g,cap)) (n+str.length))))) (σ.set l (.cj (BB T E d v1 (aa (g,cap)) (xs++str) k))):=by
 intro s ρ hh hr;subst hn;obtain⟨L,b,ch,r⟩:=BB.row (P:=P) hh hl;obtain⟨a1,a2,a3,a4,a5,⟨a,a6,a7⟩,a8,A⟩:=r.at;have I:=hr x;rw[hx]at I;have I:=Rd.eu I;have F:=hr y;rw[hy]at F;have F:=fe F;generalize B:ρ y=vy at F;cases F with
 |@str sb _ W S =>
 have G:sb.size=str.length:=by rw[<-W,jK];rfl
 have K:=r.heap _ _ a7;have Z:(rF xs++a).toArray.size=cap:=by grind
 have p:=Lib.run_append_room_stringF (P:=P) s.w t J o.type E ie V C H z g xs.length cap _ _ K a5 sb (by omega) (by grind);have D:((rF xs++a).toArray.toList.take xs.length++Lib.strCells sb++(rF xs++a).toArray.toList.drop (xs.length+sb.size))=rF (xs++str)++a.drop str.length:=by
  have e1:(rF xs++a).take xs.length=rF xs:=by grind[wy]
  have e2:(rF xs++a).drop (xs.length+sb.size)=a.drop str.length:=by rw[List.drop_append,wy,wh (by grind),G];simp
  have e3:Lib.strCells sb=rF str:=by simp[Lib.strCells,rF,W]
  rw[List.toList_toArray,e1,e2,e3,OI]
 rw[D,G]at p;have hlz:a.length=cap-xs.length:=by grind[wy]
 have i:(rF (xs++str)++a.drop str.length).length=cap:=by grind[wy]
 have u:(s.w.setRow g (rF (xs++str)++a.drop str.length).toArray).heap[g]?=aa (.cells (rF (xs++str)++a.drop str.length).toArray E (0,k)):=setRow_heap s.w g _ _ E _ K;obtain⟨t1,O⟩:=r.jX (fz':=k) (w':=s.w.setRow g (rF (xs++str)++a.drop str.length).toArray) hh hl i (by grind) (by grind) (setRow_size _ _ _) (λb' Q=>setRow_other s.w g b' _ Q) u rfl rfl rfl;refine⟨.value (.slice (aa ⟨g,0,ae⟩) (xs.length+str.length) cap),_,?_,Rd.val rfl,t1,O,?_⟩
 .rw[dq U,I,B];simp only[bT,dE];have m:(Builtin.append_ #[t,J] o.type #[pO (aa (g,cap)) xs.length,.string sb]).run P s.w=_:=p;rw[m];rfl
 .rw[dq U,I,B];refine eU λe Y=>?_;have hf:=Lib.run_firstCells_string (P:=P) s.w 1 sb;have R:=run_storeCells_atF P g xs.length E (0,k) (Lib.strCells sb) 0 _ s.w K (by grind) (by grind) (Lib.strCells_oneCell sb);have f:xs.length+sb.size<=cap:=by omega
  have N:(Builtin.firstCells 1 sb.size (.string sb)).events P s.w #[]=#[]:=rfl;simp[pO,Builtin.append_,run_underlying V,run_underlying C,sizeOf,typeInfo,H,z,Builtin.lenOf,f,hf,N,dw,R]at Y;rcases pP (Lib.strCells sb) 0 _ s.w _ K (by grind) (by grind) (Lib.strCells_oneCell sb) e Y with h|⟨j,h1,h2,rfl⟩
  .grind
  .exact j7 (bP r.β) A (r.M _ A _)
def bL.Kl{m:av}(p:o.op=.call {callee:=.builtin .append,args:=#[x,y],argTypes:=#[t,m]}){ie:TypeInfo}(r:P.underlying t=aa (.slice E))(g:P.underlying m=aa .string)(h:P.info? E=aa ie)(u:η x=.e (.one (.v (pO ae 0))))(z:η y=.e (.one (.c (.str [])))):bL P o η σ (.e (.one (.v (pO ae 0)))) σ:=by
 refine .quiet λs A hh hr=>?_;have i:=hr x;rw[u]at i;have i:=Rd.eu i;have f:=hr y;rw[z]at f;have f:=fe f;generalize b:A y=vy at f;cases f with
 |@str sb _ B n =>
 have a:sb.size=0:=by
  have:sb.data.toList.length=0:=by grind
  rw[jK]at this;exact this
 have l:=Lib.run_firstCells_string (P:=P) s.w ie.size sb;rw[a]at l;have j:(Builtin.firstCells ie.size 0 (.string sb)).events P s.w #[]=#[]:=rfl;refine⟨.slice ae 0 0,?_,Rd.val rfl,?_⟩
 .rw[dq p,i,b];simp[pO,Builtin.append_,run_underlying r,run_underlying g,sizeOf,typeInfo,h,Builtin.lenOf,a,l]
 .rw[dq p,i,b];simp[pO,Builtin.append_,run_underlying r,run_underlying g,sizeOf,typeInfo,h,Builtin.lenOf,a,l,j]
def Vs{f:aH}{fn:Func}{ps:Array av}(ht:P.underlying t=aa (.slice E))(W:P.funcs[f]?=aa fn)(B:(fn.name== "runtime.NumGoroutine")=af)(hb:fn.body.isNone=ab)(K:Extern.findNext fn=ae)(I:Extern.find fn=aa (Extern.BytealgMakeNoZero.makeNoZero ps #[t]))(Z:o.op=.call {callee:=.value fo,args:=#[x],argTypes:=jU})(R:η fo=.e (.one (.c (.fn (.func f) [] []))))(hx:η x=.e (.one (.c (.int .i64 n))))(h0:0<n)(Y:n<=140737488355328)(hl:σ[l]?=aa (.cj (BB T E d v1 ae xs k))):
  ∀s A,aE σ s->(∀y,du σ s (A y) (η y))->∃(j:{p:Nat×Nat // n<=p.2}) (s':St) (v:ai),(aq A o).run P s.w=.ok (.value v) s'.w/\du (σ.set l (.cj (BB T E d v1 (aa j.1) [] 0))) s' v (.e (.one (.v (pO (aa j.1) n)))) /\
   aE (σ.set l (.cj (BB T E d v1 (aa j.1) [] 0))) s'/\Step σ s (σ.set l (.cj (BB T E d v1 (aa j.1) [] 0))) s'/\fj s ((aq A o).events P s.w #[]):=by
 intro s A M hr;obtain⟨L,b,ch,r⟩:=BB.row (P:=P) M hl;have D:A fo=.func (.func f) #[] #[]:=by
  have g:=hr fo;rw[R]at g;have g:=fe g;generalize A fo=v at g;cases g with
  |fn fs cs a b f1 f2 c1 c2 d1 d2 =>
   grind
 have F:A x=.int .i64 n:=by have g:=hr x;rw[hx]at g;have g:=fe g;generalize A x=v at g;cases g;rfl
 obtain⟨cs,g,S,Q⟩:=Lib.run_makeNoZero (P:=P) s.w ps t E ht n (by omega);have Q:=Q (by simp only[maxLen];omega);have C:(callFunc f #[.int .i64 n]).run P s.w=.ok (.value (.slice (aa ⟨s.w.heap.size,0,ae⟩) n cs.size)) (s.w.drew.drew.alloc (.cells cs E)):=by rw[run_callFunc_extern W B hb K I,g];rfl
 let w':ay:=s.w.drew.drew.alloc (.cells cs E);have OM:w'.heap[s.w.heap.size]?=aa (.cells cs E (0,0)):=dX s.w.drew.drew _;have JX:w'.heap.size=s.w.heap.size+1:=by show(s.w.drew.drew.heap.push _).size=_;simp
 obtain⟨z,q1,q2,q3,q4⟩:=r.bb;have U:z=b:=by rw[r.v]at q1;grind
 subst U;have G:z<s.w.heap.size:=M.lt L (bP r.β) z r.mem;have J:s.w.heap.size≠z:=by omega
 obtain⟨t1,t2⟩:=M.jX (l:=l) (H':=BB T E d v1 (aa (s.w.heap.size,cs.size)) [] 0) (L':=⟨L.v,[z,s.w.heap.size]⟩) (w':=w') hl r.β rfl (by omega)
  (λu i K=>cT s.w.drew.drew _ i) (λu i=>by
   simp at i;rcases i with rfl|rfl
   .exact .inl r.mem
   grind)
  ⟨λu=>if u=z then aa (.cells #[if d then L.v else .pointer ae,v1] T (0,0))else if u=s.w.heap.size then aa (.cells cs E (0,0))else ae,⟨z,r.v,r.cell,by simp,J,by simp,by omega,by simp only[maxLen]at Q;omega,by simp,⟨cs.toList,by simp[rF],by simp[J,rF]⟩,λu=>by
   grind⟩,λu o' i=>by
   by_cases e:u=z
   .subst e;simp only[b6]at i;have:w'.heap[u]?=s.w.heap[u]?:=cT s.w.drew.drew _ G;rw[this,<-i];exact r.heap _ _ r.ch
   grind,λu=>by grind⟩ rfl rfl rfl
 refine⟨⟨(s.w.heap.size,cs.size),S⟩,_,_,?_,Rd.val rfl,t1,t2,?_⟩
 .simp[aq,Z,resolve,Deferred.ofValue,invoke,D,F,C,w',pO]
 .intro ev N;simp only[aq,Z,resolve,Deferred.ofValue,invoke,D,F]at N;have H:ev∈(callFunc f #[.int .i64 n]).events P s.w #[]:=by grind
  have V:fn.name≠ "runtime.NumGoroutine":=by grind
  have O:fn.body=ae:=by simpa using hb
  have key:∀es:Array Event,∀e∈(Extern.BytealgMakeNoZero.makeNoZero ps #[t] #[.int .i64 n]).events P s.w es,e∈es∨∃m,e=⟨.mark m,af,ab⟩/\Go.Conc.Neutral m:=by
   intro es e I;change e∈Sem.events P (underlying _ >>= _) _ _ at I;have g:¬(n:Int)<0:=by omega
   have S:¬(281474976710656:Int)<(n:Int):=by omega
   have XT:e∈(askRoom (grownCap s.w n 0 E)).events P s.w.drew es:=by simpa[run_underlying ht,g,S,Question.forced,newRow,grownCap]using I
   grind[Go.Conc.events_askRoom]
  have:ev∈(Extern.BytealgMakeNoZero.makeNoZero ps #[t] #[.int .i64 n]).events P s.w ((#[]:Array Event).push ⟨.mark (.extern f),af,ab⟩):=by have e:callFunc f #[.int .i64 n]=callFunc f #[.int .i64 n]:=rfl;simpa[callFunc,W,V,O,K,I,g]using H
  rcases key _ _ this with h|⟨m,rfl,hm⟩
  .simp at h;subst h;exact .inr ⟨f,rfl⟩
  .exact .inl hm
def Vt{B C:av}(ho:o.op=.call {callee:=.builtin .unsafeString,args:=#[x,y],argTypes:=#[B,C]})(hp:P.underlying B=aa (.pointer E))(D:P.cellsOf E=1){g cap:Nat}(hl:σ[l]?=aa (.cj (BB T E d v1 (aa (g,cap)) xs k)))(hx:η x=.e (.one (.v (.pointer (aa ⟨g,0,ae⟩)))))(hy:η y=.e (.one (.c (.int .i64 xs.length)))):
  bL P o η σ (.e (.one (.c (.str xs)))) (σ.set l (.cj (BB T E d v1 (aa (g,cap)) xs xs.length))):=by
 intro s I R hr;obtain⟨L,b,ch,r⟩:=BB.row (P:=P) R hl;obtain⟨a1,a2,a3,a4,a5,⟨M,a6,a7⟩,a8,Y⟩:=r.at;have A:=hr x;rw[hx]at A;have A:=Rd.eu A;have p:I y=.int .i64 xs.length:=by have K:=hr y;rw[hy]at K;have K:=fe K;generalize I y=v at K;cases K;rfl
 have V:=r.heap _ _ a7;have t:aq I o=(do pure (.value (<-Builtin.unsafeString_ #[B,C] o.type #[I x,I y]))):=by simp[aq,ho,resolve,invoke,builtin]
 have hlen:(rF xs++M).toArray.size=cap:=by grind
 by_cases h0:xs=[]
 .subst h0;have n:=Lib.run_unsafeString_none (P:=P) s.w B C o.type (aa ⟨g,0,ae⟩);obtain⟨t1,O⟩:=r.jX (xs':=[]) (fz':=0) (zs':=M) (w':=s.w) R hl a6 a2 (by simp) rfl (λ_ _=>rfl) (by grind) rfl rfl rfl;refine⟨.value (.string .empty),_,?_,Rd.str rfl (by simp),t1,O,?_⟩
  .rw[t,A,p];simp only[bT,dE];have:(Builtin.unsafeString_ #[B,C] o.type #[.pointer (aa ⟨g,0,ae⟩),.int .i64 ([]:List UInt8).length]).run P s.w=_:=n;rw[this];rfl
  .rw[t,A,p];refine eU ?_;change fj s (Sem.events P (asInt (.int .i64 0) >>= _) _ _);simp[asInt,asIntOf,IntKind.max];exact .nil
 .have i:∀j x,xs[j]?=aa x->s.w.cell? ((⟨g,0,ae⟩:Addr).add j)=aa (.int .u8 x.toNat):=by
   intro j x N;rw[dw];simp only[aP,V,bF];have ug:j<xs.length:=(bX.1 N).1;have:(rF xs)[j]?=aa (.int .u8 x.toNat):=by simp[rF,N]
   grind
  have u:s.w.shape? g=aa (E,cap):=by simp only[World.shape?,V];grind
  have n:=Lib.run_unsafeString_row (P:=P) s.w B C o.type E hp D g cap u xs h0 a2 (by omega) i;have f:xs.length≠0:=by grind
  have W:(s.w.freeze ⟨g,0,ae⟩ xs.length).heap[g]?=aa (.cells (rF xs++M).toArray E (0,xs.length)):=by simp only[World.freeze,f,cg,Array.getElem?_modify,b6,V,l5];grind
  obtain⟨t1,O⟩:=r.jX (xs':=xs) (fz':=xs.length) (zs':=M) (w':=s.w.freeze ⟨g,0,ae⟩ xs.length) R hl a6 a2 (bh _) (by simp[World.freeze,f]) (λb' JY=>by
   simp only[World.freeze,f,cg,Array.getElem?_modify]
   grind) W (by simp[World.freeze,f]) (by simp[World.freeze,f]) (by simp[World.freeze,f])
  refine⟨.value (.string ⟨xs.toArray⟩),_,?_,Rd.str (by simp) (by omega),t1,O,?_⟩
  .rw[t,A,p];simp only[bT,dE,n];rfl
  .rw[t,A,p];refine eU λe z=>?_;have H:¬(xs.length:Int)<0:=by omega
   have Z:¬(9223372036854775807:Int)<(xs.length:Int):=by omega
   have m:=Lib.liesAt_bytes (P:=P) D (cap / P.cellsOf E) xs.length (by grind);have G:IntKind.i64.max=9223372036854775807:=rfl;have hlb:=Lib.run_loadBytes (P:=P) s.w xs ⟨g,0,ae⟩ .empty i;have S:∀(J:List UInt8) (a:Nat) (acc:ByteArray) (es:Array Event),(∀j x,J[j]?=aa x->s.w.cell? ⟨g,a+j,ae⟩=aa (.int .u8 x.toNat))->∀e∈(loadBytes ⟨g,a,ae⟩ acc J.length).events P s.w es,e∈es∨∃j,e=AO g j:=by
    intro J;induction J with
    |nil=>intro a acc es _ e z;exact .inl (by simpa[loadBytes]using z)
    |cons y J ih =>
     intro a acc es D e z;have F:=D 0 y rfl;simp only[iO]at F;have hl0:(load ⟨g,a,ae⟩).run P s.w=.ok (.int .u8 y.toNat) s.w:=by grind[run_load]
     simp only[fb,loadBytes,aR,hl0,aV,AR F,dw]at z;rcases ih (a+1) _ _ (λj x N=>by have:=D (j+1) x (by grind);grind) e z with h|h
     .grind
     grind
   have Q:(variablesAt ⟨g,0,ae⟩ E xs.length).run P s.w=.ok ab s.w:=by simp[variablesAt,u,m]
   have U:∀es,(variablesAt ⟨g,0,ae⟩ E xs.length).events P s.w es=es:=λes=>by simp[variablesAt,u,m]
   have Su:e∈(loadBytes ⟨g,0,ae⟩ .empty xs.length).events P s.w #[]:=by change e∈Sem.events P (asInt (.int .i64 (xs.length:Int)) >>= _) _ _ at z;simpa[asInt,asIntOf,G,H,Z,f,elemOf,run_underlying hp,Q,U,hlb]using z
   rcases S xs 0 .empty #[] (λj x N=>by grind[dw]) e Su with h|⟨j,rfl⟩
   .grind
   .exact j9 (bP r.β) Y
end
section
variable {X:Cx P}{p:List (Nat×TI)}{T:av}{g:Bool}{v1:ai}{bf:Option (Nat×Nat)}{xs:List UInt8}{i:Nat}
def bL.exact{r:ai}{d:D}(c:η x=.e (.one (.v v)))(h:∀(a:aB->ai) w,a x=v->(aq a o).run P w=.ok (.value r) w/\(aq a o).events P w #[]=#[])(f:∀σ s,du σ s r d):bL P o η σ d σ:=by refine .quiet λs a hh hr=>?_;have b:=hr x;rw[c]at b;have b:=Rd.eu b;obtain⟨h1,h2⟩:=h a s.w b;grind
def bL.vO(h:o.op=.call {callee:=.builtin .len,args:=#[x],argTypes:=jU})(j:jU[0]?=aa t)(d:P.underlying t=aa (.slice E)){a:Option Addr}{c:Nat}(b:η x=.e (.one (.v (.slice a n c))))(k:n<=9223372036854775807):bL P o η σ (.e (.one (.c (.int .i64 n)))) σ :=
  .exact b (λl w f=>by constructor<;>simp[aq,h,resolve,invoke,builtin,Builtin.len_,f,run_underlying d,goInt,j]) (λ_ _=>Rd.int (by simp only[bE];omega))
def bL.ON(h:o.op=.call {callee:=.builtin .cap,args:=#[x],argTypes:=jU})(j:jU[0]?=aa t)(d:P.underlying t=aa (.slice E)){a:Option Addr}{c:Nat}(b:η x=.e (.one (.v (.slice a n c))))(k:c<=9223372036854775807):bL P o η σ (.e (.one (.c (.int .i64 c)))) σ :=
  .exact b (λl w f=>by constructor<;>simp[aq,h,resolve,invoke,builtin,Builtin.cap_,f,run_underlying d,goInt,j]) (λ_ _=>Rd.int (by simp only[bE];omega))
def bL.Vu(h:o.op=.call {callee:=.builtin .unsafeSliceData,args:=#[x],argTypes:=jU}){c:Nat}(b:η x=.e (.one (.v (.slice ae n c)))):bL P o η σ (.e (.one (.v (.pointer ae)))) σ :=
  .exact b (λd w a=>by
    have e:Builtin.unsafeSliceData_ jU o.type #[.slice ae n c]=pure (.pointer ae):=rfl
    constructor<;>simp[aq,h,resolve,invoke,builtin,a,e]) (λ_ _=>Rd.val rfl)
def bL.Vv(h:o.op=.call {callee:=.builtin .unsafeSliceData,args:=#[x],argTypes:=jU}){a:Addr}{c:Nat}(f:η x=.e (.one (.v (.slice (aa a) n c))))(b:c≠0):bL P o η σ (.e (.one (.v (.pointer (aa a))))) σ :=
  .exact f (λj w d=>by
    obtain⟨m,rfl⟩:=Nat.exists_eq_succ_of_ne_zero b;have e:Builtin.unsafeSliceData_ jU o.type #[.slice (aa a) n (m+1)]=pure (.pointer (aa a)):=rfl
    constructor<;>simp[aq,h,resolve,invoke,builtin,d,e]) (λ_ _=>Rd.val rfl)
def bL.Vw(h:o.op=.slice t x ae (aa y) ae)(q:P.underlying t=aa (.slice E)){ie:TypeInfo}(hi:P.info? E=aa ie){a:Addr}{c k:Nat}(A:η x=.e (.one (.v (.slice (aa a) n c))))(B:η y=.e (.one (.c (.int .i64 k))))(hk:k<=n)(m:n<=c)(z:c≠0)(C:a.add 0=a):bL P o η σ (.e (.one (.v (.slice (aa a) k c)))) σ:=by
  refine .quiet λs u hh hr=>?_;have d:=hr x;rw[A]at d;have d:=Rd.eu d;have b:u y=.int .i64 k:=by have h1:=hr y;rw[B]at h1;have h1:=fe h1;generalize u y=v at h1;cases h1;rfl
  have hl:((ae:Option ai)=ae/\(ae:Option Int)=ae)∨∃k j,(ae:Option ai)=aa (.int k j)/\(ae:Option Int)=aa j:=.inl ⟨rfl,rfl⟩;have hh:(aa (Value.int .i64 k)=ae/\(aa (k:Int))=ae)∨∃k' j,aa (Value.int .i64 k)=aa (.int k' j)/\(aa (k:Int))=aa j:=.inr ⟨_,_,rfl,rfl⟩;have r:au (gb n ae (aa (k:Int))):=by simp[gb,hk]
  obtain⟨f,_,_⟩:=mv (P:=P) (isS:=ab) m hl hh r s.w;have l:=nR (P:=P) (isS:=ab) m hl hh r s.w;simp only[dm,b9]at f;refine⟨.slice (aa a) k c,?_,Rd.val rfl,?_⟩
  · simp[aq,h,d,b,Instr.sliceAt,run_underlying q,Instr.slice,f,sizeOf,typeInfo,hi,z,C]
  · simp[aq,h,d,b,Instr.sliceAt,run_underlying q,Instr.slice,f,l,sizeOf,typeInfo,hi,z]
def bL.copyV{f:av}(h:o.op=.call {callee:=.builtin .copy,args:=#[x,y],argTypes:=#[t,f]})(k:P.underlying t=aa (.slice E)){ie:TypeInfo}(hi:P.info? E=aa ie){a:Addr}{c:Nat}(j:η x=.e (.one (.v (.slice (aa a) 0 c))))(l:η y=.e (.one (.v (.slice ae 0 0)))):bL P o η σ (.e (.one (.c (.int .i64 0)))) σ:=by
  refine .quiet λs m hh hr=>?_;have d:=hr x;rw[j]at d;have d:=Rd.eu d;have b:=hr y;rw[l]at b;have b:=Rd.eu b;refine⟨.int .i64 0,?_,Rd.int (by simp[bE]),?_⟩<;>
  simp[aq,h,resolve,invoke,builtin,Builtin.copy_,d,b,run_underlying k,sizeOf,typeInfo,hi,Builtin.lenOf,Builtin.firstCells,storeCells,goInt]
def bL.Vx{k j:av}(n:o.op=.call {callee:=.builtin .unsafeString,args:=#[x,y],argTypes:=#[k,j]})(l:η x=.e (.one (.v (.pointer ae))))(m:η y=.e (.one (.c (.int .i64 ((0:Nat):Int))))):bL P o η σ (.e (.one (.c (.str [])))) σ:=by
  refine .oM λs f hh hr=>?_;have h:=hr x;rw[l]at h;have h:=Rd.eu h;have a:f y=.int .i64 0:=by have h1:=hr y;rw[m]at h1;have h1:=fe h1;generalize f y=v at h1;cases h1;rfl
  have b:aq f o=(do pure (.value (<-Builtin.unsafeString_ #[k,j] o.type #[f x,f y]))):=by simp[aq,n,resolve,invoke,builtin]
  have d:=Lib.run_unsafeString_none (P:=P) s.w k j o.type ae;refine⟨.string .empty,?_,Rd.str rfl (by simp),?_⟩
  · rw[b,h,a]
    simp only[bT,dE,d];rfl
  · rw[b,h,a]
    refine eU ?_;change fj s (Sem.events P (asInt (.int .i64 0) >>= _) _ _);simp[asInt,asIntOf,IntKind.max];exact .nil
def bL.bTo(m:σ[l]?=aa (.cj (BB T E g v1 bf xs i))){d dst:av}(h:o.op=.convert d dst x)(n:P.underlying d=aa (.pointer T))(q:P.underlying dst=aa .unsafePointer){j:TypeInfo}(hj:P.info? T=aa j)(k:j.size≠0)(u:η x=.e (.one (.ptr l 0))):bL P o η σ (.e (.one (.ptr l 0))) σ:=by
  refine .quiet λs v hh hr=>?_;obtain⟨L,b,ch,r⟩:=BB.row (P:=P) hh m;have c:=hr x;rw[u]at c;have t:=r.ptr c;have f:s.w.shape? b=aa (T,2):=by simp[World.shape?,r.heap _ _ r.ch]
  have a:=Lib.run_to_unsafe (P:=P) s.w ⟨b,0,ae⟩ n q hj k f (by simp);refine⟨v x,by simp[aq,h,t,a],c,?_⟩;have:(convert d dst (.pointer (aa ⟨b,0,ae⟩))).events P s.w #[]=#[]:=by simp[convert,run_underlying n,run_underlying q,Conv.unsafePointer,Conv.seenAt,viewAt,cellsIn,f,sizeOf,typeInfo,hj,k]
  simp[aq,h,t,a,this]
def bL.Vy(n:σ[l]?=aa (.cj (BB T E g v1 bf xs i))){f dst:av}(h:o.op=.convert f dst x)(q:P.underlying f=aa .unsafePointer)(t:P.underlying dst=aa (.pointer T)){j:TypeInfo}(hj:P.info? T=aa j)(m:j.size≠0)(a:liesAt P P.depth T (2 / P.cellsOf T) 0 T 1=ab)(v:η x=.e (.one (.ptr l 0))):bL P o η σ (.e (.one (.ptr l 0))) σ:=by
  refine .quiet λs y hh hr=>?_;obtain⟨L,b,ch,r⟩:=BB.row (P:=P) hh n;have d:=hr x;rw[v]at d;have u:=r.ptr d;have k:s.w.shape? b=aa (T,2):=by simp[World.shape?,r.heap _ _ r.ch]
  have c:=Lib.run_from_unsafe (P:=P) s.w ⟨b,0,ae⟩ q t hj k a;refine⟨y x,by simp[aq,h,u,c],d,?_⟩;have:(convert f dst (.pointer (aa ⟨b,0,ae⟩))).events P s.w #[]=#[]:=by simp[convert,run_underlying q,run_underlying t,Conv.unsafePointer,Conv.seenAt,viewAt,variablesAt,k,sizeOf,typeInfo,hj,m,a]
  simp[aq,h,u,c,this]
def bL.Vz{f:aH}{fn:Func}(t:P.funcs[f]?=aa fn)(j:(fn.name== "runtime.NumGoroutine")=af)(z:fn.body.isNone=ab)(r:Extern.findNext fn=ae)(u:Extern.find fn=aa Extern.AbiNoEscape.same)(y:o.op=.call {callee:=.value fo,args:=#[x],argTypes:=jU})(q:η fo=.e (.one (.c (.fn (.func f) [] [])))){d:D}(A:η x=d):bL P o η σ d σ:=by
  refine .oM λs l hh hr=>?_;have m:l fo=.func (.func f) #[] #[]:=by
    have h1:=hr fo;rw[q]at h1;have h1:=fe h1;generalize l fo=v at h1;cases h1 with
    | fn fs cs a b B E c1 c2 d1 d2 =>
      grind
  have k:(callFunc f #[l x]).run P s.w=.ok (.value (l x)) s.w:=by rw[run_callFunc_extern t j z r u];rfl
  have n:=mx (P:=P) t j z r u #[l x] (λ_ _=>rfl) s.w #[];refine⟨l x,?_,by grind,λC h=>?_⟩
  · simp[aq,y,resolve,Deferred.ofValue,invoke,m,k]
  · simp[aq,y,resolve,Deferred.ofValue,invoke,m,n]at h
    subst h;exact .inr ⟨_,rfl⟩
end
def eC(i:Nat)(D:Nat->Bool):Nat->Bool:=λj=>match aw j i with|true=>ab|false=>D j
section
variable {X:Cx P}{g:Type}{x:g->Nat->D}{idx:Nat->Option Nat}{S:g->(Nat->Bool)->List bg}{Inv:g->(Nat->Bool)->Prop}{c:Nat}
def lY(L:Array Bool):Nat->Bool:=λi=>L.getD i af
def IX(hi:i<L.size):lY (L.setIfInBounds i ab)=eC i (lY L):=by funext j;have h:=eW (L:=L) (i:=i) (j:=j) hi;simp only[lY,eC];grind[Nat.eq_of_beq_eq_true,Nat.beq_refl]
def Tn{c:Nat}(d:L.size=n)(h:∀k,c<=k->¬L.getD k af=ab):n-c<=(L.toList.filter (λb=>!b)).length:=by
 have e:(L.toList.drop c).filter (λb=>!b)=L.toList.drop c:=by rw[AJ];intro b a;obtain⟨i,hi,rfl⟩:=dD a;have:=h (c+i) (by omega);simp only[sQ,jK]at hi;simp only[ef,gq (by omega:c+i<L.size),gv]at this;grind
 grind[List.drop_sublist]
theorem Names.Wj(all:List aC)(c:Nat):Names all (List.range' c (all.length-c)) (all.drop c):=by
 have key:∀(l:List aC) (n:Nat),(∀j o,l[j]?=aa o->all[n+j]?=aa o)->Names all (List.range' n l.length) l:=by
  intro l;induction l with
  |nil=>intro n _;trivial
  |cons o r b =>
   intro n h;rw[fb,List.range'_succ];refine⟨by simpa using h 0 o rfl,b (n+1) λj a hj=>?_⟩;have:=h (j+1) a (by grind);grind
 have:=key (all.drop c) c λj o h=>by grind
 grind
structure Wk{P:aJ}(X:Cx P)(N:Nat)(ops:Array aC)(φ:Fr){g:Type}(x:g->Nat->D)(S:g->(Nat->Bool)->List bg)(Inv:g->(Nat->Bool)->Prop)(idx:Nat->Option Nat)(c:Nat):Prop where
 back:∀i o,ops[i]?=aa o->∀e∈o.after,dv e=ab->e.on<i
 Kw:∀i o d,ops[i]?=aa o->o.dst=aa d->idx d=aa i/\d<N
 zd:∀d i,idx d=aa i->∃o,ops[i]?=aa o/\o.dst=aa d
 one:∀κ (D:Nat->Bool) i o,Inv κ D->ops[i]?=aa o->i<c->D i=af->(∀e∈o.after,dv e=ab->D e.on=ab)->(∀j o',ops[j]?=aa o'->D j=ab->∀e∈o'.after,dv e=ab->D e.on=ab)->m9 X N ops.toList o (kC ops.toList φ (x κ) i) (S κ D) (λq:{κ':g // (∀j,D j=ab->x κ' j=x κ j)/\Inv κ' (eC i D)}=>x q.1 i) (λq=>S q.1 (eC i D))
 UZ:∀(x:Nat->D) i o,ops[i]?=aa o->∀t σ s v,du σ s v (match idx t with|some j=>(if ∃e∈o.after,dv e=ab/\e.on=j then x j else .any)|none=>look φ t)->du σ s v (look (kC ops.toList φ x i) t)
 fin:∀(x:Nat->D) t σ s v,du σ s v (match idx t with|some j=>x j|none=>look φ t)->du σ s v (look (On ops.toList φ x) t)
 Rf:∀i o,ops[i]?=aa o->c<=i->∀L:Array Bool,(∀i o,ops[i]?=aa o->L.getD i af=ab->∀e∈o.after,dv e=ab->L.getD e.on af=ab)->(∀e∈o.after,dv e=ab->L.getD e.on af=ab)->∀k,k<i->L.getD k af=ab
 cc:c<=ops.size
 To:∀κ (D:Nat->Bool),Inv κ D->(∀i,i<c->D i=ab)->∀i,c<=i->i<ops.size->x κ i=.any
def HB(a:L.size=n)(hi:i<n):L.getD i ab=af↔¬L.getD i af=ab:=by grind
theorem Wk.seq(h:Wk X N ops φ x S Inv idx c):∀(a d:Nat)(L:Array Bool)(t:Nat),L.size=ops.size->c<=d->d<=ops.size->ops.size-d<=a->(∀k,k<ops.size->(L.getD k af=ab↔k<d)) ->
  Region.linearise.go .any ops a t L []=List.range' d (ops.size-d):=by
 intro a;induction a with
 |zero =>
  grind[xi]
 |succ a z =>
  intro d L t v C E B w;by_cases F:d=ops.size
  .grind [Di]
  .rw[pT];have j:d<ops.size:=by omega
   have s:∀i o,ops[i]?=aa o->L.getD i af=ab->∀e∈o.after,dv e=ab->L.getD e.on af=ab:=λi o m hi e l q=>by have b:=(iJ.1 m).1;have h1:=(w i b).1 hi;have h2:=h.back i o m e l q;grind
   have u:∀i,i∈ba .any ops L->i=d:=λi hi=>by
    obtain⟨o,m,hl,y⟩:=mem_ready.1 hi;have b:=(iJ.1 m).1;have A:¬i<d:=λp=>(HB v b).1 hl ((w i b).2 p);rcases cN d i with h1|h1
    .have:=h.Rf i o m (by omega) L s y d h1;grind
    .omega
   have r:d∈ba .any ops L:=mem_ready.2 ⟨ops[d],gq j,(HB v j).2 (λhh=>by grind),λe l q=>by
    have:=h.back d _ (gq j) e l q
    grind⟩
   have n:0<(ba .any ops L).length:=List.length_pos_of_mem r;have f:=jd t n;rw[bn f];have e1:=u _ (oC f);simp only[e1];rw[z (d+1) _ _ (by grind) (by omega) (by omega) (by omega) (λk hk=>by grind[eW])]
   rw[show ops.size-d=(ops.size-(d+1))+1 by omega,List.range'_succ]
def Wk.arr(h:Wk X N ops φ x S Inv idx c){R:ar->St->Prop}{b:aX}{kk:List Item}(hb:b.kind≠.early){σ0:List bg}{s0:St}(hQ:∀l D s a,Inv l D->(∀i,i<c->D i=ab)->cx N (S l D) s (On ops.toList φ (x l)) a->aE (S l D) s->c6 σ0 s0 (S l D) s->fL X R (G (b.aT a (.inRegion ops (List.range' c (ops.size-c))::kk)) cs) s):
  ∀(f:Nat) (l:g) (L:Array Bool),Inv l (lY L)->L.size=ops.size->(L.toList.filter (λb=>!b)).length<=f->(∀k,c<=k->¬L.getD k af=ab) ->
   (∀i o,ops[i]?=aa o->L.getD i af=ab->∀e∈o.after,dv e=ab->L.getD e.on af=ab) ->
   ∀(s:St) (a:Act),J1 N (S l (lY L)) s (gF φ (x l) idx L) a->aE (S l (lY L)) s->c6 σ0 s0 (S l (lY L)) s ->
   ∀t,fL X R (G (b.aT a (.inRegion ops (Region.linearise.go .any ops f t L [])::kk)) cs) s:=by
 have fin:∀(l:g) (L:Array Bool) (s:St) (a:Act) (f t:Nat),Inv l (lY L)->L.size=ops.size->(L.toList.filter (λb=>!b)).length<=f->(∀k,c<=k->¬L.getD k af=ab)->(∀i,i<c->L.getD i af=ab)->J1 N (S l (lY L)) s (gF φ (x l) idx L) a->aE (S l (lY L)) s->c6 σ0 s0 (S l (lY L)) s->fL X R (G (b.aT a (.inRegion ops (Region.linearise.go .any ops f t L [])::kk)) cs) s:=by
  intro l L s a f t H F Q p w m hh st;have V:=h.cc;rw[h.seq f c L t F (bh _) V (by
   have h2:=Tn (n:=ops.size) (c:=c) F p;omega) (λk hk=>⟨λO=>by grind,λO=>w k O⟩)]
  exact hQ l _ s a H w (m.Kv λt σ s v I=>h.fin (x l) t σ s v (by
   unfold gF at I;cases hi:idx t with
   |none=>grind
   |some k =>
    simp only[hi]at I⊢;obtain⟨o,A,_⟩:=h.zd _ _ hi;rcases cN k c with h1|h1
    .grind
    .rw[h.To l _ H w k h1 (iJ.1 A).1];trivial)) hh st
 intro f;induction f with
 |zero =>
  intro l L H F Q p C s a m hh st t;have V:=h.cc;grind[Br]
 |succ f ih =>
  intro l L H F Q p C s a m hh st t;have V:=h.cc;cases r:(ba .any ops L)[t % (ba .any ops L).length]? with
  |none=>exact fin l L s a _ t H F Q p (λi hi=>Ll (back:=h.back) F (FC r) i (by omega)) m hh st
  |some i =>
   have hi:=bP r;obtain⟨o,A,X2,u⟩:=mem_ready.1 hi;have ug:i<ops.size:=(iJ.1 A).1;rcases cN i c with E|E
   rotate_left
   .exact fin l L s a _ t H F Q p (λk hk=>h.Rf i o A E L C u k (by omega)) m hh st
   rw[pT,r];have M:¬L.getD i af=ab:=by grind
   have z:((L.setIfInBounds i ab).toList.filter (λb=>!b)).length<=f:=by
    have h1:L.toList[i]?=aa af:=by rw[AG,gq (by omega:i<L.size)];simpa[ef,gq (by omega:i<L.size)]using M
    grind[count_set]
   have J:∀j Z,ops[j]?=aa Z->(L.setIfInBounds i ab).getD j af=ab->∀e∈Z.after,dv e=ab->(L.setIfInBounds i ab).getD e.on af=ab:=by grind[eW]
   have T:cx N (S l (lY L)) s (kC ops.toList φ (x l) i) a:=Ps (h.UZ (x l) i o A) m u;have:=h.one l (lY L) i o H A E (by unfold lY;grind) u C s a T hh b kk cs R i (Region.linearise.go .any ops f (t / (ba .any ops L).length) (L.setIfInBounds i ab) []) hb (by grind);simp only[pJ]at this;refine this λq v s' I B y=>?_;obtain⟨U,Y,K⟩:=q;have W:=IX (L:=L) (i:=i) (by omega);simp only at I B y;rw[<-W]at I B y K;exact ih U _ K (by grind) z (λk hk=>by grind[eW]) J s' _ (IS (λd hd=>h.Kw i o d A hd) h.zd A (by omega) (λj hj=>Y j hj) hh.len y m I) B (st.trans y) _
def AW.reg(hf:P.follows Departure.mixedOrders=ab)(c:Nat)(x:g->Nat->D)(S:g->(Nat->Bool)->List bg)(Inv:g->(Nat->Bool)->Prop)(G:g)(hI0:Inv G λ_=>af)(h0:S G (λ_=>af)=σ)(VH:m7 all=ab)(E:tb all 0=ab)(H:oS N all=ab)(hc:c<=all.length)(Rf:∀i,c<=i->i<all.length->∀L:Nat->Prop,(∀i,i<all.length->L i->∀e∈bZ (all.getD i jY).after.toList,L e)->(∀e∈bZ (all.getD i jY).after.toList,L e)->∀k,k<i->L k)(To:∀p (D:Nat->Bool),Inv p D->(∀i,i<c->D i=ab)->∀i,c<=i->i<all.length->x p i=.any)(one:∀p (D:Nat->Bool) i o,Inv p D->all[i]?=aa o->i<c->D i=af->(∀e∈bZ o.after.toList,D e=ab)->(∀j o',all[j]?=aa o'->D j=ab->∀e∈bZ o'.after.toList,D e=ab)->m9 X N all o (kC all φ (x p) i) (S p D) (λq:{I:g // (∀j,D j=ab->x I j=x p j)/\Inv I (eC i D)}=>x q.1 i) (λq=>S q.1 (eC i D))){Q:Post}(hQ:∀p D,Inv p D->(∀i,i<c->D i=ab)->iG X N all (all.drop c) (Q .normal) (On all φ (x p)) (S p D))(id:Nat):
  AW X N (.region id all.toArray ab) Q φ σ:=by
 have n:∀i:Nat,all.toArray[i]?=all[i]?:=λi=>by simp
 let idx:Nat->Option Nat:=λt=>(bc all.length).find? (λi=>decide ((all.getD i jY).dst=aa t));have M:∀t j,idx t=aa j->∃o,all[j]?=aa o/\o.dst=aa t:=by grind
 have A:∀i o d,all[i]?=aa o->o.dst=aa d->idx d=aa i:=by
  intro i o d f K;have hi:i<all.length:=(bX.1 f).1;cases hx:idx d with
  |none =>
   have:=qE.1 hx i (by grind);grind
  |some j =>
   grind[uq]
 have W:∀t,pU t all=ab↔∃j,idx t=aa j:=by grind[qU,tf]
 have O:∀i o,all[i]?=aa o->all.getD i jY=o:=λi o h=>by grind
 have K:Wk X N all.toArray φ x S Inv idx c:=by
  refine⟨?_,?_,?_,?_,?_,?_,λi o f Y1 L hLc hLp k hk=>?_,by grind,λp D R hD i h1 h2=>To p D R hD i h1 (by grind)⟩
  .intro i o f e U T;rw[n]at f;have:=Df E i o f e.on (eY.2 ⟨e,by grind,T,rfl⟩);omega
  .intro i o d f K;rw[n]at f;exact⟨A i o d f K,gU (zF H i o f) d K⟩
  .grind
  .intro p D i o R f hic Z SD JW;rw[n]at f;exact one p D i o R f hic Z (λe U=>by
    grind[eY]) λj o hj hDj e U=>by grind[eY]
  .intro x i o f t σ s v V;rw[n]at f;show du σ s v (look (kC all φ x i) t);unfold kC;rw[O i o f];rcases nZ (m:=λj=>iF j (bZ o.after.toList)) (φ:=vR all φ) (t:=t) (l:=Bo all 0 x) (i:=0)with⟨j,y,h1,h2,C⟩|C
   .rw[C];rw[xL]at h1;cases hj:all[j]? with
    |none=>grind
    |some oj =>
     simp only[hj,l5,dn,mn,bF]at h1;rw[A j oj t hj h1.1]at V;simp only at V;rw[bo]at V
     .grind
     .simp only[bF]at h2;obtain⟨e,a,b,c⟩:=eY.1 (KB h2);grind
   .rw[C,mg];split
    .trivial
    grind
  .intro x t σ s v V;show du σ s v (look (On all φ x) t);unfold On;rcases nZ (m:=λ_=>ab) (φ:=vR all φ) (t:=t) (l:=Bo all 0 x) (i:=0)with⟨j,y,h1,h2,C⟩|C
   .rw[C];rw[xL]at h1;grind
   .rw[C,mg];split
    .trivial
    grind
  .rw[n]at f;refine Rf i Y1 (bX.1 f).1 (λk=>L.getD k af=ab) (λi' hi' hl e U=>?_) (λe U=>?_) k hk
   .grind [eY]
   grind[eY]
 intro s a Y hh b kk cs SS T YS;refine .next rfl λB u=>?_;have u:=X.iS u;have z:=hh.rely u;have J:=Y.rely u hh;have F:Step σ B σ {B with w:={B.w with drawn:=B.w.drawn+1}}:=Step.same rfl rfl rfl rfl;have JZ:aE σ {B with w:={B.w with drawn:=B.w.drawn+1}}:=z.same rfl;have stW:=u.stepW.trans (F.nN z);refine⟨_,{B with w:={B.w with drawn:=B.w.drawn+1}},#[],mq,⟨⟨σ,σ,z,JZ,F⟩,.nil⟩,?_⟩;simp only[Region.schedule,hf,Bool.true_or,b6];have hd0:lY (Array.replicate all.toArray.size af)=λ_=>af:=by funext i;simp[lY,ef,nw];split<;>simp
 refine K.arr T (σ0:=σ) (s0:=s) (λp D s2 a2 R hD f2 h2 m0=>?_) all.toArray.size G _ (by grind) (by simp) (by simp) ?_ ?_ _ a ?_ (by grind) (by grind) _
 .refine hQ p D R hD s2 a2 f2 h2 b kk cs SS _ T ?_ λφ3 σ3 s3 a3 q3 f3 C Tp=>YS .normal _ _ s3 a3 q3 f3 C (m0.trans Tp);grind[Names.Wj]
 .intro i _ hi;simp[ef,nw]at hi;split at hi<;>simp at hi
 .intro i o f hi;simp[ef,nw]at hi;split at hi<;>simp at hi
 .rw[hd0,h0];have r:=J.mono (F.nN z) z.len;refine⟨r.size,r.defers,λt=>?_⟩;unfold gF;cases hix:idx t with
  |none=>exact r.slot t
  |some j =>
   simp only;rw[aY]
   .exact r.slot t
   .simp[ef,nw];split<;>simp
def m9.to{d:Type}{y:ι->D}{σ':ι->List bg}{z:d->D}{e:d->List bg}(h:m9 X N all o φ σ y σ')(l:∀j,∃k,y j=z k/\σ' j=e k):m9 X N all o φ σ z e:=by intro s a f hh b k cs S i rest hb hi hK;refine h s a f hh b k cs S i rest hb hi λj v s' r1 r2 r3=>?_;obtain⟨q,p2,p3⟩:=l j;grind
def OA.sH{d:Type}{y:D}{z:d->D}{e:d->List bg}(h:OA X N all o φ σ y σ')(k:d)(h1:y=z k)(h2:σ'=e k):m9 X N all o φ σ z e:=by subst h1 h2;exactλs a f hh b k' cs S i rest hb hi hK=>h s a f hh b k' cs S i rest hb hi λv s' r1 r2 r3=>hK k v s' r1 r2 r3
end
end Go.AM
