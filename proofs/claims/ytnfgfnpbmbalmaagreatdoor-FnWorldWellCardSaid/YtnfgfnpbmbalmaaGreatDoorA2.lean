/- Part 2. No condition. -/
import Derived.Test.YtnfgfnpbmbalmaaGreatDoorA1
import Derived.Test.YtnfgfnpbmbalmaaGreatDoorProg
import Derived.MapKept
import Derived.Maps.RangeRun
import Derived.Laws.MakeOwn
import Derived.Lib.SliceRun
import Derived.Sort.AssemblyPlain
set_option linter.all false
set_option maxHeartbeats 8000000
open Go renaming Value → ak
open Option renaming some → aa
open Go renaming Program → aq
open Go renaming TypeId → ar
open Bool renaming true → ab
open Go renaming Goroutine → au
open Go renaming Frame → aR
open Go renaming Oper → aw
open Go renaming FuncId → aW
open Go.Region renaming wanted → bj
open Go renaming execOp → ay
open Go renaming Operand → an
open Option renaming none → af
open Bool renaming false → ae
open Go renaming undef → aj
open Go.World renaming cell? → a9
open List renaming getD_eq_getElem?_getD → ai
open Go.Sem renaming events_bind → aO
open Go.Result renaming evThen_ok → aU
open Go renaming World → az
open List renaming range → bh
open Nat renaming beq → aG
open Nat renaming ble → bo
open Go.Op renaming bytesLess → bl
open Go.Proofs.Tryz renaming prog → ah
open Go.TypeDesc renaming struct → bn
namespace Go.AM
section force
variable {p:Type}
def vM:C->(C->Option p)->Option p
 |.int k n,q=>q (.int k n)
 |.bool b,q=>q (.bool b)
 |.str s,q=>q (.str s)
 |.sl ab k n es,q=>q (.sl ab k n es)
 |.sl ae k n es,q=>q (.sl ae k n es)
 |.rp cs,q=>c9 cs λcs=>q (.rp cs)
 |.Jn t cs,q=>c9 cs λcs=>q (.Jn t cs)
 |.fn f a b,q=>c9 a λa=>c9 b λb=>q (.fn f a b)
 |c,q=>q c
def GO(c:C)(q:C->Option p):vM c q=q c:=by
 cases c with
 |sl t=>cases t <;> rfl
 |rp cs=>simp[vM,cR]
 |Jn t cs=>simp[vM,cR]
 |fn f a b=>simp[vM,cR]
 |_=>rfl
def vN:A->(A->Option p)->Option p
 |.c x,q=>vM x λx=>q (.c x)
 |.ptr l o,q=>q (.ptr l o)
 |.vec l k n es,q=>q (.vec l k n es)
 |.ref l,q=>q (.ref l)
 |.bp l (.sl g k o n),q=>q (.bp l (.sl g k o n))
 |.bp l (.el g k i f),q=>q (.bp l (.el g k i f))
 |.any,q=>q .any
def yg(a:A)(q:A->Option p):vN a q=q a:=by
 cases a with
 |bp l w=>cases w <;> simp[vN]
 |_=>simp[vN,GO]
def u9:List A->(List A->Option p)->Option p
 |[],q=>q []
 |a::r,q=>vN a λa=>u9 r λr=>q (a::r)
def DM(l:List A)(q:List A->Option p):u9 l q=q l:=by
 induction l generalizing q with
 |nil=>rfl
 |cons a r b=>simp[u9,yg,b]
def zH:E1->(E1->Option p)->Option p
 |.one a,q=>vN a λa=>q (.one a)
 |.agg cs,q=>u9 cs λcs=>q (.agg cs)
def yh(a:E1)(q:E1->Option p):zH a q=q a:=by cases a <;> simp[zH,yg,DM]
def va:List E1->(List E1->Option p)->Option p
 |[],q=>q []
 |a::r,q=>zH a λa=>va r λr=>q (a::r)
def DN(l:List E1)(q:List E1->Option p):va l q=q l:=by
 induction l generalizing q with
 |nil=>rfl
 |cons a r b=>simp[va,yh,b]
def nR:D->(D->Option p)->Option p
 |.e x,q=>zH x λx=>q (.e x)
 |.eJ xs,q=>va xs λxs=>q (.eJ xs)
 |.any,q=>q .any
theorem m6(a:D)(q:D->Option p):nR a q=q a:=by cases a <;> simp[nR,yh,DN]
end force
def xH:D->Option (Bool×Nat×Nat×(Nat->List C))
 |.e (.one (.c (.sl t k n es)))=>aa (t,k,n,es)
 |.e (.one (.vec _ k n es))=>aa (ae,k,n,es)
 |_=>af
theorem mr{d:D}{t:Bool}{k n:Nat}{es:Nat->List C}(h:xH d=aa (t,k,n,es))(σ:List aV)(s:St)(v:ak)(r:c8 σ s v d):Rd s.M v (.sl t k n es):=by
 unfold xH at h;split at h
 .cases h;exact r
 .cases h;exact r.1
 grind
def iR(l:List UInt8) (j:Int):UInt8:=l.getD j.toNat 0
def QJ(T:List (Nat×TI))(t:ar)(d:D):Option D :=
 match bE T t with
 |none=>af
 |some i=>match i.desc with
  |.slice _=>match xH d with
   |some (_,_,n,_)=>aa (.e (.one (.c (.int .i64 n))))
   |none=>af
  |.string=>match d with
   |.e (.one (.c (.str s)))=>aa (.e (.one (.c (.int .i64 s.length))))
   |_=>af
  |_=>af
def Jy(T:List (Nat×TI))(b a:ar)(d:D):Option (D×List Prop) :=
 match bE T b with
 |none=>af
 |some i1=>match bE T a with
  |none=>af
  |some i2=>match i2.desc with
   |.int k'=>match d with
    |.e (.one (.c (.int _ j)))=>aa (.e (.one (.c (.int k' j))),[bu k' j])
    |_=>af
   |.string=>match d with
    |.e (.one (.c (.str s)))=>aa (.e (.one (.c (.str s))),[])
    |d=>match i1.desc with
     |.slice E=>match bE T E with
      |some ie=>match ie.desc with
       |.int .u8=>match xH d with
        |some (_,k,n,es)=>match aG k 1 with
         |true=>match vO es 0 n with
          |some r=>aa (.e (.one (.c (.str r))),[])
          |none=>af
         |false=>af
        |none=>af
       |_=>af
      |none=>af
     |_=>af
   |_=>af
def DO(T:List (Nat×TI))(a:an->D)(t:ar)(x:an)(lo hi:Option an):Option (D×List Prop) :=
 match bE T t with
 |none=>af
 |some i=>match uz a lo with
  |none=>af
  |some l=>match uz a hi with
   |none=>af
   |some u=>match i.desc with
    |.string=>match a x with
     |.e (.one (.c (.str s)))=>aa (.e (.one (.c (.str (rO s l u)))),iP s.length l u)
     |_=>af
    |.slice E=>match bE T E with
     |none=>af
     |some ie=>match xH (a x) with
      |some (tt,k,n,es)=>match aG k ie.size with
       |true=>aa (.e (.one (.c (.sl (Ns tt u) ie.size (cr n u-cr 0 l) (jK (cr 0 l) es)))),iP n l u)
       |false=>af
      |none=>af
    |_=>af
def yi(op:BinOp)(k:IntKind) (a:Int)(k':IntKind) (b:Int):Option (D×List Prop) :=
 match Bi op k a k' b with
 |some (c,obs)=>aa (.e (.one (.c (.int k c))),obs)
 |none=>af
theorem rP{op:BinOp}{k k':IntKind}{a b:Int}{d:D}{obs:List Prop}(h:yi op k a k' b=aa (d,obs)):∃ c,d=.e (.one (.c (.int k c)))/\Bi op k a k' b=aa (c,obs):=by
 unfold yi at h
 grind
def Pz(T:List (Nat×TI))(op:BinOp)(t:ar)(x y:D):Option (D×List Prop) :=
 match x,y with
 |.e (.one (.c (.bool a))),.e (.one (.c (.bool b)))=>match bE T t with
  |some i=>match i.desc with
   |.bool=>match lq op (a==b) with
    |some c=>aa (.e (.one (.c (.bool c))),[])
    |none=>af
   |_=>af
  |none=>af
 |.e (.one (.c a)),.e (.one (.c b))=>match op with
  |.xor=>match a,b with
   |.int .i64 a,.int .i64 b=>aa (.e (.one (.c (.int .i64 ((a.toNat ^^^ b.toNat:Nat):Int)))),[0<=a,0<=b])
   |.int .u64 a,.int k' b=>yi .xor .u64 a k' b
   |_,_=>af
  |.shl=>match a,b with
   |.int k a,.int k' b=>yi .shl k a k' b
   |_,_=>af
  |.shr=>match a,b with
   |.int k a,.int k' b=>yi .shr k a k' b
   |_,_=>af
  |.and=>match a,b with
   |.int k a,.int k' b=>yi .and k a k' b
   |_,_=>af
  |_=>match Nt op a b with
   |some (c,obs)=>aa (.e (.one (.c c)),obs)
   |none=>af
 |.e (.agg cs),.e (.agg es)=>match bE T t with
  |some i=>match i.eq with
   |[]=>af
   |d::ds=>match PC (d::ds) cs es with
    |some b=>match lq op b with
     |some c=>aa (.e (.one (.c (.bool c))),[])
     |none=>af
    |none=>af
  |none=>af
 |_,_=>af
def VU(T:List (Nat×TI))(CT:List (Nat×dh))(φ:Fr)(o:aw):Option (D×List Prop) :=
 match o.op with
 |.move x|.assign x=>aa (bZ φ x,[])
 |.index t x y=>match bE T t with
  |some i=>match i.desc with
   |.string=>match bZ φ x,bZ φ y with
    |.e (.one (.c (.str l))),.e (.one (.c (.int _ j)))=>aa (.e (.one (.c (.int .u8 (iR l j).toNat))),[0<=j,j<l.length])
    |_,_=>af
   |_=>af
  |none=>af
 |.indexAddr t x y=>match bE T t with
  |some i=>match i.desc with
   |.slice E=>match bE T E with
    |some ie=>match xH (bZ φ x),bZ φ y with
     |some (_,k,n,es),.e (.one (.c (.int _ j)))=>match aG k ie.size with
      |true=>aa (.e (.one (.c (.rp (es j.toNat)))),[0<=j,j<n])
      |false=>af
     |_,_=>af
    |none=>af
   |_=>af
  |none=>af
 |.slice t x lo hi af=>DO T (bZ φ) t x lo hi
 |.convert src dst x=>Jy T src dst (bZ φ x)
 |.call c=>match c.callee with
  |.builtin .len=>match c.args.toList,c.argTypes[0]? with
   |[x],aa t=>match QJ T t (bZ φ x) with
    |some d=>aa (d,[])
    |none=>af
   |_,_=>af
  |.value fo=>By CT φ fo c.args.toList
  |_=>af
 |.pick c a b=>match bZ φ c with
  |.e (.one (.c (.bool ab)))=>aa (bZ φ a,[])
  |.e (.one (.c (.bool ae)))=>aa (bZ φ b,[])
  |_=>af
 |.binOp op t x y _=>Pz T op t (bZ φ x) (bZ φ y)
 |.unOp op _ x=>match bZ φ x with
  |.e (.one (.c a))=>match VW op a with
   |some c=>aa (.e (.one (.c c)),[])
   |none=>af
  |_=>af
 |.extract x j=>match bZ φ x with
  |.eJ xs=>match fu j xs with
   |some e=>aa (.e e,[])
   |none=>af
  |_=>af
 |.fieldAddr t x f=>match jL T t f with
  |some (k,_)=>match bZ φ x with
   |.e (.one (.ptr l off))=>aa (.e (.one (.ptr l (off+k))),[])
   |.e (.one (.c (.rp cs)))=>aa (.e (.one (.c (.rp (hI k cs)))),[])
   |_=>af
  |none=>af
 |.field t x f=>match jL T t f with
  |some (k,j)=>match bZ φ x with
   |.e (.agg cs)=>match mX j (hI k cs) with
    |some e=>aa (.e e,[])
    |none=>af
   |_=>af
  |none=>af
 |.nilCheck x=>match bZ φ x with
  |.e (.one (.ptr l off))=>aa (.e (.one (.ptr l off)),[])
  |.e (.one (.c (.rp cs)))=>aa (.e (.one (.c (.rp cs))),[])
  |_=>af
 |.build t parts=>match zI T (bZ φ) t parts.toList with
  |some cs=>aa (.e (.agg cs),[])
  |none=>af
 |.buildSlice t n parts=>match Dx T (bZ φ) t n parts.toList with
  |some (k,es)=>aa (.e (.one (.c (.sl ab k n λi=>es.getD i []))),[])
  |none=>af
 |.makeFunc fn a b=>match vP (bZ φ) a.toList with
  |some ca=>match vP (bZ φ) b.toList with
   |some cb=>aa (.e (.one (.c (.fn fn ca cb))),[])
   |none=>af
  |none=>af
 |.makeInterface t x=>match bE T t with
  |some i=>match rQ i.desc with
   |false=>match vb t (bZ φ x) with
    |some c=>aa (.e (.one (.c c)),[])
    |none=>af
   |true=>af
  |none=>af
 |.typeAssert x _ t ab=>match bE T t with
  |some i=>match rQ i.desc with
   |false=>match bZ φ x with
    |.e (.one (.c c))=>match pU t i c with
     |some (e,b)=>aa (.eJ [e,.one (.c (.bool b))],[])
     |none=>af
    |_=>af
   |true=>af
  |none=>af
 |_=>af
def Js(T:List (Nat×TI))(φ:Fr)(σ:List aV)(t:ar)(x:an):Option D :=
 match bE T t with
 |some i=>match bZ φ x with
  |.e (.one (.ptr l off))=>match fu l σ with
   |some (.cells _ cs)=>match mX i (hI off cs) with
    |some e=>aa (.e e)
    |none=>af
   |_=>af
  |.e (.one (.c (.rp cs)))=>match mX i (cs.map A.c) with
   |some e=>aa (.e e)
   |none=>af
  |_=>af
 |none=>af
def W0(T:List (Nat×TI))(φ:Fr)(o:aw):Option (D×List Prop) :=
 match o.op with
 |.indexAddr t x y=>match bE T t with
  |some i=>match i.desc with
   |.slice E=>match bE T E with
    |some ie=>match bZ φ x,bZ φ y with
     |.e (.one (.bp l (.sl g k q m))),.e (.one (.c (.int _ j)))=>match aG k ie.size with
      |true=>aa (.e (.one (.bp l (.el g ie.size (q+j.toNat) 0))),[0<=j,j<m])
      |false=>af
     |.e (.one (.c (.val (.slice (aa ⟨b,off,af⟩) n _)))),.e (.one (.c (.int _ j)))=>aa (.e (.one (.c (.val (.pointer (aa ⟨b,off+j.toNat*ie.size,af⟩))))),[0<=j,j<n])
     |_,_=>af
    |none=>af
   |_=>af
  |none=>af
 |.fieldAddr t x f=>match jL T t f with
  |some (k,_)=>match bZ φ x with
   |.e (.one (.bp l (.el g a i q)))=>aa (.e (.one (.bp l (.el g a i (q+k)))),[])
   |.e (.one (.c (.val (.pointer (aa ⟨b,off,af⟩)))))=>aa (.e (.one (.c (.val (.pointer (aa ⟨b,off+k,af⟩))))),[])
   |_=>af
  |none=>af
 |.nilCheck x=>match bZ φ x with
  |.e (.one (.bp l (.el g a i q)))=>aa (.e (.one (.bp l (.el g a i q))),[])
  |_=>af
 |.slice t x lo hi af=>match bE T t with
  |none=>af
  |some i=>match uz (bZ φ) lo with
   |none=>af
   |some lw=>match uz (bZ φ) hi with
    |none=>af
    |some u=>match i.desc with
     |.slice E=>match bE T E with
      |none=>af
      |some ie=>match bZ φ x with
       |.e (.one (.bp l (.sl g k q m)))=>match aG k ie.size with
        |true=>aa (.e (.one (.bp l (.sl g ie.size (q+cr 0 lw) (cr m u-cr 0 lw)))),iP m lw u)
        |false=>af
       |_=>af
     |_=>af
 |.slice t x af (aa y) (aa z)=>match bE T t with
  |none=>af
  |some i=>match i.desc with
   |.slice E=>match bE T E with
    |none=>af
    |some _=>match xH (bZ φ x),bZ φ y,bZ φ z with
     |some (_,k,n,es),.e (.one (.c (.int _ j))),.e (.one (.c (.int _ m)))=>aa (.e (.one (.c (.sl ae k j.toNat es))),[0<=j,j<=m,m<=n])
     |_,_,_=>af
   |_=>af
 |.slice t x (aa w) (aa y) (aa z)=>match bE T t with
  |none=>af
  |some i=>match i.desc with
   |.slice E=>match bE T E with
    |none=>af
    |some _=>match bZ φ x,bZ φ w,bZ φ y,bZ φ z with
     |.e (.one (.bp _ (.sl _ _ _ n))),.e (.one (.c (.int _ i))),.e (.one (.c (.int _ j))),.e (.one (.c (.int _ m)))=>aa (.e (.one .any),[0<=i,i<=j,j<=m,m<=n])
     |_,_,_,_=>af
   |_=>af
 |.call c=>match c.callee with
  |.builtin .len=>match c.args.toList,c.argTypes[0]? with
   |[x],aa t=>match bE T t with
    |some i=>match i.desc with
     |.slice _=>match bZ φ x with
      |.e (.one (.bp _ (.sl _ _ _ m)))=>aa (.e (.one (.c (.int .i64 m))),[])
      |.e (.one (.c (.val (.slice _ n _))))=>aa (.e (.one (.c (.int .i64 n))),[n<=9223372036854775807])
      |_=>af
     |_=>af
    |none=>af
   |_,_=>af
  |_=>af
 |_=>af
def zE(T:List (Nat×TI))(φ:Fr)(σ:List aV)(t:ar)(x:an):Option (D×List Prop) :=
 match bE T t with
 |some it=>match bZ φ x with
  |.e (.one (.bp l (.el g k i f)))=>match fu l σ with
   |some (.buf _ k' n es)=>match aG k' k with
    |true=>match mX it ((hI f (es i)).map A.c) with
     |some e=>aa (.e e,[g=n,i<n])
     |none=>af
    |false=>af
   |_=>af
  |_=>af
 |none=>af
def Jz:Nat->List C->Nat->Bool
 |0,cc,k=>aG cc.length k
 |_+1,_,_=>ae
def zJ(T:List (Nat×TI))(φ:Fr)(σ:List aV)(t:ar)(x y:an):Option (D×List aV×List Prop) :=
 match bE T t with
 |some it=>match bZ φ x with
  |.e (.one (.bp l (.el g k i f)))=>match fu l σ with
   |some (.buf E k' n es)=>match aG k' k with
    |true=>match mO (bZ φ y) with
     |some new=>match aG new.length it.size with
      |true=>match gk new with
       |some cc=>match Jz f cc k with
        |true=>c9 (ef.rE l (.buf E k' n (m9 i cc es)) σ) λσ'=>aa (.any,σ',[g=n,i<n])
        |false=>match eU f cc (es i) with
         |some ci=>c9 (ef.rE l (.buf E k' n (m9 i ci es)) σ) λσ'=>aa (.any,σ',[g=n,i<n])
         |none=>af
       |none=>af
      |false=>af
     |none=>af
    |false=>af
   |_=>af
  |_=>af
 |none=>af
def Np(T:List (Nat×TI))(CT:List (Nat×dh))(φ:Fr)(σ:List aV)(o:aw):Option (D×List Prop) :=
 match o.op with
 |.load t x=>match Js T φ σ t x with
  |some d=>aa (d,[])
  |none=>zE T φ σ t x
 |_=>match VU T CT φ o with
  |some r=>aa r
  |none=>W0 T φ o
def QK(T:List (Nat×TI))(a:an->D)(σ:List aV)(x y:an)(t b:ar):Option (D×List aV×List Prop) :=
 match bE T t with
 |none=>af
 |some i=>match bE T b with
  |none=>af
  |some i2=>match i.desc with
   |.slice E=>match i2.desc with
    |.slice E2=>match aG E2 E with
     |false=>af
     |true=>match bE T E with
      |none=>af
      |some ie=>match bo 1 ie.bytes,bo 1 ie.size with
       |true,ab=>match xH (a y) with
        |none=>af
        |some (_,k',m,es')=>match aG k' ie.size with
         |false=>af
         |true=>match a x with
          |.e (.one (.c (.sl ab k n es)))=>match aG k ie.size with
           |true=>c9 (σ++[.vec E ie.size (n+m) (cO n es es')]) λσ'=>aa (.e (.one (.vec σ.length ie.size (n+m) (cO n es es'))),σ',[(n+m)*ie.bytes<=140737488355328,n=0∨0<m])
           |false=>match aG n 0 with
            |true=>c9 (σ++[.vec E ie.size (n+m) (cO n es es')]) λσ'=>aa (.e (.one (.vec σ.length ie.size (n+m) (cO n es es'))),σ',[(n+m)*ie.bytes<=140737488355328,n=0∨0<m])
            |false=>af
          |.e (.one (.vec l k n es))=>match fu l σ with
           |some (.vec E' k2 n2 M8)=>match aG E' E,aG k ie.size,aG k2 ie.size with
            |true,ab,ab=>c9 (ef.rE l (.vec E ie.size (n+m) (cO n es es')) σ) λσ'=>aa (.e (.one (.vec l ie.size (n+m) (cO n es es'))),σ',[n2=n,M8=es,(n+m)*ie.bytes<=140737488355328])
            |_,_,_=>af
           |_=>af
          |.e (.one (.bp l (.sl g k 0 n)))=>match fu l σ with
           |some (.buf E' k2 n2 M8)=>match aG E' E,aG k ie.size,aG k2 ie.size with
            |true,ab,ab=>c9 (ef.rE l (.buf E ie.size (n2+m) (cO n2 M8 es')) σ) λσ'=>aa (.e (.one (.bp l (.sl (n2+m) ie.size 0 (n2+m)))),σ',[g=n2,n=n2,(n2+m)*ie.bytes<=140737488355328])
            |_,_,_=>af
           |_=>af
          |_=>af
       |_,_=>af
    |_=>af
   |_=>af
def W1(T:List (Nat×TI))(CT:List (Nat×dh))(φ:Fr)(σ:List aV)(o:aw):Option (D×List aV×List Prop) :=
 match o.op with
 |.alloc _|.box _ _=>VX T φ σ o
 |.store t x y=>match VX T φ σ o with
  |some r=>aa r
  |none=>zJ T φ σ t x y
 |.call c=>match c.callee with
  |.builtin .append=>match c.args.toList,c.argTypes.toList with
   |[x,y],[t,a]=>QK T (bZ φ) σ x y t a
   |_,_=>af
  |.value fo=>JA CT φ σ fo c.args.toList
  |_=>af
 |_=>af
def QL(T:List (Nat×TI))(a:an->D)(x y:an)(t b:ar):Option (D×List Prop) :=
 match bE T t with
 |none=>af
 |some i=>match bE T b with
  |none=>af
  |some i2=>match i.desc with
   |.slice E=>match i2.desc with
    |.slice E2=>match aG E2 E with
     |false=>af
     |true=>match bE T E with
      |none=>af
      |some ie=>match bo 1 ie.bytes,bo 1 ie.size with
       |true,ab=>match xH (a y) with
        |none=>af
        |some (_,k',m,es')=>match aG k' ie.size with
         |false=>af
         |true=>match a x with
          |.e (.one (.c (.sl ab k n es)))=>match aG n 0 with
           |true=>aa (.e (.one (.c (.sl ae ie.size (n+m) (cO n es es')))),[(n+m)*ie.bytes<=140737488355328,n=0∨0<m])
           |false=>af
          |_=>af
       |_,_=>af
    |_=>af
   |_=>af
def W2(T:List (Nat×TI))(φ:Fr)(o:aw):Option (D×List Prop) :=
 match o.op with
 |.call c=>match c.callee with
  |.builtin .append=>match c.args.toList,c.argTypes.toList with
   |[x,y],[t,a]=>QL T (bZ φ) x y t a
   |_,_=>af
  |_=>af
 |_=>af
def Bz:List (Nat×Bool)->Nat->Option Bool
 |[],_=>af
 |(i,b)::r,t=>match aG i t with|true=>aa b|false=>Bz r t
def WO(ds:List (Nat×Bool)):Option Nat->Bool
 |none=>ae
 |some t=>match Bz ds (2000000+t) with
  |some ab=>ab
  |_=>ae
def isW(ds:List (Nat×Bool)):Option Nat->Bool
 |none=>ae
 |some t=>match Bz ds (3000000+t) with
  |some ab=>ab
  |_=>ae
def appW(w:Bool)(T:List (Nat×TI))(a:an->D)(σ:List aV)(x y:an)(t b:ar):Option (D×List aV×List Prop) :=
 match bE T t with
 |none=>af
 |some i=>match bE T b with
  |none=>af
  |some i2=>match i.desc with
   |.slice E=>match i2.desc with
    |.slice E2=>match aG E2 E with
     |false=>af
     |true=>match bE T E with
      |none=>af
      |some ie=>match bo 1 ie.bytes,bo 1 ie.size with
       |true,ab=>match w with
        |true=>match xH (a y) with
         |none=>af
         |some (_,k',m,es')=>match aG k' ie.size with
          |false=>af
          |true=>match a x with
           |.e (.one (.c (.sl ab k n es)))=>match aG n 0 with
            |true=>c9 (σ++[.buf E ie.size (0+m) (cO 0 es es')]) λσ'=>aa (.e (.one (.bp σ.length (.sl (0+m) ie.size 0 (0+m)))),σ',[(0+m)*ie.bytes<=140737488355328])
            |false=>af
           |_=>af
        |false=>match a x,a y with
         |.e (.one (.bp l (.sl g k 0 i))),.e (.one (.bp l' (.sl g' k' j m)))=>match aG l' l with
          |false=>af
          |true=>match fu l σ with
           |some (.buf E' k2 n es)=>match aG E' E,aG k ie.size,aG k' ie.size,aG k2 ie.size with
            |true,ab,ab,ab=>c9 (ef.rE l (.buf E ie.size n (GF i j m es)) σ) λσ'=>aa (.e (.one (.bp l (.sl n ie.size 0 (i+m)))),σ',[g=n,g'=n,i+m<=n,j+m<=n])
            |_,_,_,_=>af
           |_=>af
         |_,_=>af
       |_,_=>af
    |_=>af
   |_=>af
def VY(w:Bool)(T:List (Nat×TI))(φ:Fr)(σ:List aV)(o:aw):Option (D×List aV×List Prop) :=
 match o.op with
 |.call c=>match c.callee with
  |.builtin .append=>match c.args.toList,c.argTypes.toList with
   |[x,y],[t,a]=>appW w T (bZ φ) σ x y t a
   |_,_=>af
  |_=>af
 |_=>af
def TK(ds:List (Nat×Bool))(T:List (Nat×TI))(CT:List (Nat×dh))(φ:Fr)(σ:List aV)(o:aw):Option (D×List aV×List Prop) :=
 match isW ds o.dst with
 |true=>VY ab T φ σ o
 |false=>match W1 T CT φ σ o with
  |some r=>aa r
  |none=>VY ae T φ σ o
def Jw(ds:List (Nat×Bool))(d:Option Nat)(x:D)(obs:List Prop):Option (D×List Prop) :=
 match d with
 |none=>aa (x,obs)
 |some t=>match Bz ds t with
  |none=>aa (x,obs)
  |some b=>match x with
   |.e (.one (.c (.bool e)))=>aa (.e (.one (.c (.bool b))),kl obs [e=b])
   |_=>af
def Nu{ds:List (Nat×Bool)}{d:Option Nat}{x y:D}{obs DQ:List Prop}(h:Jw ds d x obs=aa (y,DQ))(a:ag DQ):y=x/\ag obs:=by
 unfold Jw at h;split at h
 .grind
 .split at h
  .grind
  .split at h
   .cases h;rw[ag.cat] at a;have:_=_:=a.2
    grind
   grind
def Fw(T:List (Nat×TI))(CT:List (Nat×dh))(ds:List (Nat×Bool))(all:List aw)(φ:Fr)(σ:List aV)(o:aw):Option (D×Option (List aV)×List Prop) :=
 let go:Option (D×Option (List aV)×List Prop):=match Np T CT φ σ o with
  |some (x,obs)=>match Jw ds o.dst x obs with
   |some (y,a)=>nR y λy=>aa (y,af,a)
   |none=>af
  |none=>match WO ds o.dst with
   |true=>match W2 T φ o with
    |some (x,obs)=>nR x λx=>aa (x,af,obs)
    |none=>af
   |false=>match TK ds T CT φ σ o with
    |some (x,σ',obs)=>nR x λx=>aa (x,aa σ',obs)
    |none=>af
 match o.guard with
 |none=>go
 |some (j,b)=>match zK φ all j with
  |some (aa b')=>match b,b' with
   |true,ab=>go
   |false,ae=>go
   |_,_=>aa (.eJ [],af,[])
  |some af=>aa (.eJ [],af,[])
  |none=>af
section
variable {P:aq}{X:Cx P}{T:List (Nat×TI)}{CT:List (Nat×dh)}{N:Nat}{all:List aw}{φ:Fr}{σ:List aV}{o:aw}
theorem Nv(l:db P T)(A:∀ σ s a,cv N σ s φ a->bj o (yielded all.toArray a.tmps)=ab){x y:an}{t e:ar}{d:D}{obs:List Prop}(z:o.op=.call { callee:=.builtin .append,args:=#[x,y],argTypes:=#[t,e] })
  (h:QL T (bZ φ) x y t e=aa (d,obs)) (b:ag obs):OA X N all o φ σ d σ:=by
 unfold QL at h;split at h
 .cases h
 rename_i i hi
 split at h
 .cases h
 rename_i i2 Fe
 split at h
 case h_2=>cases h
 rename_i E F
 split at h
 case h_2=>cases h
 rename_i E2 TR
 split at h
 .cases h
 rename_i u
 have w:=bU u;subst w;split at h
 .cases h
 rename_i B q
 split at h
 case h_2=>cases h
 rename_i f r
 have c:mg P o x y E2 B:=⟨⟨t,e,i,i2,z,l t i hi,F,l e i2 Fe,TR⟩,l _ _ q,by have:=c7 f;omega,by have:=c7 r;omega⟩
 split at h
 .cases h
 rename_i tx k' m es' hy
 split at h
 .cases h
 rename_i g
 have C:=bU g;subst C;have j:=λs v=>mr hy σ s v
 split at h
 .rename_i k n es hx
  split at h
  .rename_i G
   cases h;exact(OA.mb A (bF.oN c hx (.inr (bU G)) j b.1 b.2)).Bv
  grind
 grind
theorem Nw(q:db P T){O:an->D}{x y:an}{t j:ar}{d:D}{σ':List aV}{obs:List Prop}(R:o.op=.call { callee:=.builtin .append,args:=#[x,y],argTypes:=#[t,j] })
  (h:QK T O σ x y t j=aa (d,σ',obs)) (a:ag obs):bF P o O σ d σ':=by
 unfold QK at h;split at h
 .cases h
 rename_i i hi
 split at h
 .cases h
 rename_i i2 Fe
 split at h
 case h_2=>cases h
 rename_i E V
 split at h
 case h_2=>cases h
 rename_i E2 TR
 split at h
 .cases h
 rename_i F
 have Q:=bU F;subst Q;split at h
 .cases h
 rename_i U r
 split at h
 case h_2=>cases h
 rename_i H u
 have b:mg P o x y E2 U:=⟨⟨t,j,i,i2,R,q t i hi,V,q j i2 Fe,TR⟩,q _ _ r,by have:=c7 H;omega,by have:=c7 u;omega⟩
 split at h
 .cases h
 rename_i tx k' m es' hy
 split at h
 .cases h
 rename_i w
 have Y:=bU w;subst Y;have c:=λs v=>mr hy σ s v
 split at h
 .rename_i k n es hx
  split at h
  .rename_i Z
   rw[cR] at h;cases h;exact bF.oN b hx (.inl (bU Z)) c a.1 a.2
  .split at h
   .rename_i W
    rw[cR] at h;cases h;exact bF.oN b hx (.inr (bU W)) c a.1 a.2
   grind
 .rename_i l k n es hx
  split at h
  .rename_i S k2 f e z
   split at h
   .rename_i K J B
    rw[cR,kz] at h;cases h;obtain⟨C,A,M⟩:f=n/\e=es/\_:=a;subst C;subst A;have G:=bU K;subst G;have I:=bU J;have L:=bU B;subst L;subst I;exact bF.GH b hx (dw z) c M
   grind
  grind
 .rename_i l g k n hx
  split at h
  .rename_i S k2 f e z
   split at h
   .rename_i K J B
    rw[cR,kz] at h;cases h;obtain⟨C,A,M⟩:g=f/\n=f/\_:=a;subst C;subst A;have G:=bU K;subst G;have I:=bU J;have L:=bU B;subst L;subst I;exact bF.Nx b hx (dw z) c M
   grind
  grind
 grind
theorem Ny(c:db P T){b:an->D}{x:an}{a:Array ar}{t:ar}{d:D}(e:o.op=.call { callee:=.builtin .len,args:=#[x],argTypes:=a })(g:a[0]?=aa t)(h:QJ T t (b x)=aa d):bF P o b σ d σ:=by
 unfold QJ at h;split at h
 .cases h
 rename_i i hi
 split at h
 .rename_i E f
  split at h
  .rename_i tt k n es hs
   cases h;exact bF.TS c e g hi f (λs v=>mr hs σ s v)
  grind
 .grind [bF.QM]
 grind
theorem JB(m:db P T){l:an->D}{b c:ar}{x:an}{d:D}{obs:List Prop}(q:o.op=.convert b c x)(h:Jy T b c (l x)=aa (d,obs))(a:ag obs):bF P o l σ d σ:=by
 unfold Jy at h;split at h
 .cases h
 rename_i i hi
 split at h
 .cases h
 rename_i i2 Fe
 split at h
 .rename_i k' hd
  split at h
  .rename_i k j y
   cases h;exact bF.Nz m q hi Fe hd y a
  grind
 .rename_i hd
  split at h
  .grind [bF.NA]
  .split at h
   .rename_i E f
    split at h
    .rename_i z u
     split at h
     .rename_i g
      split at h
      .rename_i tt k n es hs
       split at h
       .rename_i w
        have e:=bU w;subst e;split at h
        .rename_i r t
         cases h;exact bF.GP m q hi Fe f hd u g (λs v=>mr hs σ s v) t
        grind
       grind
      grind
     grind
    grind
   grind
 grind
theorem GQ(e:db P T){a:an->D}{t:ar}{x:an}{lo hi:Option an}{d:D}{obs:List Prop}(f:o.op=.slice t x lo hi af)(h:DO T a t x lo hi=aa (d,obs))(b:ag obs):bF P o a σ d σ:=by
 unfold DO at h;split at h
 .cases h
 rename_i i c
 split at h
 .cases h
 rename_i l g
 split at h
 .cases h
 rename_i u j
 split at h
 .grind [bF.JC]
 .grind [Nat.eq_of_beq_eq_true,bF.NB,mr]
 grind
theorem vQ{α:Type}{xs:Array α}{x:α}(h:xs.toList=[x]):xs=#[x]:=Array.ext' h
theorem vR{α:Type}{xs:Array α}{x y:α}(h:xs.toList=[x,y]):xs=#[x,y]:=Array.ext' h
theorem QN(A:db P T)(S:bC X CT){d:D}{obs:List Prop}(h:VU T CT φ o=aa (d,obs))(g:ag obs)(u:∀ σ s a,cv N σ s φ a->bj o (yielded all.toArray a.tmps)=ab):OA X N all o φ σ d σ:=by
 unfold VU at h;split at h
 .grind [OA.mb,bF.move]
 .grind [OA.mb,bF.assign]
 .rename_i t x y w
  split at h
  .rename_i i hi
   split at h
   .rename_i B
    split at h
    .rename_i l k j r C
     cases h;obtain⟨O,L⟩:0<=j/\j<(l.length:Int):=g;have:=bF.JD (σ:=σ) (m:=j.toNat) A w hi B r C (by omega) (by omega)
     have e:iR l j=l[j.toNat]'(by omega):=by simp[iR,ai,br (by omega:j.toNat<l.length)]
     grind [OA.mb]
    grind
   grind
  grind
 .rename_i t x y w
  split at h
  .rename_i i hi
   split at h
   .rename_i E B
    split at h
    .rename_i R M
     split at h
     .rename_i tt k n es k2 j r C
      split at h
      .rename_i Q
       cases h;obtain⟨O,L⟩:0<=j/\j<(n:Int):=g;have e:=bU Q;subst e;exact OA.mb u (bF.indexAddr (m:=j.toNat) A w hi B M (λs v=>mr r σ s v) C (by omega) (by omega))
      grind
     grind
    grind
   grind
  grind
 .grind [OA.mb,GQ]
 .grind [OA.mb,JB]
 .rename_i c w
  obtain⟨K,args,J⟩:=c
  grind [vQ,OA.mb,Ny,OA.By]
 .rename_i c a b q
  split at h
  .rename_i F;cases h;exact OA.mb u (bF.pick q F)
  .rename_i F;cases h;exact OA.mb u (bF.pick q F)
  grind
 .rename_i op t y z ty q
  unfold Pz at h;split at h
  .grind [OA.mb,bF.QO]
  .rename_i a b _ H G
   split at h
   .split at h
    .rename_i _ _ a' b' _ _
     cases h;exact OA.mb u (bF.TT q H G g.1 g.2)
    .grind [rP,OA.mb,bF.bits]
    grind
   .grind [rP,OA.mb,bF.bits]
   .grind [rP,OA.mb,bF.bits]
   .grind [rP,OA.mb,bF.bits]
   grind [OA.mb,bF.binOp]
  .rename_i cs es H G
   split at h
   .grind [OA.mb,bF.structEq]
   grind
  grind
 .grind [OA.mb,bF.unOp]
 .grind [OA.mb,bF.extract,dw]
 .rename_i t y f q
  split at h
  .rename_i k j I
   split at h
   .rename_i l off r;cases h;exact OA.mb u (bF.rR A q r I)
   .grind [OA.mb,bF.tK]
   grind
  grind
 .grind [OA.mb,bF.field]
 .grind [OA.mb,bF.tL,bF.vS]
 .grind [OA.mb,bF.build]
 .grind [OA.mb,bF.buildSlice]
 .grind [OA.mb,bF.makeFunc]
 .grind [OA.mb,bF.makeInterface]
 .grind [OA.mb,bF.typeAssert]
 grind
theorem QP(C:db P T){d:D}{obs:List Prop}(h:W0 T φ o=aa (d,obs))(e:ag obs):bF P o (bZ φ) σ d σ:=by
 unfold W0 at h;split at h
 .rename_i t x y u
  split at h
  .rename_i i hi
   split at h
   .rename_i E B
    split at h
    .rename_i L I
     split at h
     .rename_i l g k q m kk j r H
      split at h
      .rename_i hk
       cases h;obtain⟨G,F⟩:0<=j/\j<(m:Int):=e
       grind [Nat.eq_of_beq_eq_true,bF.W3]
      grind
     .rename_i b off n cap kk j r H
      cases h;obtain⟨G,F⟩:0<=j/\j<(n:Int):=e
      grind [bF.BA]
     grind
    grind
   grind
  grind
 .rename_i t x f u
  split at h
  .rename_i k j J
   split at h
   .rename_i l g Y i q r
    cases h;exact bF.QQ C u r J
   .rename_i b off r
    cases h;exact bF.QR C u r J
   grind
  grind
 .grind [bF.W4]
 .rename_i t x lo hi u
  split at h
  .cases h
  rename_i i A
  split at h
  .cases h
  rename_i V U
  split at h
  .cases h
  grind [Nat.eq_of_beq_eq_true,bF.sliceB]
 .rename_i t x y z u
  split at h
  .cases h
  rename_i i A
  split at h
  .rename_i E B
   split at h
   .cases h
   rename_i L I
   split at h
   .rename_i tt k n es kj j R m r H K
    cases h;obtain⟨G,F,M⟩:0<=j/\j<=m/\m<=(n:Int):=e;exact bF.slice3 C u A B I (λs v=>mr r σ s v) H K G F M
   grind
  grind
 .rename_i t x w y z u
  split at h
  .cases h
  rename_i i A
  split at h
  .rename_i E B
   split at h
   .cases h
   rename_i L I
   split at h
   .rename_i l g k q n Z i kj j R m r W H K
    cases h;obtain⟨G,F,M,h4⟩:0<=i/\i<=j/\j<=m/\m<=(n:Int):=e
    grind [bF.slice3B]
   grind
  grind
 .rename_i c u
  obtain⟨Q,args,O⟩:=c;simp only at h;split at h
  .split at h
   .rename_i x t r S
    split at h
    .rename_i i hi
     split at h
     .rename_i E B
      split at h
      .grind [vQ,bF.W5]
      .rename_i a n cap hxx
       cases h;have:=vQ r;subst this;exact bF.W6 C u S hi B hxx e
      grind
     grind
    grind
   grind
  grind
 grind
theorem GR(b:db P T){t:ar}{x:an}(c:o.op=.load t x){d:D}{obs:List Prop}(h:zE T φ σ t x=aa (d,obs))(a:ag obs):bF P o (bZ φ) σ d σ:=by
 unfold zE at h;split at h
 .rename_i r hi
  split at h
  .rename_i l g k i f q
   split at h
   .rename_i E k' n es hB
    split at h
    .rename_i m
     have e:=bU m;subst e;split at h
     .rename_i e j
      cases h;exact bF.BC b c q a.1 (dw hB) hi j a.2
     grind
    grind
   grind
  grind
 grind
theorem DR(c:db P T){t:ar}{x y:an}(j:o.op=.store t x y){d:D}{σ':List aV}{obs:List Prop}(h:zJ T φ σ t x y=aa (d,σ',obs))(a:ag obs):bF P o (bZ φ) σ d σ':=by
 unfold zJ at h;split at h
 .rename_i u hi
  split at h
  .rename_i l g k i f q
   split at h
   .rename_i E k' n es hB
    split at h
    .rename_i s
     have e:=bU s;subst e;split at h
     .rename_i new hy
      split at h
      .rename_i m
       split at h
       .rename_i cc Pn
        split at h
        .rename_i r
         rw[cR,kz] at h;cases h;have b:f=0/\cc.length=k':=by
          cases f with
          |zero=>exact⟨rfl,bU r⟩
          |succ f=>simp[Jz] at r
         obtain⟨rfl,b⟩:=b;exact bF.JE c j q a.1 (dw hB) hi hy (bU m) Pn (λv=>rS (by grind)) a.2
        .split at h
         .rename_i ci W7
          rw[cR,kz] at h;cases h;exact bF.JE c j q a.1 (dw hB) hi hy (bU m) Pn (λ_=>W7) a.2
         grind
       grind
      grind
     grind
    grind
   grind
  grind
 grind
theorem QS(e:db P T)(i:bC X CT){d:D}{obs:List Prop}(h:Np T CT φ σ o=aa (d,obs))(b:ag obs)(f:∀ σ s a,cv N σ s φ a->bj o (yielded all.toArray a.tmps)=ab):OA X N all o φ σ d σ:=by
 unfold Np at h;split at h
 .rename_i t y g
  split at h
  .rename_i j c
   cases h;unfold Js at c;split at c
   .grind [OA.mb,bF.FD,dw,bF.JF]
   grind
  grind [OA.mb,GR]
 grind [QN,OA.mb,QP]
theorem QT(g:db P T)(k:bC X CT){d:D}{σ':List aV}{obs:List Prop}(h:W1 T CT φ σ o=aa (d,σ',obs))(b:ag obs)(j:∀ σ s a,cv N σ s φ a->bj o (yielded all.toArray a.tmps)=ab):OA X N all o φ σ d σ':=by
 unfold W1 at h;split at h
 .grind [OA.mb,DS]
 .grind [OA.mb,DS]
 .grind [OA.mb,DS,DR]
 .rename_i c i
  obtain⟨f,args,e⟩:=c
  grind [vR,OA.mb,Nw,OA.call]
 grind
theorem NC(e:db P T){w:Bool}{B:an->D}{x y:an}{t c:ar}{d:D}{σ':List aV}{obs:List Prop}(F:o.op=.call { callee:=.builtin .append,args:=#[x,y],argTypes:=#[t,c] })
  (h:appW w T B σ x y t c=aa (d,σ',obs)) (a:ag obs):bF P o B σ d σ':=by
 unfold appW at h;split at h
 .cases h
 rename_i i hi
 split at h
 .cases h
 rename_i i2 Fe
 split at h
 case h_2=>cases h
 rename_i E R
 split at h
 case h_2=>cases h
 rename_i E2 TR
 split at h
 .cases h
 rename_i u
 have C:=bU u;subst C;split at h
 .cases h
 rename_i I f
 split at h
 case h_2=>cases h
 rename_i z q
 have b:mg P o x y E2 I:=⟨⟨t,c,i,i2,F,e t i hi,R,e c i2 Fe,TR⟩,e _ _ f,by have:=c7 z;omega,by have:=c7 q;omega⟩
 split at h
 .split at h
  .cases h
  rename_i tx k' m es' hy
  split at h
  .cases h
  rename_i r
  have Y:=bU r;subst Y;split at h
  .rename_i k n es hx
   split at h
   .rename_i S
    have J:=bU S;subst J;rw[cR] at h;cases h;exact bF.GD b hx (λs v=>mr hy _ s v) a
   grind
  grind
 .split at h
  .rename_i l g k i l' g' k' j m hx hy
   split at h
   .cases h
   rename_i A
   have el:=bU A;subst el;split at h
   .rename_i E' k2 n es hl
    split at h
    .rename_i O Z G q4
     have L:=bU O;have K:=bU Z;have M:=bU G;have Q:=bU q4;rw[cR] at h;cases h;obtain⟨U,W,V,H⟩:=a;subst U W L K M Q;have:=bF.I1 (σ:=σ) b hx hy (dw hl) V H
     grind [kz]
    grind
   grind
  grind
theorem QU(g:db P T)(k:bC X CT){ds:List (Nat×Bool)}{d:D}{σ':List aV}{obs:List Prop}(h:TK ds T CT φ σ o=aa (d,σ',obs))(b:ag obs)(j:∀ σ s a,cv N σ s φ a->bj o (yielded all.toArray a.tmps)=ab):OA X N all o φ σ d σ':=by
 have key:∀ w,VY w T φ σ o=aa (d,σ',obs)->OA X N all o φ σ d σ':=by
  intro w h;unfold VY at h;split at h
  .rename_i c i
   obtain⟨f,args,e⟩:=c
   grind [vR,OA.mb,NC]
  grind
 unfold TK at h
 grind [QT]
def dW(z:db P T)(E:bC X CT){ds:List (Nat×Bool)}{d:D}{σ':Option (List aV)}{obs:List Prop}(h:Fw T CT ds all φ σ o=aa (d,σ',obs))(i:ag obs):OA X N all o φ σ d (σ'.getD σ):=by
 have go:(∀ σ s a,cv N σ s φ a->bj o (yielded all.toArray a.tmps)=ab)->(match Np T CT φ σ o with
  |some (x,obs)=>match Jw ds o.dst x obs with
   |some (y,l)=>nR y λy=>aa (y,af,l)
   |none=>af
  |none=>match WO ds o.dst with
   |true=>match W2 T φ o with
    |some (x,obs)=>nR x λx=>aa (x,af,obs)
    |none=>af
   |false=>match TK ds T CT φ σ o with
    |some (x,σ',obs)=>nR x λx=>aa (x,aa σ',obs)
    |none=>af)=aa (d,σ',obs)->OA X N all o φ σ d (σ'.getD σ):=by
  intro B h;split at h
  .rename_i x k w
   split at h
   .rename_i y q t
    rw[m6] at h;cases h;obtain⟨rfl,A⟩:=Nu t i
    grind [QS]
   grind
  .split at h
   .split at h
    .rename_i x k m
     rw[m6] at h;cases h;unfold W2 at m;split at m
     .rename_i c C
      obtain⟨v,args,u⟩:=c
      grind [vR,Nv]
     grind
    grind
   grind [m6,QU]
 unfold Fw at h;simp only at h;split at h
 .grind [dq]
 .rename_i j b g
  split at h
  .rename_i n e
   have r:∀ σ s a,cv N σ s φ a->bj o (yielded all.toArray a.tmps)=(aa n==aa b):=λσ s a f=>by simp only[bj,g,pV e f]
   split at h
   .grind
   .grind
   .cases h;refine OA.pass (λσ s a f=>(r σ s a f).trans ?_)
    cases b <;> cases n <;> simp_all
  .rename_i e
   cases h;exact OA.pass (λσ s a f=>by simp only[bj,g,pV e f];rfl)
  grind
end
def IP(φ:Fr)(o:aw):Bool:=match o.op with
 |.load _ x=>match bZ φ x with
  |.e (.one (.c (.rp _)))=>ae
  |_=>ab
 |_=>ae
def Jr{T:List (Nat×TI)}{CT:List (Nat×dh)}{φ:Fr}{σ σ2:List aV}{o:aw}(h:IP φ o=ae):Np T CT φ σ o=Np T CT φ σ2 o:=by
 unfold Np;split
 .rename_i t x a
  simp only[IP,a] at h;split at h
  .rename_i cs hx
   simp only[Js,zE,hx]
  grind
 .rfl
def Jt{T:List (Nat×TI)}{CT:List (Nat×dh)}{ds:List (Nat×Bool)}{all:List aw}{φ:Fr}{σ:List aV}{o:aw}{d:D}{obs:List Prop}(h:IP φ o=ae)(a:Fw T CT ds all φ σ o=aa (d,af,obs))(σ2:List aV) :
  Fw T CT ds all φ σ2 o=aa (d,af,obs):=by
 unfold Fw at a ⊢;simp only at a ⊢;rw[Jr (σ2:=σ) h];cases c:Np T CT φ σ o with
 |some r=>grind
 |none =>
  simp only[c] at a ⊢;cases b:WO ds o.dst with
  |true=>grind
  |false =>
   simp only[b] at a ⊢;have key:∀ {y:Option (D×Option (List aV)×List Prop)},(match TK ds T CT φ σ o with|some (x,σ',obs)=>nR x λx=>aa (x,aa σ',obs)|none=>af)=y->y≠aa (d,af,obs):=by
    grind [m6]
   split at a
   .grind
   grind
def oU(t:Nat):List aw->Bool
 |[]=>ae
 |o::r=>match o.dst with
  |some d=>match aG d t with|true=>ab|false=>oU t r
  |none=>oU t r
theorem rK{t:Nat}:∀ {l:List aw}{i:Nat}{o:aw},l[i]?=aa o->o.dst=aa t->oU t l=ab
 |[],_,_,h,_=>by grind
 |p::r,0,o,h,a=>by
  simp at h;subst h;simp[oU,a,iM]
 |p::r,i+1,o,h,a=>by
  have:=rK (l:=r) (by simpa using h) a
  simp only[oU]
  grind
theorem pS{t:Nat}:∀ {l:List aw},oU t l=ab->∃ (i:Nat)(o:aw),l[i]?=aa o/\o.dst=aa t
 |[],h=>by cases h
 |p::r,h=>by
  simp only[oU] at h;split at h
  .rename_i d c
   split at h
   .rename_i e
    exact⟨0,p,rfl,by grind [Nat.eq_of_beq_eq_true]⟩
   .obtain⟨i,o,b,a⟩:=pS h;exact⟨i+1,o,by grind,a⟩
  .obtain⟨i,o,b,a⟩:=pS h;exact⟨i+1,o,by grind,a⟩
def mo:List aw->Bool
 |[]=>ab
 |o::r=>match o.dst with
  |some d=>match oU d r with|true=>ae|false=>mo r
  |none=>mo r
theorem sR{t:Nat}:∀ {l:List aw}{i j:Nat}{o p:aw},mo l=ab->l[i]?=aa o->l[j]?=aa p->o.dst=aa t->p.dst=aa t->i=j
 |[],_,_,_,_,_,h,_,_,_=>by grind
 |q::r,0,0,_,_,_,_,_,_,_=>rfl
 |q::r,0,j+1,o,p,a,c,b,d1,d2=>by
  simp at c;subst c;simp only[mo,d1] at a
  grind [rK]
 |q::r,i+1,0,o,p,a,c,b,d1,d2=>by
  simp at b;subst b;simp only[mo,d2] at a
  grind [rK]
 |q::r,i+1,j+1,o,p,a,c,b,d1,d2=>by
  have:mo r=ab:=by
   simp only[mo] at a
   grind
  have d:r[i]?=aa o:=by grind
  have f:r[j]?=aa p:=by grind
  have e:=sR this d f d1 d2;omega
def ux(all:List aw):Fr->Fr
 |[]=>[]
 |(t,d)::r=>match oU t all with|true=>ux all r|false=>(t,d)::ux all r
def lK{all:List aw}{t:Nat}:∀ {φ:Fr},look (ux all φ) t=if oU t all=ab then .any else look φ t
 |[]=>by simp[ux,look]
 |(u,d)::r=>by
  simp only[ux]
  by_cases c:aG u t=ab
  .have e:=bU c;subst e;cases b:oU u all with
   |true=>simp only;rw[lK];grind
   |false=>simp[look]
  .have a:aG u t=ae:=by grind
   cases b:oU u all with
   |true=>simp only;rw[lK];simp[look,a]
   |false=>simp only[look,a,cond];rw[lK]
def bR:List Edge->List Nat
 |[]=>[]
 |e::r=>match e.ground with
  |.textOnly _=>bR r
  |.gcOnly _=>bR r
  |_=>e.on::bR r
theorem eD{j:Nat}:∀ {l:List Edge},j∈bR l↔∃ e∈l,cZ e=ab/\e.on=j
 |[]=>by simp[bR]
 |e::r=>by
  have c:=eD (j:=j) (l:=r);have yes:bR (e::r)=e.on::bR r->cZ e=ab->(j∈bR (e::r)↔∃ a∈e::r,cZ a=ab/\a.on=j):=by
   grind
  have no:bR (e::r)=bR r->cZ e=ae->(j∈bR (e::r)↔∃ a∈e::r,cZ a=ab/\a.on=j):=by
   grind
  cases b:e.ground with
  |textOnly w=>exact no (by simp only[bR,b]) (by unfold cZ Region.binds;grind)
  |gcOnly w=>exact no (by simp only[bR,b]) (by unfold cZ Region.binds;grind)
  |_=>exact yes (by simp only[bR,b]) (by unfold cZ Region.binds;rw[b])
def vK(i t:Nat):List aw->Bool
 |[]=>ae
 |o::r=>match o.dst with
  |some d=>match aG d t with
   |true=>match fJ i (bR o.after.toList) with
    |true=>vK i t r
    |false=>ab
   |false=>vK i t r
  |none=>vK i t r
def vL{i t:Nat}:∀ {l:List aw},vK i t l=ae->∀ (j:Nat)(o:aw),l[j]?=aa o->o.dst=aa t->fJ i (bR o.after.toList)=ab
 |[],_,j,o,h,_=>by grind
 |p::r,h,0,o,b,a=>by
  simp at b;subst b;simp only[vK,a,iM] at h
  grind
 |p::r,h,j+1,o,b,a=>by
  have:vK i t r=ae:=by
   simp only[vK] at h
   grind
  exact vL this j o (by grind) a
def oV(all:List aw):Fr->List (Nat×D×Bool)
 |[]=>[]
 |(t,d)::r=>match oU t all with
  |true=>(t,d,ab)::oV all r
  |false=>(t,d,ae)::oV all r
def kK(i:Nat)(all:List aw):List (Nat×D×Bool)->Fr
 |[]=>[]
 |(t,d,b)::r=>match b with
  |false=>(t,d)::kK i all r
  |true=>match vK i t all with
   |true=>kK i all r
   |false=>(t,d)::kK i all r
def yf{i:Nat}{all:List aw}{t:Nat}:∀ {φ:Fr},look (kK i all (oV all φ)) t=if oU t all=ab/\vK i t all=ab then .any else look φ t
 |[]=>by simp[oV,kK,look]
 |(u,d)::r=>by
  have f:=yf (i:=i) (all:=all) (t:=t) (φ:=r);have c:look ((u,d)::kK i all (oV all r)) t=if aG u t=ab then d else look (kK i all (oV all r)) t:=by
   simp only[look];cases aG u t <;> rfl
  have b:look ((u,d)::r) t=if aG u t=ab then d else look r t:=by simp only[look];cases aG u t <;> rfl
  cases a:oU u all with
  |false =>
   simp only[oV,a,kK]
   grind [Nat.eq_of_beq_eq_true]
  |true =>
   cases e:vK i u all with
   |true =>
    simp only[oV,a,kK,e]
    grind [Nat.eq_of_beq_eq_true]
   |false =>
    simp only[oV,a,kK,e]
    grind [Nat.eq_of_beq_eq_true]
def jm(m:Nat->Bool):Nat->List (Option Nat×D)->Fr->Fr
 |_,[],φ=>φ
 |i,(d,x)::r,φ=>match m i with
  |true=>match d with
   |some t=>(t,x)::jm m (i+1) r φ
   |none=>jm m (i+1) r φ
  |false=>jm m (i+1) r φ
def m7{m:Nat->Bool}{φ:Fr}{t:Nat}:∀ {l:List (Option Nat×D)}{i:Nat},(∃ j x,l[j]?=aa (aa t,x)/\m (i+j)=ab/\look (jm m i l φ) t=x)∨look (jm m i l φ) t=look φ t
 |[],i=>.inr rfl
 |(d,x)::r,i=>by
  have k:=m7 (m:=m) (φ:=φ) (t:=t) (l:=r) (i:=i+1);have step:look (jm m i ((d,x)::r) φ) t=look (jm m (i+1) r φ) t->((∃ j b,((d,x)::r)[j]?=aa (aa t,b)/\m (i+j)=ab/\look (jm m i ((d,x)::r) φ) t=b)∨look (jm m i ((d,x)::r) φ) t=look φ t):=by
   intro e;rw[e];rcases k with⟨j,b,o,n,g⟩|h
   .exact .inl ⟨j+1,b,by grind,by grind,g⟩
   grind
  cases a:m i with
  |false=>exact step (by simp[jm,a])
  |true =>
   cases d with
   |none=>exact step (by simp[jm,a])
   |some u =>
    by_cases f:aG u t=ab
    .have e:=bU f;subst e;exact .inl ⟨0,x,rfl,by grind,by simp[jm,a,look]⟩
    .have c:aG u t=ae:=by grind
     exact step (by simp[jm,a,look,c])
structure Di where
 i:Nat
 pre:List (Option Nat×D)
 σ:List aV
 cls:List (List Bool)
 zF:List Bool
 Nq:List Bool
 obs:List Prop
def SZ(i:Nat):List Nat->Bool
 |[]=>ab
 |k::r=>match Nat.blt k i with|true=>SZ i r|false=>ae
def DL{i:Nat}:∀ {l:List Nat},SZ i l=ab->∀ k∈l,k<i
 |[],_,k,h=>by grind
 |x::r,h,k,a=>by
  simp only[SZ] at h;cases b:Nat.blt x i with
  |false=>grind
  |true =>
   simp only[b] at h;rcases e9.1 a with rfl|a
   .exact c7 b
   .exact DL h k a
def bit:List Bool->Nat->Bool
 |[],_=>ae
 |b::_,0=>b
 |_::r,n+1=>bit r n
def xF:List Bool->List Bool->List Bool
 |[],b=>b
 |true::a,[]=>ab::a
 |false::a,[]=>ae::a
 |true::a,_::b=>ab::xF a b
 |false::a,ab::b=>ab::xF a b
 |false::a,ae::b=>ae::xF a b
def mq:∀ {a b:List Bool}{j:Nat},bit (xF a b) j=(bit a j||bit b j)
 |[],b,j=>by simp[xF,bit]
 |true::a,[],j=>by simp[xF,bit]
 |false::a,[],j=>by simp[xF,bit]
 |true::a,c::b,0=>by simp[xF,bit]
 |true::a,c::b,j+1=>by simp only[xF,bit];exact mq
 |false::a,ab::b,0=>by simp[xF,bit]
 |false::a,ab::b,j+1=>by simp only[xF,bit];exact mq
 |false::a,ae::b,0=>by simp[xF,bit]
 |false::a,ae::b,j+1=>by simp only[xF,bit];exact mq
def sS:Nat->List Bool
 |0=>[ab]
 |n+1=>ae::sS n
theorem rL:∀ {n j:Nat},bit (sS n) j=decide (n=j)
 |0,0=>rfl
 |0,j+1=>by simp[sS,bit]
 |n+1,0=>by simp[sS,bit]
 |n+1,j+1=>by simp only[sS,bit,rL];simp
def Fx(a:List (List Bool)):List Nat->List Bool
 |[]=>[]
 |e::r=>match fu e a with
  |some c=>xF (xF c (sS e)) (Fx a r)
  |none=>xF (sS e) (Fx a r)
theorem zG{b:List (List Bool)}{j:Nat}:∀ {l:List Nat},bit (Fx b l) j=ab->∃ e∈l,e=j∨∃ c,b[e]?=aa c/\bit c j=ab
 |[],h=>by simp[Fx,bit] at h
 |e::r,h=>by
  simp only[Fx,eY] at h;have two:∀ {a:Nat},bit (sS e) a=ab->e=a:=by
   grind [rL]
  have rest:bit (Fx b r) j=ab->∃ d∈e::r,d=j∨∃ c,b[d]?=aa c/\bit c j=ab:=by
   intro h;obtain⟨d,i,f⟩:=zG h
   grind
  split at h
  .rename_i c g
   rw[mq,mq,mK,mK] at h
   grind
  .rw[mq,mK] at h
   grind
def sT:List Bool->List Bool->Bool
 |[],_=>ab
 |true::a,ab::b=>sT a b
 |true::_,_=>ae
 |false::a,_::b=>sT a b
 |false::a,[]=>sT a []
theorem pT:∀ {a b:List Bool}{j:Nat},sT a b=ab->bit a j=ab->bit b j=ab
 |[],b,j,_,d=>by simp[bit] at d
 |true::a,ab::b,0,_,_=>rfl
 |true::a,ab::b,j+1,h,d=>by simp only[bit] at d ⊢;exact pT (by simpa[sT] using h) d
 |true::a,ae::b,j,h,_=>by simp[sT] at h
 |true::a,[],j,h,_=>by simp[sT] at h
 |false::a,c::b,0,_,d=>by simp[bit] at d
 |false::a,c::b,j+1,h,d=>by simp only[bit] at d ⊢;exact pT (by simpa[sT] using h) d
 |false::a,[],0,_,d=>by simp[bit] at d
 |false::a,[],j+1,h,d=>by
  simp only[bit] at d;have:=pT (j:=j) (by simpa[sT] using h) d
  simp[bit] at this
def rM(T:List (Nat×TI))(CT:List (Nat×dh))(N:Nat)(ds:List (Nat×Bool))(all:List aw)(φm:List (Nat×D×Bool))(st:Di)(o:aw):Option Di :=
 match gw N o.dst with
 |false=>af
 |true =>
  c9 (bR o.after.toList) λes =>
  match SZ st.i es with
  |false=>af
  |true=>match Fw T CT ds all (jm (λj=>fJ j es) 0 st.pre (kK st.i all φm)) st.σ o with
   |none=>af
   |some (x,σ',obs) =>
    c9 (Fx st.cls es) λa =>
    match σ',IP (jm (λj=>fJ j es) 0 st.pre (kK st.i all φm)) o with
    |none,ae=>c9 (st.pre++[(o.dst,x)]) λpre=>c9 (st.cls++[a]) λcls=>c9 (kl obs st.obs) λobs=>aa ⟨st.i+1,pre,st.σ,cls,st.zF,st.Nq,obs⟩
    |none,ab=>match sT st.zF a with
     |true=>c9 (st.pre++[(o.dst,x)]) λpre=>c9 (st.cls++[a]) λcls=>c9 (kl obs st.obs) λobs=>c9 (xF st.Nq (sS st.i)) λb=>aa ⟨st.i+1,pre,st.σ,cls,st.zF,b,obs⟩
     |false=>af
    |some σ',_=>match sT st.Nq a with
     |true=>c9 (st.pre++[(o.dst,x)]) λpre=>c9 (st.cls++[a]) λcls=>c9 (kl obs st.obs) λobs=>c9 (xF st.Nq (sS st.i)) λb=>c9 (xF st.zF (sS st.i)) λc=>aa ⟨st.i+1,pre,σ',cls,c,b,obs⟩
     |false=>af
def Nr(T:List (Nat×TI))(CT:List (Nat×dh))(N:Nat)(ds:List (Nat×Bool))(all:List aw)(φm:List (Nat×D×Bool)):List aw->Di->Option Di
 |[],st=>aa st
 |o::r,st=>match rM T CT N ds all φm st o with
  |some qh=>Nr T CT N ds all φm r qh
  |none=>af
def Fy(T:List (Nat×TI))(CT:List (Nat×dh))(N:Nat)(ds:List (Nat×Bool))(all:List aw)(φ:Fr)(σ:List aV):Option (Fr×List aV×List Prop) :=
 match mo all with
 |false=>af
 |true=>c9 (oV all φ) λφm=>match Nr T CT N ds all φm all ⟨0,[],σ,[],[],[],[]⟩ with
  |some st=>c9 (jm (λ_=>ab) 0 st.pre (ux all φ)) λa=>aa (a,st.σ,st.obs)
  |none=>af
section
open Go.Conc (G)
def fT:aw:=⟨af,.move (.tmp 0),0,"",#[],af⟩
section
variable (T:List (Nat×TI))(CT:List (Nat×dh))(N:Nat)(ds:List (Nat×Bool))(all:List aw)(φm:List (Nat×D×Bool))
def xG(st:Di):Nat->Di
 |0=>st
 |i+1=>(rM T CT N ds all φm (xG st i) (all.getD i fT)).getD (xG st i)
def Pu(st:Di)(i:Nat):Fr:=jm (λj=>fJ j (bR (all.getD i fT).after.toList)) 0 (xG T CT N ds all φm st i).pre (kK (xG T CT N ds all φm st i).i all φm)
def Fz(st:Di)(i:Nat):Option (D×Option (List aV)×List Prop):=Fw T CT ds all (Pu T CT N ds all φm st i) (xG T CT N ds all φm st i).σ (all.getD i fT)
def xD(st:Di)(i:Nat):D:=match Fz T CT N ds all φm st i with|some (x,_,_)=>x|none=>.any
def oA(st:Di)(i:Nat):Bool:=match Fz T CT N ds all φm st i with|some (_,aa _,_)=>ab|_=>ae
def tJ(st:Di)(i:Nat):Bool:=!IP (Pu T CT N ds all φm st i) (all.getD i fT)&&!oA T CT N ds all φm st i
def Pv(st:Di)(i:Nat):List Bool:=Fx (xG T CT N ds all φm st i).cls (bR (all.getD i fT).after.toList)
end
section
variable {T:List (Nat×TI)}{CT:List (Nat×dh)}{N:Nat}{ds:List (Nat×Bool)}{all:List aw}{φm:List (Nat×D×Bool)}
structure Ju (T:List (Nat×TI))(CT:List (Nat×dh))(N:Nat)(ds:List (Nat×Bool))(all:List aw)(φm:List (Nat×D×Bool))(st qh:Di)(o:aw)(x:D)(σ':Option (List aV))(obs:List Prop):Prop where
 dst:gw N o.dst=ab
 lt:SZ st.i (bR o.after.toList)=ab
 op:Fw T CT ds all (jm (λj=>fJ j (bR o.after.toList)) 0 st.pre (kK st.i all φm)) st.σ o=aa (x,σ',obs)
 i:qh.i=st.i+1
 pre:qh.pre=st.pre++[(o.dst,x)]
 cls:qh.cls=st.cls++[Fx st.cls (bR o.after.toList)]
 σ:qh.σ=σ'.getD st.σ
 obs:qh.obs=kl obs st.obs
 eff:qh.zF=if σ'.isSome=ab then xF st.zF (sS st.i) else st.zF
 nf:qh.Nq=if (IP (jm (λj=>fJ j (bR o.after.toList)) 0 st.pre (kK st.i all φm)) o||σ'.isSome)=ab then xF st.Nq (sS st.i) else st.Nq
 load:IP (jm (λj=>fJ j (bR o.after.toList)) 0 st.pre (kK st.i all φm)) o=ab->σ'.isSome=ae->sT st.zF (Fx st.cls (bR o.after.toList))=ab
 lb:σ'.isSome=ab->sT st.Nq (Fx st.cls (bR o.after.toList))=ab
def Bw{st qh:Di}{o:aw}(h:rM T CT N ds all φm st o=aa qh):∃ x σ' obs,Ju T CT N ds all φm st qh o x σ' obs:=by
 unfold rM at h;split at h
 .cases h
 rename_i b
 simp only[cR] at h;split at h
 .cases h
 rename_i a
 split at h
 .cases h
 rename_i x σ' obs mi
 refine⟨x,σ',obs,?_⟩;cases σ' with
 |none =>
  cases d:IP (jm (λj=>fJ j (bR o.after.toList)) 0 st.pre (kK st.i all φm)) o with
  |false =>
   simp only[d,cR] at h;cases h;exact⟨b,a,mi,rfl,rfl,rfl,rfl,rfl,by simp,by grind,by grind,by simp⟩
  |true =>
   simp only[d,cR] at h;split at h
   .rename_i c
    cases h;exact⟨b,a,mi,rfl,rfl,rfl,rfl,rfl,by simp,by grind,λ_ _=>c,by simp⟩
   grind
 |some σ' =>
  simp only[cR] at h;split at h
  .rename_i c
   cases h;exact⟨b,a,mi,rfl,rfl,rfl,rfl,rfl,by simp,by simp,by simp,λ_=>c⟩
  grind
def FB{st sf:Di}:∀ {rest:List aw}{k:Nat},(∀ i,rest[i]?=all[k+i]?)->Nr T CT N ds all φm rest (xG T CT N ds all φm st k)=aa sf ->
  (∀ i o,rest[i]?=aa o->rM T CT N ds all φm (xG T CT N ds all φm st (k+i)) o=aa (xG T CT N ds all φm st (k+i+1)))/\xG T CT N ds all φm st (k+rest.length)=sf
 |[],k,_,h=>by
  cases h
  grind
 |p::r,k,c,h=>by
  simp only[Nr] at h;have d:all[k]?=aa p:=by have:=c 0;grind
  split at h
  .rename_i a b
   have e:xG T CT N ds all φm st (k+1)=a:=by
    simp only[xG,ai,d,fI,b]
   rw[<-e] at h;obtain⟨g,f⟩:=FB (rest:=r) (k:=k+1) (λi=>by have:=c (i+1);grind) h
   grind
  grind
theorem Bx{j:Nat}:∀ {l:List Nat},fJ j l=ab->j∈l:=by
 intro l
 induction l with
 |nil=>intro h;cases h
 |cons a r b =>
  intro h;simp only[fJ] at h
  grind [Nat.eq_of_beq_eq_true]
def Jv{P:aq}{X:Cx P}(hf:P.follows Departure.mixedOrders=ab)(hT:db P T)(hC:bC X CT){ops:Array aw}{φ φ':Fr}{σ σ':List aV}{obs:List Prop}(h:Fy T CT N ds ops.toList φ σ=aa (φ',σ',obs))(abW:ag obs){Q:Post}(hQ:Q .normal φ' σ')(id:Nat) :
  AW X N (.region id ops ab) Q φ σ:=by
 unfold Fy at h;split at h
 .cases h
 rename_i ZC
 rw[cR] at h;split at h
 case h_2=>cases h
 rename_i sf vt
 rw[cR] at h;cases h;generalize QH:ops.toList=all at *;generalize WQ:oV all φ=φm at *;have G:∀ i:Nat,ops[i]?=all[i]?:=λi=>by grind
 have Dv:ops.size=all.length:=by grind
 let g:Di:=⟨0,[],σ,[],[],[],[]⟩
 obtain⟨E,J⟩:=FB (T:=T) (CT:=CT) (N:=N) (ds:=ds) (φm:=φm) (st:=g) (rest:=all) (k:=0) (λi=>by simp) vt
 simp only[bt] at E J
 let F:=xG T CT N ds all φm g
 have r:∀ i o,all[i]?=aa o->all.getD i fT=o:=λi o h=>by grind
 have ZD:∀ i o,all[i]?=aa o->Pu T CT N ds all φm g i=(jm (λj=>fJ j (bR (o).after.toList)) 0 (F i).pre (kK (F i).i all φm)):=λi o h=>by
  unfold Pu
  grind
 have facts:∀ i o,all[i]?=aa o->∃ K,Ju T CT N ds all φm (F i) (F (i+1)) o (xD T CT N ds all φm g i) (if oA T CT N ds all φm g i=ab then aa (F (i+1)).σ else af) K:=by
  intro i o q;obtain⟨x,σ1,K,n⟩:=Bw (E i o q);have A:=n.op;have hR:Fz T CT N ds all φm g i=aa (x,σ1,K):=by
   unfold Fz Pu;grind
  have hx:xD T CT N ds all φm g i=x:=by unfold xD;rw[hR]
  cases σ1 with
  |none =>
   have z:oA T CT N ds all φm g i=ae:=by unfold oA;rw[hR]
   grind
  |some σ2 =>
   have z:oA T CT N ds all φm g i=ab:=by unfold oA;rw[hR]
   have WR:(F (i+1)).σ=σ2:=n.σ
   grind
 have M:∀ i,i<=all.length->(F i).i=i:=by
  intro i
  induction i with
  |zero=>intro _;rfl
  |succ i C =>
   intro hi;obtain⟨_,n⟩:=facts i _ (br (by omega))
   rw[n.i,C (by omega)]
 have TM:∀ i,i<=all.length->∀ j,(F i).pre[j]?=if j<i then (all[j]?).map (λo=>(o.dst,xD T CT N ds all φm g j)) else af:=by
  intro i
  induction i with
  |zero=>intro _ j;simp[F,xG,g]
  |succ i C =>
   intro hi j;obtain⟨_,n⟩:=facts i _ (br (by omega))
   have hlen:(F i).pre.length=i:=by
    apply Nat.le_antisymm
    .grind
    grind
   rw[n.pre]
   grind
 have WT:∀ i,i<=all.length->∀ j,(F i).cls[j]?=if j<i then aa (Pv T CT N ds all φm g j) else af:=by
  intro i
  induction i with
  |zero=>intro _ j;simp[F,xG,g]
  |succ i C =>
   intro hi j;obtain⟨_,n⟩:=facts i _ (br (by omega))
   have hlen:(F i).cls.length=i:=by
    apply Nat.le_antisymm
    .apply Nat.le_of_not_lt
     intro u;have:=C (by omega) i
     grind
    grind
   rw[n.cls]
   by_cases WU:j<i
   .grind
   .rw[gh (by omega)]
    by_cases e:j=i
    .subst e;rw[bc (by omega),hlen,rm]
     simp only[kW,Pv,r j _ (br (by omega:j<all.length))]
     rfl
    grind
 have abX:∀ i,i<=all.length->∀ j,bit (F i).zF j=(decide (j<i)&&oA T CT N ds all φm g j):=by
  intro i
  induction i with
  |zero=>intro _ j;simp[F,xG,g,bit]
  |succ i C =>
   intro hi j;obtain⟨_,n⟩:=facts i _ (br (by omega))
   rw[n.eff];cases z:oA T CT N ds all φm g i with
   |false =>
    grind
   |true =>
    simp only[cq,Option.isSome_some];rw[mq,C (by omega) j,rL,M i (by omega)]
    by_cases e:j=i
    .grind
    grind
 have nfI:∀ i,i<=all.length->∀ j,bit (F i).Nq j=(decide (j<i)&&!tJ T CT N ds all φm g j):=by
  intro i
  induction i with
  |zero=>intro _ j;simp[F,xG,g,bit]
  |succ i C =>
   intro hi j;obtain⟨_,n⟩:=facts i _ (br (by omega))
   have TN:(if oA T CT N ds all φm g i=ab then aa (F (i+1)).σ else af).isSome=oA T CT N ds all φm g i:=by cases oA T CT N ds all φm g i <;> rfl
   have VT:tJ T CT N ds all φm g i=!(IP (jm (λj=>fJ j (bR (all[i]'(by omega)).after.toList)) 0 (F i).pre (kK (F i).i all φm)) (all[i]'(by omega))||oA T CT N ds all φm g i):=by
    unfold tJ;rw[ZD i _ (br (by omega)),r i _ (br (by omega))]
    simp
   rw[n.nf,TN];cases z:(IP (jm (λj=>fJ j (bR (all[i]'(by omega)).after.toList)) 0 (F i).pre (kK (F i).i all φm)) (all[i]'(by omega))||oA T CT N ds all φm g i) with
   |false =>
    grind
   |true =>
    simp only[cq];rw[mq,C (by omega) j,rL,M i (by omega)]
    by_cases e:j=i
    .grind
    grind
 have Z:∀ i,i<=all.length->ag (F i).obs:=by
  have back:∀ k i,i+k=all.length->ag (F i).obs:=by
   intro k
   induction k with
   |zero =>
    grind
   |succ k C =>
    intro i hi;obtain⟨_,n⟩:=facts i _ (br (by omega))
    have:=C (i+1) (by omega)
    rw[n.obs,ag.cat] at this;exact this.2
  intro i hi;exact back (all.length-i) i (by omega)
 have oaI:∀ i o,all[i]?=aa o->OA X N all o (Pu T CT N ds all φm g i) (F i).σ (xD T CT N ds all φm g i) (F (i+1)).σ:=by
  intro i o q;have hi:i<all.length:=(cp.1 q).1;obtain⟨_,n⟩:=facts i o q;have Pw:=Z (i+1) (by omega)
  rw[n.obs,ag.cat] at Pw;have:=dW (P:=P) (N:=N) hT hC n.op Pw.1;rw[n.σ]
  grind
 let idx:Nat->Option Nat:=λt=>(bh all.length).find? (λi=>decide ((all.getD i fT).dst=aa t))
 have I:∀ t j,idx t=aa j->∃ o,all[j]?=aa o/\o.dst=aa t:=by
  grind
 have O:∀ i o d,all[i]?=aa o->o.dst=aa d->idx d=aa i:=by
  intro i o d q hd;have hi:i<all.length:=(cp.1 q).1;cases hx:idx d with
  |none =>
   grind
  |some j =>
   grind [sR]
 have Y:∀ t,oU t all=ab↔∃ j,idx t=aa j:=by
  grind [pS,rK]
 have W:∀ i o,all[i]?=aa o->∀ e∈o.after,cZ e=ab->e.on<i:=by
  intro i o q e z S;have hi:i<all.length:=(cp.1 q).1;obtain⟨_,n⟩:=facts i o q;have:=DL n.lt e.on (eD.2 ⟨e,by grind,S,rfl⟩)
  grind
 have ZE:=W;have hd:vI X N ops φ (λi=>(F i).σ) (xD T CT N ds all φm g) (Pu T CT N ds all φm g) (tJ T CT N ds all φm g) (λi=>decide (i<all.length)&&oA T CT N ds all φm g i) (λi j=>i<all.length/\bit (Pv T CT N ds all φm g i) j=ab) idx (jm (λ_=>ab) 0 sf.pre (ux all φ)):=by
  refine⟨hf,?_,?_,?_,?_,?_,?_,?_,?_,?_,?_⟩
  .grind
  .intro i o d q hd;rw[G] at q;obtain⟨_,n⟩:=facts i o q;exact⟨O i o d q hd,ik n.dst d hd⟩
  .grind
  .intro i z;rcases cG i all.length with hi|hi
   .obtain⟨_,n⟩:=facts i _ (br hi);have:oA T CT N ds all φm g i=ae:=by grind
    have hσ:=n.σ
    grind
   .have h0:all.getD i fT=fT:=by grind
    show (F (i+1)).σ=(F i).σ;have:rM T CT N ds all φm (F i) fT=af∨∃ s',rM T CT N ds all φm (F i) fT=aa s':=by
     cases rM T CT N ds all φm (F i) fT with
     |none=>grind
     |some s'=>grind
    show ((rM T CT N ds all φm (F i) (all.getD i fT)).getD (F i)).σ=(F i).σ;rw[h0];rcases this with h|⟨s',h⟩
    .grind
    .rw[h];obtain⟨x,σ1,ob,n⟩:=Bw h;have A:=n.op;have:σ1=af:=by
      unfold Fw at A;simp only[fT,Np,VU,Jw,m6] at A
      grind
     rw[fI,n.σ,this];rfl
  .grind
  .intro i o q FC;rw[G] at q;have hi:i<all.length:=(cp.1 q).1;have p:IP (jm (λj=>fJ j (bR (o).after.toList)) 0 (F i).pre (kK (F i).i all φm)) o=ae/\oA T CT N ds all φm g i=ae:=by
    unfold tJ at FC
    grind
   refine⟨by grind,λk=>?_⟩
   obtain⟨ob,n⟩:=facts i o q;have A:=n.op;rw[p.2] at A;have WV:=Jt p.1 (by simpa using A) (F k).σ
   have Pw:=Z (i+1) (by omega)
   rw[n.obs,ag.cat] at Pw;have:=dW (P:=P) (N:=N) hT hC WV Pw.1
   grind
  .intro L hL i j ⟨hi,S⟩;have gu:∀ i,i<all.length->L i->∀ e,e∈bR (all.getD i fT).after.toList->L e:=by
    intro i hi ZF e z;rw[r i _ (br hi)] at z;obtain⟨e',V,h2,rfl⟩:=eD.1 z
    grind
   have key:∀ i,i<all.length->∀ j,bit (Pv T CT N ds all φm g i) j=ab->(∀ e∈bR (all.getD i fT).after.toList,L e)->L j:=by
    intro i
    induction i using Nat.strongRecOn with
    |_ i C =>
     intro hi j S TO;obtain⟨e,z,h⟩:=zG S;have u:e<i:=by
      have Qx:=z;rw[r i _ (br hi)] at Qx;obtain⟨e',V,h2,rfl⟩:=eD.1 Qx
      grind
     rcases h with rfl|⟨c,hc,I2⟩
     .grind
     .have:=WT i (by omega) e
      rw[bc u] at this;have Ws:(F i).cls[e]?=aa c:=hc;rw[Ws] at this;cases this;exact C e u (by omega) j I2 (gu e (by omega) (TO e z))
   refine⟨λZF=>key i hi j S (gu i hi ZF),all[i],by grind,λQF=>key i hi j S ?_⟩
   grind [List.getElem?_eq_getElem,eD]
  .intro i f hi SY z Bh ZG;rw[Dv] at hi SY;have Qx:oA T CT N ds all φm g f=ab:=by grind
   rcases cG f i with u|SU
   .refine .inl ⟨u,hi,?_⟩;obtain⟨_,n⟩:=facts i _ (br hi);have GI:Pv T CT N ds all φm g i=Fx (F i).cls (bR (all[i]).after.toList):=by unfold Pv;grind
    rw[GI];cases hei:oA T CT N ds all φm g i with
    |true =>
     have V:=n.lb (by grind)
     refine pT V ?_;rw[nfI i (by omega) f]
     have:tJ T CT N ds all φm g f=ae:=by unfold tJ;grind
     grind
    |false =>
     have VV:IP (jm (λj=>fJ j (bR (all[i]).after.toList)) 0 (F i).pre (kK (F i).i all φm)) all[i]=ab:=by
      unfold tJ at ZG;rw[ZD i _ (br hi),r i _ (br hi),hei] at ZG
      grind
     have V:=n.load VV (by grind)
     grind [pT]
   .have u:i<f:=by omega
    refine .inr ⟨u,SY,?_⟩;obtain⟨_,n⟩:=facts f _ (br SY);have GI:Pv T CT N ds all φm g f=Fx (F f).cls (bR (all[f]).after.toList):=by unfold Pv;grind
    rw[GI];have V:=n.lb (by grind)
    grind [pT]
  .intro i o q t σ s v U;rw[G] at q;have hi:i<all.length:=(cp.1 q).1;unfold Pu;rw[r i o q];rcases m7 (m:=λj=>fJ j (bR o.after.toList)) (φ:=kK (F i).i all φm) (t:=t) (l:=(F i).pre) (i:=0) with⟨j,x,V,h2,h3⟩|h3
   .have WW:look (jm (λj=>fJ j (bR o.after.toList)) 0 (xG T CT N ds all φm g i).pre (kK (xG T CT N ds all φm g i).i all φm)) t=x:=h3
    rw[WW];have hp:=TM i (by omega) j
    rw[V] at hp;have WU:j<i:=by
     grind
    rw[bc WU,br (by omega:j<all.length)] at hp
    simp only[j6,de,k7] at hp;obtain⟨hp1,hp2⟩:=hp;have B:=O j _ t (br (by omega:j<all.length)) hp1.symm
    rw[B] at U;simp only at U;rw[bc] at U
    .grind
    .have WX:j∈bR o.after.toList:=by
      simp only[bt] at h2;exact Bx h2
     obtain⟨e,a,b,c⟩:=eD.1 WX
     grind
   .have WW:look (jm (λj=>fJ j (bR o.after.toList)) 0 (xG T CT N ds all φm g i).pre (kK (xG T CT N ds all φm g i).i all φm)) t=look (kK (F i).i all φm) t:=h3
    rw[WW,M i (by omega),<-WQ,yf]
    split
    .trivial
    .rename_i ZH
     cases B:idx t with
     |some j =>
      have hD:=(Y t).2 ⟨j,B⟩;have hN:vK i t all=ae:=by
       grind
      obtain⟨oj,WL,WM⟩:=I t j B;have hm:=Bx (vL hN j oj WL WM);obtain⟨e,z,S,heq⟩:=eD.1 hm;rw[B] at U;simp only at U;split at U
      ·
       rename_i hex
       obtain⟨e2,VK,hb2,ab1⟩:=hex
       grind
      .rw[bc ⟨oj,by grind,e,by grind,S,heq⟩] at U
       exact U
     |none=>grind
  .intro t σ s v U;have hF:F all.length=sf:=J;rcases m7 (m:=λ_=>ab) (φ:=ux all φ) (t:=t) (l:=sf.pre) (i:=0) with⟨j,x,V,_,h3⟩|h3
   .rw[h3];have hp:=TM all.length (bg _) j;rw[hF,V] at hp;have WU:j<all.length:=by
     grind
    grind
   .rw[h3,lK];split
    .trivial
    grind
 intro s a VT hh b kk cs SS S WY;have MR:F ops.size=sf:=by grind
 refine .next rfl λy R=>?_
 have R:=X.ij R;have H:=hh.rely R;have WZ:=VT.rely R hh;have QI:Step σ y σ { y with w:={ y.w with drawn:=y.w.drawn+1 } }:=Step.same rfl rfl rfl rfl;have Fc:aJ σ { y with w:={ y.w with drawn:=y.w.drawn+1 } }:=H.same rfl;have ZI:=R.stepW.trans (QI.ox H);refine⟨_,{ y with w:={ y.w with drawn:=y.w.drawn+1 } },#[],lP,⟨⟨σ,σ,H,Fc,QI⟩,.nil⟩,?_⟩;simp only[Region.schedule,hf,Bool.true_or,cq];refine hd.arr S (s0:={ y with w:={ y.w with drawn:=y.w.drawn+1 } }) (λs2 a2 f2 h2 ot=>?_) ops.size _ (by simp) ?_ ?_ 0 _ a (by omega) ?_ ?_ Fc (.refl _ _) _
 .simp only[MR] at f2 h2 ot;exact WY .normal _ _ s2 a2 hQ f2 h2 (ZI.trans ot)
 .simp
 .intro i o q hi;simp[dC,mI] at hi;split at hi <;> simp at hi
 .intro f SY VS;simp[dC,mI];split <;> simp
 .have p:=WZ.mono (QI.ox H) H.len;refine⟨p.size,p.defers,λt=>?_⟩
  unfold fZ;cases B:idx t with
  |none=>exact p.slot t
  |some j =>
   simp only;rw[aY]
   .exact p.slot t
   .simp[dC,mI];split <;> simp
end
end
section
variable {P:aq}{X:Cx P}{N:Nat}{Qf:Post}{K:List It}{φ:Fr}{σ:List aV}
theorem AK.draw{T:List (Nat×TI)}{CT:List (Nat×dh)}(c:P.follows Departure.mixedOrders=ab)(d:db P T)(hC:bC X CT){ds:List (Nat×Bool)}{ops:Array aw}{a:Fr}{σ':List aV}{obs:List Prop}{id:Nat}
  (h:Fy T CT N ds ops.toList φ σ=aa (a,σ',obs)) (b:ag obs) (k:AK X N Qf K .normal a σ'):AK X N Qf (.code (.region id ops ab)::K) .normal φ σ :=
 Jv c d hC h b k id
end
def vG(T:List (Nat×TI))(CT:List (Nat×dh))(ds:List (Nat×Bool))(N:Nat)(K:List It)(φ:Fr)(σ:List aV):Option (List It×Fr×List aV×List Prop) :=
 match K with
 |[]=>af
 |.blk _::K=>aa (K,φ,σ,[])
 |.ops _ []::K=>aa (K,φ,σ,[])
 |.ops all (o::rest)::K=>match gw N o.dst with
  |true=>match Fw T CT ds all φ σ o with
   |some (x,af,obs)=>c9 (lA o.dst x φ) λφ=>aa (.ops all rest::K,φ,σ,obs)
   |some (x,aa σ',obs)=>c9 (lA o.dst x φ) λφ=>aa (.ops all rest::K,φ,σ',obs)
   |none=>af
  |false=>af
 |.code c::K=>match c with
  |.skip=>aa (K,φ,σ,[])
  |.seq x y=>aa (.code x::.code y::K,φ,σ,[])
  |.block id c=>aa (.code c::.blk id::K,φ,σ,[])
  |.region id ops d=>match Bz ds (id+1000000) with
   |some _=>af
   |none=>match d with
    |false=>aa (.ops ops.toList ops.toList::K,φ,σ,[])
    |true=>match Fy T CT N ds ops.toList φ σ with
     |some (a,σ',obs)=>aa (K,a,σ',obs)
     |none=>af
  |.exit id=>match kM id K with
   |some K'=>aa (K',φ,σ,[])
   |none=>af
  |.cond (.tmp t) x y=>match look φ t with
   |.e (.one (.c (.bool ab)))=>aa (.code x::K,φ,σ,[])
   |.e (.one (.c (.bool ae)))=>aa (.code y::K,φ,σ,[])
   |_=>af
  |_=>af
def Kh{P:aq}{X:Cx P}(m:P.follows Departure.mixedOrders=ab){T:List (Nat×TI)}(f:db P T){CT:List (Nat×dh)}(i:bC X CT){ds:List (Nat×Bool)}{N:Nat}{Qf:Post}{K l:List It}{φ b:Fr}{σ σ':List aV}{obs:List Prop}
  (h:vG T CT ds N K φ σ=aa (l,b,σ',obs)) (g:ag obs) (k:AK X N Qf l .normal b σ'):AK X N Qf K .normal φ σ:=by
 unfold vG at h;split at h
 .cases h
 .cases h;exact AK.Rh k
 .cases h;exact AK.Ri k
 .rename_i all o rest K0
  cases d:gw N o.dst with
  |false=>simp[d] at h
  |true =>
   simp only[d] at h;have j:=ik d;split at h
   .rename_i x a e
    rw[cR] at h;cases h;exact jC.sZ (dW f i e g) j k
   .rename_i x σ1 a e
    rw[cR] at h;cases h;exact jC.sZ (dW f i e g) j k
   .cases h
 .rename_i c K0
  split at h
  .cases h;exact AK.skip k
  .cases h;exact AK.seq k
  .cases h;exact AK.block k
  .grind [AK.region,AK.draw]
  .grind [AK.exit]
  .grind [AK.cond]
  .cases h
def eW(T:List (Nat×TI))(CT:List (Nat×dh))(ds:List (Nat×Bool))(N:Nat):Nat->List It->Fr->List aV->List Prop->Option (List It×Fr×List aV×List Prop)
 |0,K,φ,σ,obs=>c9 obs λobs=>aa (K,φ,σ,obs)
 |n+1,K,φ,σ,obs=>match vG T CT ds N K φ σ with
  |some (b,a,σ',o)=>eW T CT ds N n b a σ' (kl o obs)
  |none=>c9 obs λobs=>aa (K,φ,σ,obs)
def FW{P:aq}{X:Cx P}(g:P.follows Departure.mixedOrders=ab){T:List (Nat×TI)}(f:db P T){CT:List (Nat×dh)}(i:bC X CT){ds:List (Nat×Bool)}{N:Nat}{Qf:Post}:∀ {n:Nat}{K c:List It}{φ a:Fr}{σ σ':List aV}{obs DQ:List Prop},
  eW T CT ds N n K φ σ obs=aa (c,a,σ',DQ)->ag DQ->AK X N Qf c .normal a σ'->AK X N Qf K .normal φ σ/\ag obs
 |0,K,c,φ,a,σ,σ',obs,DQ,h,b,k=>by
  simp only[eW,cR] at h;cases h;exact⟨k,b⟩
 |n+1,K,c,φ,a,σ,σ',obs,DQ,h,b,k=>by
  simp only[eW] at h;cases d:vG T CT ds N K φ σ with
  |none =>
   simp only[d,cR] at h;cases h;exact⟨k,b⟩
  |some r =>
   obtain⟨o,j,σ1,m⟩:=r;simp only[d] at h;obtain⟨l,e⟩:=FW g f i h b k;rw[ag.cat] at e;exact⟨Kh g f i d e.1 l,e.2⟩
def AK.eW{P:aq}{X:Cx P}(f:P.follows Departure.mixedOrders=ab){T:List (Nat×TI)}(d:db P T){CT:List (Nat×dh)}(hC:bC X CT)(ds:List (Nat×Bool)){N:Nat}{Qf:Post}(n:Nat){K c:List It}{φ b:Fr}{σ σ':List aV}{a:List Prop}
  (h:AM.eW T CT ds N n K φ σ []=aa (c,b,σ',a)) (e:ag a) (k:AK X N Qf c .normal b σ'):AK X N Qf K .normal φ σ:=(FW f d hC h e k).1
section
variable {P:aq}{X:Cx P}{N:Nat}{Qf:Post}{K:List It}{φ:Fr}{σ:List aV}
def zC(rs:List ResultVar)(ks:List Nat)(φ:Fr)(res:D):Option (List Prop) :=
 match xC φ rs with
 |some ds=>match rG ds with
  |some d=>match u5 ks.length res with
   |true=>Dh d (jB ks res)
   |false=>af
  |none=>af
 |none=>af
def AK.dD{fn:Func}{a:Nat}{res:D}{σ':List aV}(ks:List Nat){ps:List Prop}(h:zC fn.results.toList ks φ res=aa ps)(d:ag ps)(c:kI ks σ=aa σ')(b:ld σ'=ab)(hn:eg ks=ab)(e:∀ j,j<a->ks[j]?=aa j) :
  AK X N (b5 fn a res σ') (.code .ret::K) .normal φ σ:=by
 refine AK.ret ⟨.inl rfl,ks,?_⟩;unfold zC at h
 grind
def AK.bm{fn:Func}{res:D}{ps:List Prop}(h:zC fn.results.toList [] φ res=aa ps)(a:ag ps):AK X N (b5 fn 0 res []) (.code .ret::K) .normal φ σ :=
 AK.dD [] h a rfl rfl rfl (λj h=>by omega)
def b5.zero{fn:Func}{res:D}{ps:List Prop}(h:zC fn.results.toList [] φ res=aa ps)(c:ag ps):b5 fn 0 res [] .ret φ σ:=by
 refine⟨.inl rfl,[],?_⟩;unfold zC at h;split at h
 .rename_i ds Xw
  split at h
  .rename_i d b
   split at h
   .rename_i a
    exact⟨ds,d,ps,Xw,b,h,c,a,rfl,rfl,rfl,λj h=>by omega⟩
   .cases h
  .cases h
 .cases h
def AK.leave{id:Nat}{φ:Fr}{σ:List aV}{A:Fr->List aV->Prop}{Qr:Post}{K n m:List It}(h1:kM id K=af)(h2:kM id n=aa m)(k:AK X N Qr m .normal φ σ) :
  AK X N (λe f σ'=>match e with
   |.normal=>A f σ'
   |e=>AK X N Qr n e f σ') (.code (.exit id)::K) .normal φ σ:=by
 have key:∀ {K:List It},kM id K=af->∀ {Q:Post},Q (.exit id) φ σ->AK X N Q K (.exit id) φ σ:=by
  intro K
  induction K with
  |nil=>intro _ Q h;exact h
  |cons i r l =>
   intro d Q h;cases i with
   |code c=>exact l (by simpa[kM] using d) h
   |ops a b=>exact l (by simpa[kM] using d) h
   |blk j =>
    simp only[kM] at d;cases hb:aG id j with
    |true=>simp[hb] at d
    |false =>
     simp[hb] at d;have g:id≠j:=λe=>by rw[e,iM] at hb;cases hb
     simp only[AK,g,b9];exact l d h
 exact AW.exit (key h1 (AK.wa h2 k))
def AK.gJ{φ:Fr}{σ:List aV}{A:Fr->List aV->Prop}{Qr:Post}{K b:List It}(k:Qr .ret φ σ) :
  AK X N (λe a σ'=>match e with
   |.normal=>A a σ'
   |e=>AK X N Qr b e a σ') (.code .ret::K) .normal φ σ:=AK.ret (AK.rY (Qf:=Qr) k)
def AK.again{S:Type}{I:S->Prop}{fr:S->Fr}{st:S->List aV}{b:S->Nat}{x:S}{Qr:Post}(y:S){ps:List Prop}(f:qD φ (fr y)=aa ps)(h:ag ps)(g:I y)(d:b y<b x)(c:σ=st y) :
  AK X N (λe a σ'=>match e with
   |.normal=>∃ y,I y/\b y<b x/\oZ a (fr y)/\σ'=st y
   |e=>Qr e a σ') [] .normal φ σ:=⟨y,g,d,dc f h,c⟩
def AK.wc{S:Type}{c:Code}(I:S->Prop)(fr:S->Fr)(st:S->List aV)(b:S->Nat)(x:S){ps:List Prop}(f:qD φ (fr x)=aa ps)(g:ag ps)(h:I x)(d:st x=σ)
  (round:∀ x,I x->AK X N (λe a σ'=>match e with
   |.normal=>∃ y,I y/\b y<b x/\oZ a (fr y)/\σ'=st y
   |e=>AK X N Qf K e a σ') [.code c] .normal (fr x) (st x)):AK X N Qf (.code (.loop c)::K) .normal φ σ :=
 AK.loop I fr st b x h (dc f g) d round
def Fits(args:List D)(σ:List aV):Prop:=∃ s vs,cw σ s vs args/\aJ σ s
def Fits.at{args:List D}{σ:List aV}(h:Fits args σ){j:Nat}{d:D}(hj:args[j]?=aa d):∃ s v,c8 σ s v d:=by
 obtain⟨s,vs,a,_⟩:=h;obtain⟨_,b⟩:=cw.get a
 grind
def Fits.str{args:List D}{σ:List aV}(h:Fits args σ)(j:Nat){l:List UInt8}(hj:args[j]?=aa (.e (.one (.c (.str l))))):l.length<=9223372036854775807:=by
 obtain⟨s,v,a⟩:=h.at hj;cases fx a with
 |str h hl=>exact hl
def Fits.sl{args:List D}{σ:List aV}(h:Fits args σ)(j:Nat){t:Bool}{k n:Nat}{es:Nat->List C}(hj:args[j]?=aa (.e (.one (.c (.sl t k n es))))):n<=9223372036854775807:=by
 obtain⟨s,v,d⟩:=h.at hj;cases fx d with
 |sl b off f a hb=>omega
def Ev.body{f:aW}{fn:Func}{c:Code}{args:List D}{σ σ':List aV}{res:D}(d:P.funcs[f]?=aa fn)(a:(fn.name== "runtime.NumGoroutine")=ae)(hb:fn.body=aa c)(b:bo args.length fn.ntmps=ab)
  (h:Fits args σ->AK X fn.ntmps (b5 fn σ.length res σ') [.code c] .normal (ju 0 args) σ):Ev X f args σ res σ':=by
 refine⟨⟨fn,d,a,by rw[hb];rfl⟩,λs vs hr hh=>?_⟩
 exact(Ev.intro d a hb (c7 b) (AK.of_code (h ⟨s,vs,hr,hh⟩))).2 s vs hr hh
def Ev.bQ{f:aW}{fn:Func}{c:Code}{args:List D}{σ σ':List aV}{res:D}(b:P.funcs[f]?=aa fn)(a:(fn.name== "runtime.NumGoroutine",fn.body,bo args.length fn.ntmps)=(ae,aa c,ab))
  (h:Fits args σ->AK X fn.ntmps (b5 fn σ.length res σ') [.code c] .normal (ju 0 args) σ):Ev X f args σ res σ':=by
 simp only[k7] at a;exact Ev.body b a.1 a.2.1 a.2.2 h
def AK.join{c:Code}{d:List It}(b:Fr)(σ':List aV)(h:(∀ (a:Fr)(ps:List Prop),qD a b=aa ps->ag ps->AK X N Qf (.code c::d) .normal a σ')->AK X N Qf K .normal φ σ)
  (k:AK X N Qf (.code c::d) .normal b σ'):AK X N Qf K .normal φ σ :=
 h λ_ _ h1 h2=>AW.le k (dc h1 h2)
end
section
open Go.Proofs
def bx{P:aq}{t:ar}{i:TypeInfo}(h:P.types[t]?=aa i):P.info? t=aa i:=by
 unfold Tables.info?;rw[bc (hY.1 h).1];exact h
def db.nil{P:aq}:db P []:=λ_ _ h=>by cases h
def db.cons{P:aq}{t:ar}{i:TI}{T:List (Nat×TI)}(h:bG P t i)(r:db P T):db P ((t,i)::T):=by
 intro a i2 h2;simp only[bE] at h2;cases hb:aG t a with
 |true=>rw[hb] at h2;cases h2;rw[<-bU hb];exact h
 |false=>rw[hb] at h2;exact r a i2 h2
namespace R1
abbrev f0(a:String)(b c:Nat)(d:String)(e:Nat):Field:={ name:=a,type:=b,offset:=c,embedded:=ae,tag:= "",pkgPath:=d,byteOffset:=e }
def i2:TI:=⟨1,8,ae,TypeDesc.int IntKind.i64,[.int .i64 0],[]⟩
def g2:bG ah 2 i2:=⟨Tryz.underlying2,rfl,⟨_,_,bx Tryz.type2,rfl,rfl,rfl,rfl,⟨#[],rfl⟩,rfl⟩,λh=>absurd rfl h⟩
def i3:TI:=⟨1,8,ae,TypeDesc.int IntKind.i64,[.int .i64 0],[]⟩
def g3:bG ah 3 i3:=⟨Tryz.underlying3,rfl,⟨_,_,bx Tryz.type3,rfl,rfl,rfl,rfl,⟨#[],rfl⟩,rfl⟩,λh=>absurd rfl h⟩
def i4:TI:=⟨1,1,ae,TypeDesc.bool,[.bool ae],[]⟩
def g4:bG ah 4 i4:=⟨Tryz.underlying4,rfl,⟨_,_,bx Tryz.type4,rfl,rfl,rfl,rfl,⟨#[],rfl⟩,rfl⟩,λh=>absurd rfl h⟩
def i5:TI:=⟨1,1,ae,TypeDesc.int IntKind.u8,[.int .u8 0],[]⟩
def g5:bG ah 5 i5:=⟨Tryz.underlying5,rfl,⟨_,_,bx Tryz.type5,rfl,rfl,rfl,rfl,⟨#[],rfl⟩,rfl⟩,λh=>absurd rfl h⟩
def i6:TI:=⟨1,1,ae,TypeDesc.int IntKind.u8,[.int .u8 0],[]⟩
def g6:bG ah 6 i6:=⟨Tryz.underlying6,rfl,⟨_,_,bx Tryz.type6,rfl,rfl,rfl,rfl,⟨#[],rfl⟩,rfl⟩,λh=>absurd rfl h⟩
def i8:TI:=⟨4,24,ab,bn #[(f0 "x" 2 0 "runtime" 0),(f0 "y" 3 1 "runtime" 8),(f0 "signed" 4 2 "runtime" 16),(f0 "code" 6 3 "runtime" 17)],[.int .i64 0,.int .i64 0,.bool ae,.int .u8 0],[]⟩
def g8:bG ah 8 i8:=⟨Tryz.underlying8,rfl,⟨_,_,bx Tryz.type8,rfl,rfl,rfl,rfl,⟨_,rfl⟩,rfl⟩,λh=>absurd rfl h⟩
def i9:TI:=⟨1,16,ae,TypeDesc.string,[.str []],[]⟩
def g9:bG ah 9 i9:=⟨Tryz.underlying9,rfl,⟨_,_,bx Tryz.type9,rfl,rfl,rfl,rfl,⟨#[],rfl⟩,rfl⟩,λh=>absurd rfl h⟩
def i16:TI:=⟨1,8,ae,TypeDesc.pointer 305,[.kh],[]⟩
def g16:bG ah 16 i16:=⟨Tryz.underlying16,rfl,⟨_,_,bx Tryz.type16,rfl,rfl,rfl,rfl,⟨#[],rfl⟩,rfl⟩,λh=>absurd rfl h⟩
def i20:TI:=⟨1,16,ae,TypeDesc.interface #[],[.nN],[]⟩
def g20:bG ah 20 i20:=⟨Tryz.underlying20,rfl,⟨_,_,bx Tryz.type20,rfl,rfl,rfl,rfl,⟨#[],rfl⟩,rfl⟩,λh=>absurd rfl h⟩
def i21:TI:=⟨1,4,ae,TypeDesc.int IntKind.i32,[.int .i32 0],[]⟩
def g21:bG ah 21 i21:=⟨Tryz.underlying21,rfl,⟨_,_,bx Tryz.type21,rfl,rfl,rfl,rfl,⟨#[],rfl⟩,rfl⟩,λh=>absurd rfl h⟩
def i22:TI:=⟨1,24,ae,TypeDesc.slice 5,[.sl ab 0 0 (λ_=>[])],[]⟩
def g22:bG ah 22 i22:=⟨Tryz.underlying22,rfl,⟨_,_,bx Tryz.type22,rfl,rfl,rfl,rfl,⟨#[],rfl⟩,rfl⟩,λh=>absurd rfl h⟩
def i23:TI:=⟨1,24,ae,TypeDesc.slice 85,[.sl ab 0 0 (λ_=>[])],[]⟩
def g23:bG ah 23 i23:=⟨Tryz.underlying23,rfl,⟨_,_,bx Tryz.type23,rfl,rfl,rfl,rfl,⟨#[],rfl⟩,rfl⟩,λh=>absurd rfl h⟩
def i24:TI:=⟨1,24,ae,TypeDesc.slice 64,[.sl ab 0 0 (λ_=>[])],[]⟩
def g24:bG ah 24 i24:=⟨Tryz.underlying24,rfl,⟨_,_,bx Tryz.type24,rfl,rfl,rfl,rfl,⟨#[],rfl⟩,rfl⟩,λh=>absurd rfl h⟩
def i25:TI:=⟨1,24,ae,TypeDesc.slice 90,[.sl ab 0 0 (λ_=>[])],[]⟩
def g25:bG ah 25 i25:=⟨Tryz.underlying25,rfl,⟨_,_,bx Tryz.type25,rfl,rfl,rfl,rfl,⟨#[],rfl⟩,rfl⟩,λh=>absurd rfl h⟩
def i27:TI:=⟨3,72,ab,bn #[(f0 "Packs" 23 0 "" 0),(f0 "Snaps" 24 1 "" 24),(f0 "Log" 25 2 "" 48)],[.sl ab 0 0 (λ_=>[]),.sl ab 0 0 (λ_=>[]),.sl ab 0 0 (λ_=>[])],[]⟩
def g27:bG ah 27 i27:=⟨Tryz.underlying27,rfl,⟨_,_,bx Tryz.type27,rfl,rfl,rfl,rfl,⟨_,rfl⟩,rfl⟩,λh=>absurd rfl h⟩
def i28:TI:=⟨1,24,ae,TypeDesc.slice 3,[.sl ab 0 0 (λ_=>[])],[]⟩
def g28:bG ah 28 i28:=⟨Tryz.underlying28,rfl,⟨_,_,bx Tryz.type28,rfl,rfl,rfl,rfl,⟨#[],rfl⟩,rfl⟩,λh=>absurd rfl h⟩
def i30:TI:=⟨5,120,ab,bn #[(f0 "Store" 27 0 "" 0),(f0 "Marks" 28 3 "" 72),(f0 "Left" 28 4 "" 96)],[.sl ab 0 0 (λ_=>[]),.sl ab 0 0 (λ_=>[]),.sl ab 0 0 (λ_=>[]),.sl ab 0 0 (λ_=>[]),.sl ab 0 0 (λ_=>[])],[]⟩
def g30:bG ah 30 i30:=⟨Tryz.underlying30,rfl,⟨_,_,bx Tryz.type30,rfl,rfl,rfl,rfl,⟨_,rfl⟩,rfl⟩,λh=>absurd rfl h⟩
def i32:TI:=⟨4,40,ab,bn #[(f0 "Kind" 3 0 "" 0),(f0 "N" 3 1 "" 8),(f0 "M" 3 2 "" 16),(f0 "Body" 9 3 "" 24)],[.int .i64 0,.int .i64 0,.int .i64 0,.str []],[TypeDesc.int IntKind.i64,TypeDesc.int IntKind.i64,TypeDesc.int IntKind.i64,TypeDesc.string]⟩
def g32:bG ah 32 i32:=⟨Tryz.underlying32,rfl,⟨_,_,bx Tryz.type32,rfl,rfl,rfl,rfl,⟨_,rfl⟩,rfl⟩,λ_=>jQ (fs:=[(f0 "Kind" 3 0 "" 0),(f0 "N" 3 1 "" 8),(f0 "M" 3 2 "" 16),(f0 "Body" 9 3 "" 24)]) Tryz.underlying32 (by decide +kernel) Tryz.eqGuardType32 ⟨by decide,rfl,Tryz.underlying3,av,by decide,rfl,Tryz.underlying3,av,by decide,rfl,Tryz.underlying3,av,by decide,rfl,Tryz.underlying9,av,av⟩⟩
def i33:TI:=⟨1,24,ae,TypeDesc.slice 46,[.sl ab 0 0 (λ_=>[])],[]⟩
def g33:bG ah 33 i33:=⟨Tryz.underlying33,rfl,⟨_,_,bx Tryz.type33,rfl,rfl,rfl,rfl,⟨#[],rfl⟩,rfl⟩,λh=>absurd rfl h⟩
def i35:TI:=⟨12,216,ab,bn #[(f0 "Key" 3 0 "" 0),(f0 "Sweep" 30 1 "" 8),(f0 "Lie" 32 6 "" 128),(f0 "Keeps" 33 10 "" 168),(f0 "Found" 28 11 "" 192)],[.int .i64 0,.sl ab 0 0 (λ_=>[]),.sl ab 0 0 (λ_=>[]),.sl ab 0 0 (λ_=>[]),.sl ab 0 0 (λ_=>[]),.sl ab 0 0 (λ_=>[]),.int .i64 0,.int .i64 0,.int .i64 0,.str [],.sl ab 0 0 (λ_=>[]),.sl ab 0 0 (λ_=>[])],[]⟩
def g35:bG ah 35 i35:=⟨Tryz.underlying35,rfl,⟨_,_,bx Tryz.type35,rfl,rfl,rfl,rfl,⟨_,rfl⟩,rfl⟩,λh=>absurd rfl h⟩
def i38:TI:=⟨1,24,ae,TypeDesc.slice 60,[.sl ab 0 0 (λ_=>[])],[]⟩
def Ym:bG ah 38 i38:=⟨Tryz.underlying38,rfl,⟨_,_,bx Tryz.type38,rfl,rfl,rfl,rfl,⟨#[],rfl⟩,rfl⟩,λh=>absurd rfl h⟩
def i46:TI:=⟨2,16,ab,bn #[(f0 "Long" 3 0 "" 0),(f0 "Sum" 3 1 "" 8)],[.int .i64 0,.int .i64 0],[TypeDesc.int IntKind.i64,TypeDesc.int IntKind.i64]⟩
def g46:bG ah 46 i46:=⟨Tryz.underlying46,rfl,⟨_,_,bx Tryz.type46,rfl,rfl,rfl,rfl,⟨_,rfl⟩,rfl⟩,λ_=>jQ (fs:=[(f0 "Long" 3 0 "" 0),(f0 "Sum" 3 1 "" 8)]) Tryz.underlying46 (by decide +kernel) Tryz.eqGuardType46 ⟨by decide,rfl,Tryz.underlying3,av,by decide,rfl,Tryz.underlying3,av,av⟩⟩
def i49:TI:=⟨1,8,ae,TypeDesc.pointer 74,[.kh],[]⟩
def g49:bG ah 49 i49:=⟨Tryz.underlying49,rfl,⟨_,_,bx Tryz.type49,rfl,rfl,rfl,rfl,⟨#[],rfl⟩,rfl⟩,λh=>absurd rfl h⟩
def i60:TI:=⟨2,32,ab,bn #[(f0 "Path" 9 0 "" 0),(f0 "Text" 9 1 "" 16)],[.str [],.str []],[TypeDesc.string,TypeDesc.string]⟩
def g60:bG ah 60 i60:=⟨Tryz.underlying60,rfl,⟨_,_,bx Tryz.type60,rfl,rfl,rfl,rfl,⟨_,rfl⟩,rfl⟩,λ_=>jQ (fs:=[(f0 "Path" 9 0 "" 0),(f0 "Text" 9 1 "" 16)]) Tryz.underlying60 (by decide +kernel) Tryz.eqGuardType60 ⟨by decide,rfl,Tryz.underlying9,av,by decide,rfl,Tryz.underlying9,av,av⟩⟩
def i62:TI:=⟨1,24,ae,TypeDesc.slice 92,[.sl ab 0 0 (λ_=>[])],[]⟩
def g62:bG ah 62 i62:=⟨Tryz.underlying62,rfl,⟨_,_,bx Tryz.type62,rfl,rfl,rfl,rfl,⟨#[],rfl⟩,rfl⟩,λh=>absurd rfl h⟩
def i64:TI:=⟨2,32,ab,bn #[(f0 "No" 3 0 "" 0),(f0 "All" 62 1 "" 8)],[.int .i64 0,.sl ab 0 0 (λ_=>[])],[]⟩
def g64:bG ah 64 i64:=⟨Tryz.underlying64,rfl,⟨_,_,bx Tryz.type64,rfl,rfl,rfl,rfl,⟨_,rfl⟩,rfl⟩,λh=>absurd rfl h⟩
def i70:TI:=⟨1,8,ae,TypeDesc.pointer 108,[.kh],[]⟩
def g70:bG ah 70 i70:=⟨Tryz.underlying70,rfl,⟨_,_,bx Tryz.type70,rfl,rfl,rfl,rfl,⟨#[],rfl⟩,rfl⟩,λh=>absurd rfl h⟩
def i74:TI:=⟨2,32,ab,bn #[(f0 "b" 22 0 "loop.example/depositary/spec" 0),(f0 "p" 3 1 "loop.example/depositary/spec" 24)],[.sl ab 0 0 (λ_=>[]),.int .i64 0],[]⟩
def g74:bG ah 74 i74:=⟨Tryz.underlying74,rfl,⟨_,_,bx Tryz.type74,rfl,rfl,rfl,rfl,⟨_,rfl⟩,rfl⟩,λh=>absurd rfl h⟩
def i79:TI:=⟨8,104,ab,bn #[(f0 "Kind" 3 0 "" 0),(f0 "By" 3 1 "" 8),(f0 "Tree" 38 2 "" 16),(f0 "Lie" 32 3 "" 40),(f0 "Keep" 28 7 "" 80)],[.int .i64 0,.int .i64 0,.sl ab 0 0 (λ_=>[]),.int .i64 0,.int .i64 0,.int .i64 0,.str [],.sl ab 0 0 (λ_=>[])],[]⟩
def g79:bG ah 79 i79:=⟨Tryz.underlying79,rfl,⟨_,_,bx Tryz.type79,rfl,rfl,rfl,rfl,⟨_,rfl⟩,rfl⟩,λh=>absurd rfl h⟩
def i83:TI:=⟨1,24,ae,TypeDesc.slice 88,[.sl ab 0 0 (λ_=>[])],[]⟩
def Ye:bG ah 83 i83:=⟨Tryz.underlying83,rfl,⟨_,_,bx Tryz.type83,rfl,rfl,rfl,rfl,⟨#[],rfl⟩,rfl⟩,λh=>absurd rfl h⟩
def i85:TI:=⟨2,32,ab,bn #[(f0 "No" 3 0 "" 0),(f0 "Item" 83 1 "" 8)],[.int .i64 0,.sl ab 0 0 (λ_=>[])],[]⟩
def g85:bG ah 85 i85:=⟨Tryz.underlying85,rfl,⟨_,_,bx Tryz.type85,rfl,rfl,rfl,rfl,⟨_,rfl⟩,rfl⟩,λh=>absurd rfl h⟩
def i88:TI:=⟨2,24,ab,bn #[(f0 "Name" 3 0 "" 0),(f0 "Body" 9 1 "" 8)],[.int .i64 0,.str []],[TypeDesc.int IntKind.i64,TypeDesc.string]⟩
def g88:bG ah 88 i88:=⟨Tryz.underlying88,rfl,⟨_,_,bx Tryz.type88,rfl,rfl,rfl,rfl,⟨_,rfl⟩,rfl⟩,λ_=>jQ (fs:=[(f0 "Name" 3 0 "" 0),(f0 "Body" 9 1 "" 8)]) Tryz.underlying88 (by decide +kernel) Tryz.eqGuardType88 ⟨by decide,rfl,Tryz.underlying3,av,by decide,rfl,Tryz.underlying9,av,av⟩⟩
def i90:TI:=⟨2,16,ab,bn #[(f0 "By" 3 0 "" 0),(f0 "Snap" 3 1 "" 8)],[.int .i64 0,.int .i64 0],[TypeDesc.int IntKind.i64,TypeDesc.int IntKind.i64]⟩
def g90:bG ah 90 i90:=⟨Tryz.underlying90,rfl,⟨_,_,bx Tryz.type90,rfl,rfl,rfl,rfl,⟨_,rfl⟩,rfl⟩,λ_=>jQ (fs:=[(f0 "By" 3 0 "" 0),(f0 "Snap" 3 1 "" 8)]) Tryz.underlying90 (by decide +kernel) Tryz.eqGuardType90 ⟨by decide,rfl,Tryz.underlying3,av,by decide,rfl,Tryz.underlying3,av,av⟩⟩
def i92:TI:=⟨2,40,ab,bn #[(f0 "Path" 9 0 "" 0),(f0 "Names" 28 1 "" 16)],[.str [],.sl ab 0 0 (λ_=>[])],[]⟩
def g92:bG ah 92 i92:=⟨Tryz.underlying92,rfl,⟨_,_,bx Tryz.type92,rfl,rfl,rfl,rfl,⟨_,rfl⟩,rfl⟩,λh=>absurd rfl h⟩
def i93:TI:=⟨1,24,ae,TypeDesc.slice 9,[.sl ab 0 0 (λ_=>[])],[]⟩
def g93:bG ah 93 i93:=⟨Tryz.underlying93,rfl,⟨_,_,bx Tryz.type93,rfl,rfl,rfl,rfl,⟨#[],rfl⟩,rfl⟩,λh=>absurd rfl h⟩
def i108:TI:=⟨3,24,ab,bn #[(f0 "head" 90 0 "loop.example/depositary/impl" 0),(f0 "next" 70 2 "loop.example/depositary/impl" 16)],[.int .i64 0,.int .i64 0,.kh],[]⟩
def Yn:bG ah 108 i108:=⟨Tryz.underlying108,rfl,⟨_,_,bx Tryz.type108,rfl,rfl,rfl,rfl,⟨_,rfl⟩,rfl⟩,λh=>absurd rfl h⟩
def i128:TI:=⟨1,8,ae,TypeDesc.pointer 27,[.kh],[]⟩
def Yo:bG ah 128 i128:=⟨Tryz.underlying128,rfl,⟨_,_,bx Tryz.type128,rfl,rfl,rfl,rfl,⟨#[],rfl⟩,rfl⟩,λh=>absurd rfl h⟩
def i129:TI:=⟨1,24,ae,TypeDesc.slice 142,[.sl ab 0 0 (λ_=>[])],[]⟩
def Yp:bG ah 129 i129:=⟨Tryz.underlying129,rfl,⟨_,_,bx Tryz.type129,rfl,rfl,rfl,rfl,⟨#[],rfl⟩,rfl⟩,λh=>absurd rfl h⟩
def i131:TI:=⟨0,0,ab,bn #[],[],[]⟩
def Yq:bG ah 131 i131:=⟨Tryz.underlying131,rfl,⟨_,_,bx Tryz.type131,rfl,rfl,rfl,rfl,⟨_,rfl⟩,rfl⟩,λh=>absurd rfl h⟩
def i132:TI:=⟨0,0,ab,bn #[],[],[]⟩
def Yr:bG ah 132 i132:=⟨Tryz.underlying132,rfl,⟨_,_,bx Tryz.type132,rfl,rfl,rfl,rfl,⟨_,rfl⟩,rfl⟩,λh=>absurd rfl h⟩
def i133:TI:=⟨0,0,ab,bn #[],[],[]⟩
def Ys:bG ah 133 i133:=⟨Tryz.underlying133,rfl,⟨_,_,bx Tryz.type133,rfl,rfl,rfl,rfl,⟨_,rfl⟩,rfl⟩,λh=>absurd rfl h⟩
def i134:TI:=⟨1,8,ae,TypeDesc.int IntKind.u64,[.int .u64 0],[]⟩
def Yt:bG ah 134 i134:=⟨Tryz.underlying134,rfl,⟨_,_,bx Tryz.type134,rfl,rfl,rfl,rfl,⟨#[],rfl⟩,rfl⟩,λh=>absurd rfl h⟩
def i136:TI:=⟨1,8,ab,bn #[(f0 "_" 132 0 "sync/atomic" 0),(f0 "_" 133 0 "sync/atomic" 0),(f0 "v" 134 0 "sync/atomic" 0)],[.int .u64 0],[]⟩
def Yu:bG ah 136 i136:=⟨Tryz.underlying136,rfl,⟨_,_,bx Tryz.type136,rfl,rfl,rfl,rfl,⟨_,rfl⟩,rfl⟩,λh=>absurd rfl h⟩
def i137:TI:=⟨1,4,ae,TypeDesc.int IntKind.u32,[.int .u32 0],[]⟩
def Yv:bG ah 137 i137:=⟨Tryz.underlying137,rfl,⟨_,_,bx Tryz.type137,rfl,rfl,rfl,rfl,⟨#[],rfl⟩,rfl⟩,λh=>absurd rfl h⟩
def i139:TI:=⟨2,16,ab,bn #[(f0 "noCopy" 131 0 "sync" 0),(f0 "state" 136 0 "sync" 0),(f0 "sema" 137 1 "sync" 8)],[.int .u64 0,.int .u32 0],[]⟩
def Yw:bG ah 139 i139:=⟨Tryz.underlying139,rfl,⟨_,_,bx Tryz.type139,rfl,rfl,rfl,rfl,⟨_,rfl⟩,rfl⟩,λh=>absurd rfl h⟩
def i142:TI:=⟨2,24,ab,bn #[(f0 "piece" 9 0 "loop.example/depositary/impl" 0),(f0 "ok" 4 1 "loop.example/depositary/impl" 16)],[.str [],.bool ae],[TypeDesc.string,TypeDesc.bool]⟩
def Yx:bG ah 142 i142:=⟨Tryz.underlying142,rfl,⟨_,_,bx Tryz.type142,rfl,rfl,rfl,rfl,⟨_,rfl⟩,rfl⟩,λ_=>jQ (fs:=[(f0 "piece" 9 0 "loop.example/depositary/impl" 0),(f0 "ok" 4 1 "loop.example/depositary/impl" 16)]) Tryz.underlying142 (by decide +kernel) Tryz.eqGuardType142 ⟨by decide,rfl,Tryz.underlying9,av,by decide,rfl,Tryz.underlying4,av,av⟩⟩
def i163:TI:=⟨1,24,ae,TypeDesc.slice 85,[.sl ab 0 0 (λ_=>[])],[]⟩
def Yy:bG ah 163 i163:=⟨Tryz.underlying163,rfl,⟨_,_,bx Tryz.type163,rfl,rfl,rfl,rfl,⟨#[],rfl⟩,rfl⟩,λh=>absurd rfl h⟩
def i165:TI:=⟨3,72,ab,bn #[{ name:= "packed",type:=163,offset:=0,embedded:=ab,tag:= "",pkgPath:= "loop.example/depositary/impl",byteOffset:=0 },(f0 "snaps" 24 1 "loop.example/depositary/impl" 24),(f0 "log" 25 2 "loop.example/depositary/impl" 48)],[.sl ab 0 0 (λ_=>[]),.sl ab 0 0 (λ_=>[]),.sl ab 0 0 (λ_=>[])],[]⟩
def Yz:bG ah 165 i165:=⟨Tryz.underlying165,rfl,⟨_,_,bx Tryz.type165,rfl,rfl,rfl,rfl,⟨_,rfl⟩,rfl⟩,λh=>absurd rfl h⟩
def i182:TI:=⟨1,8,ae,TypeDesc.int IntKind.u64,[.int .u64 0],[]⟩
def YA:bG ah 182 i182:=⟨Tryz.underlying182,rfl,⟨_,_,bx Tryz.type182,rfl,rfl,rfl,rfl,⟨#[],rfl⟩,rfl⟩,λh=>absurd rfl h⟩
def i192:TI:=⟨1,8,ae,TypeDesc.pointer 194,[.kh],[]⟩
def YB:bG ah 192 i192:=⟨Tryz.underlying192,rfl,⟨_,_,bx Tryz.type192,rfl,rfl,rfl,rfl,⟨#[],rfl⟩,rfl⟩,λh=>absurd rfl h⟩
def i194:TI:=⟨2,32,ab,bn #[(f0 "addr" 192 0 "strings" 0),(f0 "buf" 22 1 "strings" 8)],[.kh,.sl ab 0 0 (λ_=>[])],[]⟩
def YC:bG ah 194 i194:=⟨Tryz.underlying194,rfl,⟨_,_,bx Tryz.type194,rfl,rfl,rfl,rfl,⟨_,rfl⟩,rfl⟩,λh=>absurd rfl h⟩
def i196:TI:=⟨1,16,ae,TypeDesc.interface #[("Error",199)],[.nN],[]⟩
def YD:bG ah 196 i196:=⟨Tryz.underlying196,rfl,⟨_,_,bx Tryz.type196,rfl,rfl,rfl,rfl,⟨#[],rfl⟩,rfl⟩,λh=>absurd rfl h⟩
def i232:TI:=⟨1,24,ae,TypeDesc.slice 250,[.sl ab 0 0 (λ_=>[])],[]⟩
def YE:bG ah 232 i232:=⟨Tryz.underlying232,rfl,⟨_,_,bx Tryz.type232,rfl,rfl,rfl,rfl,⟨#[],rfl⟩,rfl⟩,λh=>absurd rfl h⟩
def i250:TI:=⟨2,16,ab,bn #[(f0 "Name" 3 0 "" 0),(f0 "Pack" 3 1 "" 8)],[.int .i64 0,.int .i64 0],[TypeDesc.int IntKind.i64,TypeDesc.int IntKind.i64]⟩
def YF:bG ah 250 i250:=⟨Tryz.underlying250,rfl,⟨_,_,bx Tryz.type250,rfl,rfl,rfl,rfl,⟨_,rfl⟩,rfl⟩,λ_=>jQ (fs:=[(f0 "Name" 3 0 "" 0),(f0 "Pack" 3 1 "" 8)]) Tryz.underlying250 (by decide +kernel) Tryz.eqGuardType250 ⟨by decide,rfl,Tryz.underlying3,av,by decide,rfl,Tryz.underlying3,av,av⟩⟩
def i255:TI:=⟨1,8,ae,TypeDesc.int IntKind.i64,[.int .i64 0],[]⟩
def YG:bG ah 255 i255:=⟨Tryz.underlying255,rfl,⟨_,_,bx Tryz.type255,rfl,rfl,rfl,rfl,⟨#[],rfl⟩,rfl⟩,λh=>absurd rfl h⟩
def i265:TI:=⟨1,8,ae,TypeDesc.int IntKind.i64,[.int .i64 0],[]⟩
def YH:bG ah 265 i265:=⟨Tryz.underlying265,rfl,⟨_,_,bx Tryz.type265,rfl,rfl,rfl,rfl,⟨#[],rfl⟩,rfl⟩,λh=>absurd rfl h⟩
def i269:TI:=⟨1,8,ae,TypeDesc.int IntKind.u64,[.int .u64 0],[]⟩
def YI:bG ah 269 i269:=⟨Tryz.underlying269,rfl,⟨_,_,bx Tryz.type269,rfl,rfl,rfl,rfl,⟨#[],rfl⟩,rfl⟩,λh=>absurd rfl h⟩
def i272:TI:=⟨1,8,ae,TypeDesc.pointer 3,[.kh],[]⟩
def YJ:bG ah 272 i272:=⟨Tryz.underlying272,rfl,⟨_,_,bx Tryz.type272,rfl,rfl,rfl,rfl,⟨#[],rfl⟩,rfl⟩,λh=>absurd rfl h⟩
def i280:TI:=⟨1,8,ae,TypeDesc.pointer 276,[.kh],[]⟩
def YK:bG ah 280 i280:=⟨Tryz.underlying280,rfl,⟨_,_,bx Tryz.type280,rfl,rfl,rfl,rfl,⟨#[],rfl⟩,rfl⟩,λh=>absurd rfl h⟩
def i298:TI:=⟨2,2,ab,bn #[(f0 "lo" 5 0 "unicode/utf8" 0),(f0 "hi" 5 1 "unicode/utf8" 1)],[.int .u8 0,.int .u8 0],[TypeDesc.int IntKind.u8,TypeDesc.int IntKind.u8]⟩
def YL:bG ah 298 i298:=⟨Tryz.underlying298,rfl,⟨_,_,bx Tryz.type298,rfl,rfl,rfl,rfl,⟨_,rfl⟩,rfl⟩,λ_=>jQ (fs:=[(f0 "lo" 5 0 "unicode/utf8" 0),(f0 "hi" 5 1 "unicode/utf8" 1)]) Tryz.underlying298 (by decide +kernel) Tryz.eqGuardType298 ⟨by decide,rfl,Tryz.underlying5,av,by decide,rfl,Tryz.underlying5,av,av⟩⟩
def i299:TI:=⟨32,32,ab,TypeDesc.array 16 298,[.int .u8 0,.int .u8 0,.int .u8 0,.int .u8 0,.int .u8 0,.int .u8 0,.int .u8 0,.int .u8 0,.int .u8 0,.int .u8 0,.int .u8 0,.int .u8 0,.int .u8 0,.int .u8 0,.int .u8 0,.int .u8 0,.int .u8 0,.int .u8 0,.int .u8 0,.int .u8 0,.int .u8 0,.int .u8 0,.int .u8 0,.int .u8 0,.int .u8 0,.int .u8 0,.int .u8 0,.int .u8 0,.int .u8 0,.int .u8 0,.int .u8 0,.int .u8 0],[]⟩
def YM:bG ah 299 i299:=⟨Tryz.underlying299,rfl,⟨_,_,bx Tryz.type299,rfl,rfl,rfl,rfl,⟨_,rfl⟩,rfl⟩,λh=>absurd rfl h⟩
def i300:TI:=⟨1,8,ae,TypeDesc.pointer 317,[.kh],[]⟩
def YN:bG ah 300 i300:=⟨Tryz.underlying300,rfl,⟨_,_,bx Tryz.type300,rfl,rfl,rfl,rfl,⟨#[],rfl⟩,rfl⟩,λh=>absurd rfl h⟩
def i303:TI:=⟨0,0,ab,TypeDesc.array 0 16,[],[]⟩
def YO:bG ah 303 i303:=⟨Tryz.underlying303,rfl,⟨_,_,bx Tryz.type303,rfl,rfl,rfl,rfl,⟨_,rfl⟩,rfl⟩,λh=>absurd rfl h⟩
def i305:TI:=⟨0,0,ab,bn #[(f0 "_" 303 0 "runtime" 0)],[],[]⟩
def YP:bG ah 305 i305:=⟨Tryz.underlying305,rfl,⟨_,_,bx Tryz.type305,rfl,rfl,rfl,rfl,⟨_,rfl⟩,rfl⟩,λh=>absurd rfl h⟩
def i317:TI:=⟨1,16,ab,bn #[(f0 "s" 9 0 "errors" 0)],[.str []],[TypeDesc.string]⟩
def YQ:bG ah 317 i317:=⟨Tryz.underlying317,rfl,⟨_,_,bx Tryz.type317,rfl,rfl,rfl,rfl,⟨_,rfl⟩,rfl⟩,λ_=>jQ (fs:=[(f0 "s" 9 0 "errors" 0)]) Tryz.underlying317 (by decide +kernel) Tryz.eqGuardType317 ⟨by decide,rfl,Tryz.underlying9,av,av⟩⟩
def tt:List (Nat×TI):=[(2,i2),(3,i3),(4,i4),(5,i5),(6,i6),(8,i8),(9,i9),(16,i16),(20,i20),(21,i21),(22,i22),(23,i23),(24,i24),(25,i25),(27,i27),(28,i28),(30,i30),(32,i32),(33,i33),(35,i35),(38,i38),(46,i46),(49,i49),(60,i60),(62,i62),(64,i64),(70,i70),(74,i74),(79,i79),(83,i83),(85,i85),(88,i88),(90,i90),(92,i92),(93,i93),(108,i108),(128,i128),(129,i129),(131,i131),(132,i132),(133,i133),(134,i134),(136,i136),(137,i137),(139,i139),(142,i142),(163,i163),(165,i165),(182,i182),(192,i192),(194,i194),(196,i196),(232,i232),(250,i250),(255,i255),(265,i265),(269,i269),(272,i272),(280,i280),(298,i298),(299,i299),(300,i300),(303,i303),(305,i305),(317,i317)]
def tok:db ah tt:=(db.cons g2 (db.cons g3 (db.cons g4 (db.cons g5 (db.cons g6 (db.cons g8 (db.cons g9 (db.cons g16 (db.cons g20 (db.cons g21 (db.cons g22 (db.cons g23 (db.cons g24 (db.cons g25 (db.cons g27 (db.cons g28 (db.cons g30 (db.cons g32 (db.cons g33 (db.cons g35 (db.cons Ym (db.cons g46 (db.cons g49 (db.cons g60 (db.cons g62 (db.cons g64 (db.cons g70 (db.cons g74 (db.cons g79 (db.cons Ye (db.cons g85 (db.cons g88 (db.cons g90 (db.cons g92 (db.cons g93 (db.cons Yn (db.cons Yo (db.cons Yp (db.cons Yq (db.cons Yr (db.cons Ys (db.cons Yt (db.cons Yu (db.cons Yv (db.cons Yw (db.cons Yx (db.cons Yy (db.cons Yz (db.cons YA (db.cons YB (db.cons YC (db.cons YD (db.cons YE (db.cons YF (db.cons YG (db.cons YH (db.cons YI (db.cons YJ (db.cons YK (db.cons YL (db.cons YM (db.cons YN (db.cons YO (db.cons YP (db.cons YQ db.nil)))))))))))))))))))))))))))))))))))))))))))))))))))))))))))))))))
end R1
end
abbrev Bs:=List UInt8
abbrev dS(s:Bs):D:=.e (.one (.c (.str s)))
abbrev dI(n:Int):D:=.e (.one (.c (.int .i64 n)))
abbrev dU(n:Int):D:=.e (.one (.c (.int .u8 n)))
abbrev dB(b:Bool):D:=.e (.one (.c (.bool b)))
def kr{s:Bs}{i:Nat}:iR s i=s.getD i 0:=rfl
namespace R1
open Go.Proofs
variable {X:Cx ah}
def eh:Tryz.prog.follows Departure.mixedOrders=ab:=rfl
def aD{X:Cx ah}{CT:List (Nat×dh)}(c:bC X CT)(ds:List (Nat×Bool)){N:Nat}{Qf:Post}(n:Nat){K d:List It}{φ b:Fr}{σ σ':List aV}{a:List Prop}
  (h:AM.eW tt CT ds N n K φ σ []=aa (d,b,σ',a)) (e:ag a) (k:AK X N Qf d .normal b σ'):AK X N Qf K .normal φ σ:=AK.eW eh tok c ds n h e k
def aX{X:Cx ah}(ds:List (Nat×Bool)){N:Nat}{Qf:Post}(n:Nat){K c:List It}{φ b:Fr}{σ σ':List aV}{a:List Prop}
  (h:AM.eW tt [] ds N n K φ σ []=aa (c,b,σ',a)) (d:ag a) (k:AK X N Qf c .normal b σ'):AK X N Qf K .normal φ σ:=AK.eW eh tok bC.nil ds n h d k
def bk{X:Cx ah}{N:Nat}{Qf:Post}{K c:List It}{φ b:Fr}{σ σ':List aV}{a:List Prop}
  (h:AM.eW tt [] [] N 100 K φ σ []=aa (c,b,σ',a)) (d:ag a) (k:AK X N Qf c .normal b σ'):AK X N Qf K .normal φ σ:=AK.eW eh tok bC.nil [] 100 h d k
def dO{X:Cx ah}{N:Nat}{Qf:Post}{K c:List It}{φ b:Fr}{σ σ':List aV}{a:List Prop}
  (h:AM.eW tt [] [] N 200 K φ σ []=aa (c,b,σ',a)) (d:ag a) (k:AK X N Qf c .normal b σ'):AK X N Qf K .normal φ σ:=AK.eW eh tok bC.nil [] 200 h d k
def l6(b:Int):Bool:=decide (97<=b)&&decide (b<=101)
def OT(b:Int):Ev X 153 [dU b] [] (dB (l6 b)) []:=by
 refine Ev.bQ Tryz.func153 rfl λ_=>?_
 by_cases h:97<=b
 .refine aX [(4,ab)] 100 rfl ?_ (AK.bm rfl ?_) <;> simp[ag,h,l6]
 .refine aX [(4,ae)] 100 rfl ?_ (AK.bm rfl ?_) <;> simp[ag,h,l6]
def eG(b:UInt8):Bool:=decide (97<=b.toNat)&&decide (b.toNat<=122)
def b7(s:Bs):Bool:=s.all eG
def sA{s:Bs}(h:∀ j,j<s.length->eG (s.getD j 0)=ab):b7 s=ab:=by
 simp only[b7,List.all_eq_true];intro b a;obtain⟨i,hi,rfl⟩:=dT a
 grind
def kD{s:Bs}{j:Nat}(h:j<s.length)(b:eG (s.getD j 0)=ae):b7 s=ae:=by
 cases a:b7 s with
 |false=>rfl
 |true =>
  simp only[b7,List.all_eq_true] at a
  grind
def EY(s:Bs):Ev X 154 [dS s] [] (dB (b7 s)) []:=by
 refine Ev.bQ Tryz.func154 rfl λe=>?_
 have g:=e.str 0 rfl;refine bk rfl av ?_;refine AK.wc (λi=>i<=s.length/\∀ j,j<i->eG (s.getD j 0)=ab) (λi:Nat=>[(0,dS s),(3,dI i)]) (λ_=>[]) (λi=>s.length-i) 0 rfl (by simp[ag.cat,ag]) ⟨by omega,by omega⟩ rfl ?_
 rintro i ⟨hi,a⟩
 by_cases h:i<s.length
 .generalize c:s.getD i 0=b
  by_cases k:b.toNat<97
  .refine aX [(7,ab),(13,ab)] 100 rfl ?_ (AK.gJ (b5.zero rfl ?_))
   .simp only[ag,kr,ba,c];omega
   .rw[ag,kD h (by rw[c];simp only[eG,qY,bJ];omega)]
  .by_cases f:b.toNat>122
   .refine aX [(7,ab),(13,ae),(18,ab)] 100 rfl ?_ (AK.gJ (b5.zero rfl ?_))
    .simp only[ag,kr,ba,bJ,c];omega
    .rw[ag,kD h (by rw[c];simp only[eG,qY,bJ];omega)]
   .refine aX [(7,ab),(13,ae),(18,ae)] 100 rfl ?_ (AK.again (i+1) rfl ?_ ?_ ?_ rfl)
    .simp only[ag,kr,ba,bJ,c,bu];omega
    .simp[ag.cat,ag]
    .refine⟨by omega,λj d=>?_⟩
     rcases sJ.1 d with d|rfl
     .exact a j d
     .rw[c];simp only[eG,bL,ba];omega
    .omega
 .refine aX [(7,ae)] 100 rfl (by simp[ag];omega) (AK.leave rfl rfl ?_)
  refine bk rfl av (AK.bm rfl ?_);rw[ag,sA (λj d=>a j (by omega))]
end R1
def Ev.args{P:aq}{X:Cx P}{f:aW}{args Qc:List D}{σ σ':List aV}{res:D}(h:Ev X f Qc σ res σ')(hl:∀ s vs,cw σ s vs args->cw σ s vs Qc):Ev X f args σ res σ' :=
 ⟨h.1,λs vs hr hh=>h.2 s vs (hl s vs hr) hh⟩
def kO(a:Nat):D->Option (Nat×(Nat->List C))
 |.e (.one (.c (.sl _ k n es)))=>match aG k a with
  |true=>aa (n,es)
  |false=>match aG n 0 with
   |true=>aa (0,λ_=>[])
   |false=>af
 |_=>af
def L5{g:Nat}{d:D}{n:Nat}{es:Nat->List C}(h:kO g d=aa (n,es)){σ:List aV}{s:St}{v:ak}(r:c8 σ s v d):Rd s.M v (.sl ae g n es):=by
 unfold kO at h;split at h
 .rename_i t k u es'
  split at h
  .rename_i i
   have e:=bU i;subst e;cases h;exact(fx r).loose
  .split at h
   .rename_i l
    have e:=bU l;subst e;cases h;have r':=fx r;cases r' with
    |sl b off f a j q i m p o=>exact Rd.sl b off f a j (by simp) (by omega) (by omega) (by omega) (by omega)
   .cases h
 .cases h
def sH{α:Type}(enc:α->List C)(bD:α)(l:List α):Nat->List C:=λi=>enc (l.getD i bD)
structure hU (α:Type) where
 k:Nat
 enc:α->List C
 dec:List C->α
 bD:α
 inv:∀ a,dec (enc a)=a
 len:∀ a,(enc a).length=k
namespace hU
variable {α:Type}(c:hU α)
def list(n:Nat)(es:Nat->List C):List α:=(bh n).map λi=>c.dec (es i)
def fn(l:List α):Nat->List C:=sH c.enc c.bD l
def fits(n:Nat)(es:Nat->List C):Prop:=∀ i,i<n->es i=c.enc (c.dec (es i))
def sl(l:List α):D:=.e (.one (.c (.sl ae c.k l.length (c.fn l))))
def CU{n:Nat}{es:Nat->List C}:(c.list n es).length=n:=by simp[list]
def list_fn(l:List α):c.list l.length (c.fn l)=l:=by
 apply pE
 .simp[list]
 .intro i b a;simp[list,fn,sH,ai,br a,c.inv]
def aH(l:List α){n:Nat}:c.fits n (c.fn l):=λi _=>by simp[fn,sH,c.inv]
def OU{n:Nat}{es:Nat->List C}(h:c.fits n es):aP n es (c.fn (c.list n es)):=by
 intro i hi;rw[h i hi];simp[fn,sH,list,ai,hi]
def jR{d:D}{n:Nat}{es:Nat->List C}(h:kO c.k d=aa (n,es))(e:c.fits n es){σ:List aV}{s:St}{v:ak}(r:c8 σ s v d):c8 σ s v (c.sl (c.list n es)):=by
 have a:=L5 h r;have b:=a.Dp (c.OU e);show Rd s.M v (.sl ae c.k (c.list n es).length _);rw[c.CU];exact b
end hU
def cz(s:Bs)(i:Nat):Int:=(s.getD i 0).toNat
theorem cy(s:Bs) (j:Int):((iR s j).toNat:Int)=cz s j.toNat:=rfl
abbrev bA:=Bs×Bs
def Cb(cs:List C)(j:Nat):Bs:=match fu j cs with|some (.str s)=>s|_=>[]
def yx(cs:List C)(j:Nat):Int:=match fu j cs with|some (.int _ s)=>s|_=>0
def cF:hU bA:={ k:=2,enc:=λf=>[.str f.1,.str f.2],dec:=λcs=>(Cb cs 0,Cb cs 1),bD:=([],[]),inv:=λ_=>rfl,len:=λ_=>rfl }
namespace R1
open Go.Proofs
variable {X:Cx ah}
def Sq:dh:=λargs σ=>match args,σ with
 |[.e (.one (.c (.int .u8 b)))],[]=>aa (dB (l6 b),[],[])
 |_,_=>af
def t153:dG X 153 Sq:=by
 intro args σ res σ' obs h _;unfold Sq at h;split at h
 .cases h;exact OT _
 .cases h
def OI:dh:=λargs σ=>match args,σ with
 |[.e (.one (.c (.str b)))],[]=>aa (dB (b7 b),[],[])
 |_,_=>af
def t154:dG X 154 OI:=by
 intro args σ res σ' obs h _;unfold OI at h;split at h
 .cases h;exact EY _
 .cases h
def ct1:List (Nat×dh):=[(153,Sq),(154,OI)]
def CV:bC X ct1:=bC.cons t153 (bC.cons t154 bC.nil)
def dr(s:Bs):Bool:=if s.length=1 then l6 (cz s 0) else if s.length=3 then l6 (cz s 0)&&(cz s 1==47)&&l6 (cz s 2) else ae
def Ij(s:Bs):Ev X 93 [dS s] [] (dB (dr s)) []:=by
 refine Ev.bQ Tryz.func93 rfl λf=>?_
 by_cases e:s.length=1
 .refine aD CV [(6,ab)] 100 rfl ?_ (AK.bm rfl ?_)
  .simp[ag,e]
  .simp[ag,dr,e,cy]
 .by_cases a:s.length=3
  .by_cases b:l6 (cz s 0)=ab
   .by_cases d:cz s 1=47
    .refine aD CV [(6,ae),(11,ab),(14,ab),(18,ab)] 100 rfl ?_ (AK.bm rfl ?_)
     .simp[ag,a,cy,b,d]
     .simp[ag,dr,a,b,d,cy]
    .refine aD CV [(6,ae),(11,ab),(14,ab),(18,ae)] 100 rfl ?_ (AK.bm rfl ?_)
     .simp[ag,a,cy,b,d]
     .simp[ag,dr,a,b,d]
   .refine aD CV [(6,ae),(11,ab),(14,ae)] 100 rfl ?_ (AK.bm rfl ?_)
    .simp[ag,a,cy,b]
    .simp[ag,dr,a,b]
  .refine aD CV [(6,ae),(11,ae)] 100 rfl ?_ (AK.bm rfl ?_)
   .simp[ag];omega
   .simp[ag,dr,e,a]
def dX(s:Bs):Bool:=decide (s.length<=40)&&b7 s
def Ik(s:Bs):Ev X 94 [dS s] [] (dB (dX s)) []:=by
 refine Ev.bQ Tryz.func94 rfl λb=>?_
 by_cases a:s.length<=40
 .refine aD CV [(5,ab)] 100 rfl ?_ (AK.bm rfl ?_)
  .simp[ag];omega
  .simp[ag,dX,a]
 .refine aD CV [(5,ae)] 100 rfl ?_ (AK.bm rfl ?_)
  .simp[ag];omega
  .simp[ag,dX,a]
def clash(a b:Bs):Bool:=(a.length != b.length)&&(cz a 0==cz b 0)
def L6(a b:Bs)(g:a≠[])(h:b≠[]):Ev X 95 [dS a,dS b] [] (dB (clash a b)) []:=by
 have d:=List.length_pos_iff.2 g;have f:=List.length_pos_iff.2 h;refine Ev.bQ Tryz.func95 rfl λi=>?_
 by_cases e:a.length=b.length
 .refine aX [(9,ae)] 100 rfl ?_ (AK.bm rfl ?_)
  .simp[ag,e]
  .simp[ag,clash,e]
 .refine aX [(9,ab)] 100 rfl ?_ (AK.bm rfl ?_)
  .simp[ag,d,f];omega
  .simp[ag,clash,e,cy]
end R1
end Go.AM
namespace Go.AM.R1
section
open Go.Proofs
variable {X:Cx ah}
def YR:dh:=λargs σ=>match args,σ with
 |[.e (.one (.c (.str b)))],[]=>aa (dB (dr b),[],[])
 |_,_=>af
def t93:dG X 93 YR:=by
 intro args σ res σ' obs h _;unfold YR at h;split at h
 .cases h;exact Ij _
 .cases h
def Wf:dh:=λargs σ=>match args,σ with
 |[.e (.one (.c (.str b)))],[]=>aa (dB (dX b),[],[])
 |_,_=>af
def t94:dG X 94 Wf:=by
 intro args σ res σ' obs h _;unfold Wf at h;split at h
 .cases h;exact Ik _
 .cases h
def YS:dh:=λargs σ=>match args,σ with
 |[.e (.one (.c (.str a))),.e (.one (.c (.str b)))],[]=>aa (dB (clash a b),[],[a≠[],b≠[]])
 |_,_=>af
def t95:dG X 95 YS:=by
 intro args σ res σ' obs h a;unfold YS at h;split at h
 .cases h;exact L6 _ _ a.1 a.2
 .cases h
def ct2:List (Nat×dh):=(93,YR)::(94,Wf)::(95,YS)::ct1
def tA:bC X ct2:=bC.cons t93 (bC.cons t94 (bC.cons t95 CV))
def fy(t:List bA)(i:Nat):Bs:=(t.getD i ([],[])).1
def AB(t:List bA)(i:Nat):Bs:=(t.getD i ([],[])).2
def gY(t:List bA)(i:Nat):(t.getD i cF.bD).1=fy t i:=rfl
def pt(t:List bA)(i:Nat):(t.getD i cF.bD).2=AB t i:=rfl
def gp(t:List bA)(i:Nat):Bool:=dr (fy t i)&&dX (AB t i)&&(i==0||bl (fy t (i-1)) (fy t i))&&(bh i).all λj=>!clash (fy t j) (fy t i)
def dj(t:List bA):Bool:=(bh t.length).all (gp t)&&decide (t.length<=6)
def cd{n:Nat}{p:Nat->Bool}:(bh n).all p=ab↔∀ i,i<n->p i=ab:=by simp[List.all_eq_true]
def qe{s:Bs}(h:dr s=ab):s≠[]:=by rintro rfl;simp[dr] at h
def lI{t:List bA}{i:Nat}(hi:i<t.length)(h:gp t i=ae):dj t=ae:=by
 cases a:dj t with
 |false=>rfl
 |true =>
  simp only[dj,bL] at a
  grind
def Il(t:List bA):Ev X 53 [cF.sl t] [] (dB (dj t)) []:=by
 refine Ev.bQ Tryz.func53 rfl λu=>?_
 have q:=u.sl 0 rfl;refine aD tA [] 100 rfl av ?_;refine AK.wc (λi=>i<=t.length/\∀ j,j<i->gp t j=ab) (λi:Nat=>[(0,cF.sl t),(3,dI i)]) (λ_=>[]) (λi=>t.length-i) 0 rfl (by simp[ag.cat,ag,aP]) ⟨by omega,by omega⟩ rfl ?_
 rintro i ⟨hi,k⟩
 by_cases h:i<t.length
 .by_cases b:dr (fy t i)=ab
  .by_cases c:dX (AB t i)=ab
   .by_cases m:i=0∨bl (fy t (i-1)) (fy t i)=ab
    .apply AK.join [(0,cF.sl t),(3,dI i),(4,dI 0)] []
     .intro s
      by_cases f:i=0
      .refine aD tA [(8,ab),(16,ab),(24,ab),(29,ae)] 100 rfl ?_ (s _ _ rfl ?_)
       .simp[-ai,ag,h,gY,pt,b,c];omega
       .simp[ag.cat,ag,aP]
      .have g:=m.resolve_left f;have d:bu .i64 ((i:Int)-1):=by simp only[bu];omega
       have n:((i:Int)-1).toNat=i-1:=by omega
       refine aD tA [(8,ab),(16,ab),(24,ab),(29,ab),(42,ae)] 100 rfl ?_ (s _ _ rfl ?_)
       .simp[-ai,ag,h,gY,pt,b,c,g,d,n];omega
       .simp[ag.cat,ag,aP]
     ·
      have o:gp t i=(bh i).all (λj=>!clash (fy t j) (fy t i)):=by
       rcases m with rfl|g
       .simp[gp,b,c]
       .simp[gp,b,c,g]
      refine AK.wc (λj=>j<=i/\∀ p,p<j->clash (fy t p) (fy t i)=ae) (λj:Nat=>[(0,cF.sl t),(3,dI i),(4,dI j)]) (λ_=>[]) (λj=>i-j) 0 rfl (by simp[ag.cat,ag,aP]) ⟨by omega,by omega⟩ rfl ?_
      rintro j ⟨w,v⟩
      by_cases a:j<i
      .have l:dr (fy t j)=ab:=by
        have:=k j a;simp only[gp,bL] at this;exact this.1.1.1
       cases r:clash (fy t j) (fy t i) with
       |true =>
        refine aD tA [(47,ab),(60,ab)] 100 rfl ?_ (AK.gJ (AK.rY (b5.zero rfl ?_)))
        .simp[-ai,ag,h,a,gY,r,qe b,qe l];omega
        .have:gp t i=ae:=by
          grind
         simp[ag,lI h this]
       |false =>
        refine aD tA [(47,ab),(60,ae)] 100 rfl ?_ (AK.again (j+1) rfl ?_ ?_ ?_ rfl)
        .simp[-ai,ag,h,a,gY,r,qe b,qe l,bu];omega
        .simp[ag.cat,ag,aP]
        .grind
        .omega
      .have a:j=i:=by omega
       subst a;refine aD tA [(47,ae)] 100 rfl (by simp[ag]) (AK.leave rfl rfl ?_)
       refine aD tA [] 100 rfl ?_ (AK.again (j+1) rfl ?_ ?_ ?_ rfl)
       .simp[ag,bu];omega
       .simp[ag.cat,ag,aP]
       .grind
       .omega
    .have f:i≠0:=λe=>m (.inl e)
     have g:bl (fy t (i-1)) (fy t i)=ae:=by simpa usingλe=>m (.inr e)
     have d:bu .i64 ((i:Int)-1):=by simp only[bu];omega
     have n:((i:Int)-1).toNat=i-1:=by omega
     refine aD tA [(8,ab),(16,ab),(24,ab),(29,ab),(42,ab)] 100 rfl ?_ (AK.gJ (b5.zero rfl ?_))
     .simp[-ai,ag,h,gY,pt,b,c,g,d,n];omega
     .simp[ag,lI h (by simp[gp,f,g])]
   .refine aD tA [(8,ab),(16,ab),(24,ae)] 100 rfl ?_ (AK.gJ (b5.zero rfl ?_))
    .simp[-ai,ag,h,gY,pt,b,c]
    .simp[ag,lI h (by simp[gp,c])]
  .refine aD tA [(8,ab),(16,ae)] 100 rfl ?_ (AK.gJ (b5.zero rfl ?_))
   .simp[-ai,ag,h,gY,b]
   .simp[ag,lI h (by simp[gp,b])]
 .refine aD tA [(8,ae)] 100 rfl (by simp[ag];omega) (AK.leave rfl rfl ?_)
  refine aD tA [] 100 rfl av (AK.bm rfl ?_);simp only[ag,dj]
  grind
end
end Go.AM.R1
namespace Go.AM
section
open Go.Conc (G)
def G2(σ σ':List aV):Prop:=∀ (s:St),aJ σ s->aJ σ' s/\Step σ s σ' s/\∀ (v:ak)(d:D),c8 σ s v d->c8 σ' s v d
def Xx:aV->aV->Option (List Prop)
 |.vec E k n es,.vec E' k' n' es'=>match aG E E',aG k k' with
  |true,ab=>aa [n=n',aP n es es']
  |_,_=>af
 |.cells E cs,.cells E' ma=>match aG E E' with
  |true=>PO cs ma
  |false=>af
 |.dead,.dead=>aa []
 |.dz H,.dz H'=>aa [H=H']
 |.loop N φ r,.loop N' φ' r'=>aa [aV.loop N φ r=aV.loop N' φ' r']
 |.qS,.qS=>aa []
 |.buf E k n es,.buf E' k' n' es'=>match aG E E',aG k k' with
  |true,ab=>aa [n=n',aP n es es']
  |_,_=>af
 |_,_=>af
def sY:List aV->List aV->Option (List Prop)
 |[],[]=>aa []
 |a::r,b::q=>match Xx a b with
  |some p=>match sY r q with
   |some ps=>aa (kl p ps)
   |none=>af
  |none=>af
 |_,_=>af
def NO(B B':aV):Prop :=
 (∀ E k n es,B=.vec E k n es->∃ es',B'=.vec E k n es'/\aP n es es')/\((∀ E k n es,B≠.vec E k n es)->(∀ E k n es,B'≠.vec E k n es)/\(B=B'∨(∃ E cs ma,B=.cells E cs/\B'=.cells E ma/\∀ σ s vs,dM σ s vs cs->dM σ s vs ma)∨∃ E k n es es',B=.buf E k n es/\B'=.buf E k n es'/\aP n es es'))
theorem Q5{B B':aV}{ps:List Prop}(h:Xx B B'=aa ps)(a:ag ps):NO B B':=by
 unfold Xx at h;split at h
 .rename_i E k n es E' k' n' es'
  split at h
  .rename_i d f
   cases h;have b:=bU d;have g:=bU f;obtain⟨j,l⟩:n=n'/\aP n es es':=a;subst b g j;refine⟨λE0 k0 n0 VG he=>?_,λo=>absurd rfl (o _ _ _ _)⟩
   grind
  grind
 .rename_i E cs E' ma
  split at h
  .rename_i d
   have b:=bU d;subst b;exact⟨λ_ _ _ _ he=>(by cases he),λ_=>⟨λ_ _ _ _ he=>(by cases he),.inr (.inl ⟨E,cs,ma,rfl,rfl,λσ s vs r=>DX h a r⟩)⟩⟩
  grind
 .exact⟨λ_ _ _ _ he=>(by cases he),λ_=>⟨λ_ _ _ _ he=>(by cases he),.inl rfl⟩⟩
 .cases h
  rename_i H H'
  have e:H=H':=a;subst e;exact⟨λ_ _ _ _ he=>(by cases he),λ_=>⟨λ_ _ _ _ he=>(by cases he),.inl rfl⟩⟩
 .cases h
  rename_i N φ r m i r'
  have e:aV.loop N φ r=aV.loop m i r':=a;exact⟨λ_ _ _ _ he=>(by cases he),λ_=>⟨λ_ _ _ _ he=>(by cases he),.inl e⟩⟩
 .exact⟨λ_ _ _ _ he=>(by cases he),λ_=>⟨λ_ _ _ _ he=>(by cases he),.inl rfl⟩⟩
 .rename_i E k n es E' k' n' es'
  split at h
  .rename_i d f
   cases h;have b:=bU d;have g:=bU f;obtain⟨j,l⟩:n=n'/\aP n es es':=a;subst b g j;exact⟨λ_ _ _ _ he=>(by cases he),λ_=>⟨λ_ _ _ _ he=>(by cases he),.inr (.inr ⟨E,k,n,es,es',rfl,rfl,l⟩)⟩⟩
  grind
 grind
def BO:∀ {σ σ':List aV}{ps:List Prop},sY σ σ'=aa ps->ag ps->σ'.length=σ.length/\∀ (l:Nat)(B B':aV),σ[l]?=aa B->σ'[l]?=aa B'->NO B B'
 |[],[],_,_,_=>⟨rfl,λl B B' h=>by grind⟩
 |[],_::_,_,h,_=>by cases h
 |_::_,[],_,h,_=>by cases h
 |a::r,b::q,ps,h,d=>by
  simp only[sY] at h;split at h
  .rename_i p e
   split at h
   .rename_i p2 h2
    cases h;rw[ag.cat] at d;obtain⟨f,g⟩:=BO h2 d.2
    grind [Q5]
   grind
  grind
def lD{σ σ':List aV}{ps:List Prop}(h:sY σ σ'=aa ps)(hp:ag ps):G2 σ σ':=by
 obtain⟨hl,hg⟩:=BO h hp;intro s J;have O:∀ (l:Nat) (B:aV),σ[l]?=aa B->∃ B',σ'[l]?=aa B'/\NO B B':=by
  grind
 have get:∀ (l:Nat) (B':aV),σ'[l]?=aa B'->∃ B,σ[l]?=aa B/\NO B B':=by
  grind
 have i:∀ (l:Nat),(∀ B,σ[l]?=aa B->B.gr=ae)->∀ B,σ'[l]?=aa B->B.gr=ae:=by
  intro l hn B' he;obtain⟨B,z,j⟩:=get l _ he;have q:=hn B z;rcases(j.2 (λE k n es e=>by rw[e] at q;cases q)).2 with rfl|⟨E,cs,G,rfl,rfl,_⟩|⟨E,k,n,es,es',rfl,rfl,_⟩
  .exact q
  .rfl
  .cases q
 have V:∀ (l:Nat) E k n es,σ'[l]?=aa (aV.buf E k n es)->∃ es',σ[l]?=aa (aV.buf E k n es'):=by
  intro l E k n es he;obtain⟨B,z,j⟩:=get l _ he
  by_cases p:∃ E k n es,B=aV.vec E k n es
  .obtain⟨E1,k1,n1,Y,rfl⟩:=p;obtain⟨es',f,_⟩:=j.1 _ _ _ _ rfl;cases f
  .rcases(j.2 (λE k n es e=>p ⟨E,k,n,es,e⟩)).2 with rfl|⟨E,cs,G,rfl,h,_⟩|⟨E,k,n,es,es',rfl,h,_⟩
   .grind
   .cases h
   grind
 have y:∀ (l:Nat) E k n es,σ'[l]?=aa (aV.vec E k n es)->∃ es',σ[l]?=aa (aV.vec E k n es'):=by
  intro l E k n es he;obtain⟨B,z,j⟩:=get l _ he
  by_cases p:∃ E k n es,B=aV.vec E k n es
  .obtain⟨E1,k1,n1,Y,rfl⟩:=p;obtain⟨es',f,_⟩:=j.1 _ _ _ _ rfl
   grind
  .exact absurd rfl ((j.2 (λE k n es e=>p ⟨E,k,n,es,e⟩)).1 E k n es)
 have M:∀ (v:ak) (a:A),gv σ s v a->gv σ' s v a:=by
  intro v a r;cases a with
  |c x=>exact r
  |ptr l o=>exact⟨i l r.1,r.2⟩
  |vec l k n es =>
   refine⟨r.1,by rw[hl];exact r.2.1,λE k' n' es' he=>?_⟩
   obtain⟨U,g⟩:=y l E k' n' es' he;exact r.2.2 E k' n' U g
  |ref l=>exact⟨i l r.1,r.2⟩
  |bp l w =>
   obtain⟨lv,r1,r2,r3⟩:=r;refine⟨lv,r1,by grind,λE k' n' es' he=>?_⟩
   grind
  |any=>exact r
 have u:∀ (vs:List ak) (cs:List A),dM σ s vs cs->dM σ' s vs cs:=by
  intro vs
  induction vs with
  |nil=>intro cs r;cases cs with|nil=>trivial|cons _ _=>exact r.elim
  |cons v vs ih=>intro cs r;cases cs with|nil=>exact r.elim|cons c cs=>exact⟨M _ _ r.1,ih _ r.2⟩
 have R:∀ (v:ak) (e:E1),mT σ s v e->mT σ' s v e:=by
  intro v e r;cases e with
  |one a=>exact M _ _ r
  |agg cs=>obtain⟨vs,f,g⟩:=r;exact⟨vs,f,u _ _ g⟩
 have Q:∀ (vs:List ak) (cs:List E1),gI σ s vs cs->gI σ' s vs cs:=by
  intro vs
  induction vs with
  |nil=>intro cs r;cases cs with|nil=>trivial|cons _ _=>exact r.elim
  |cons v vs ih=>intro cs r;cases cs with|nil=>exact r.elim|cons c cs=>exact⟨R _ _ r.1,ih _ r.2⟩
 have S:∀ (v:ak) (d:D),c8 σ s v d->c8 σ' s v d:=by
  intro v d r;cases d with
  |e x=>exact R _ _ r
  |eJ xs=>obtain⟨vs,f,g⟩:=r;exact⟨vs,f,Q _ _ g⟩
  |any=>trivial
 refine⟨⟨J.mem,by rw[J.len,hl],?_,J.gd,J.lt,J.own⟩,⟨bg _,λ_ _ _=>rfl,λ_ _ _ h=>h,λ_ _ _ _=>rfl,λL h b m=>.inr ⟨L,h,m⟩,?_,rfl,rfl,rfl,rfl⟩,S⟩
 .intro l B' L F W;obtain⟨B,z,j⟩:=get l B' F;have m:=J.box l B L z W
  by_cases p:∃ E k n es,B=aV.vec E k n es
  .obtain⟨E,k,n,es,rfl⟩:=p;obtain⟨es',rfl,he⟩:=j.1 _ _ _ _ rfl;refine⟨m.1.Dp he,?_⟩;rcases m.2 with⟨f,g⟩|f
   .exact .inl ⟨f,g.Dp he⟩
   grind
  .rcases(j.2 (λE k n es e=>p ⟨E,k,n,es,e⟩)).2 with rfl|⟨E,cs,G,rfl,rfl,T⟩|⟨E,k,n,es,es',rfl,rfl,T⟩
   .cases B with
    |cells E cs=>obtain⟨b,vs,f,g,C,I⟩:=m;exact⟨b,vs,f,g,u _ _ C,I⟩
    |vec E k n es=>grind
    |dz H=>exact m
    |dead=>trivial
    |loop N φ r=>obtain⟨l,tmps,fn,df,f,g,C,I,Z⟩:=m;exact⟨l,tmps,fn,df,f,g,C,λt=>S _ _ (I t),Z⟩
    |qS=>exact m
    |buf E k n es=>exact m
   .obtain⟨b,vs,f,g,C,I⟩:=m;exact⟨b,vs,f,g,u _ _ (T _ _ _ C),I⟩
   .rcases m with m|⟨b,c0,vs,zs,f,g,C,I,Z,h6,h7⟩
    .exact .inl m
    .exact .inr ⟨b,c0,vs,zs,f,g,C,I,Z,h6.Dp T,h7⟩
 .intro l B L z W;obtain⟨B',F,j⟩:=O l B z;refine⟨B',L,F,W,?_⟩
  by_cases p:∃ E k n es,B=aV.vec E k n es
  .obtain⟨E,k,n,es,rfl⟩:=p;obtain⟨es',rfl,he⟩:=j.1 _ _ _ _ rfl;exact⟨λ_=>rfl,bg _⟩
  .rcases(j.2 (λE k n es e=>p ⟨E,k,n,es,e⟩)).2 with rfl|⟨E,cs,G,rfl,rfl,T⟩|⟨E,k,n,es,es',rfl,rfl,_⟩
   .exact ig.refl _ _
   .exact rfl
   .exact⟨λ_=>rfl,bg _⟩
section
variable {P:aq}{X:Cx P}{N:Nat}{Qf:Post}{K:List It}{φ:Fr}{σ:List aV}{c:Code}
theorem AW.ghost{Q:Post}{g:Fr}{σ':List aV}(h:∀ s a,cv N σ s φ a->aJ σ s->∃ s':St,s'.w=s.w/\cv N σ' s' g a/\aJ σ' s'/\Step σ s σ' s')(k:AW X N c Q g σ'):AW X N c Q φ σ:=by
 intro s a l hh b kk cs S hb hQ;obtain⟨s',n,i,f,st⟩:=h s a l hh;have d:=st.ox hh;refine .ghost (.of hh f n d) ?_;exact k s' a i f b kk cs S hb λe j σ2 s2 a2 q m h2 ot=>hQ e j σ2 s2 a2 q m h2 (d.trans ot)
theorem AK.ghost{b:Fr}{σ':List aV}(h:∀ s a,cv N σ s φ a->aJ σ s->∃ s':St,s'.w=s.w/\cv N σ' s' b a/\aJ σ' s'/\Step σ s σ' s')(k:AK X N Qf (.code c::K) .normal b σ'):AK X N Qf (.code c::K) .normal φ σ :=
 AW.ghost h k
def cv.bs{σ':List aV}{s:St}{a:Act}(hb:G2 σ σ')(f:cv N σ s φ a)(hh:aJ σ s):cv N σ' s φ a:=⟨f.size,f.defers.imp λ_ h1=>h1.mono (hb s hh).2.1.ext,λt=>(hb s hh).2.2 _ _ (f.slot t)⟩
def AK.norm(σ':List aV){ps:List Prop}(h:sY σ σ'=aa ps)(b:ag ps)(k:AK X N Qf (.code c::K) .normal φ σ'):AK X N Qf (.code c::K) .normal φ σ :=
 AK.ghost (λs a d hh=>⟨s,rfl,d.bs (lD h b) hh,(lD h b s hh).1,(lD h b s hh).2.1⟩) k
def AK.ir(t:Nat)(E:ar)(k:Nat){k' n:Nat}{es:Nat->List C}(h:look φ t=.e (.one (.c (.sl ab k' n es))))(hn:n=0)
  (kk:AK X N Qf (.code c::K) .normal ((t,.e (.one (.vec σ.length k n es)))::φ) (σ++[.vec E k n es])):AK X N Qf (.code c::K) .normal φ σ:=by
 refine AK.ghost (λs a b hh=>?_) kk
 have f:=b.slot t;rw[h] at f;have h1:=Rd.uU (k:=k') (k':=k) (.inr hn) (fx f);have d:eO (σ++[.vec E k n es]) { s with β:=s.β++[⟨a.tmps.getD t aj,[]⟩] } (.vec E k n es) ⟨a.tmps.getD t aj,[]⟩:=⟨h1.loose,.inl ⟨⟨rfl,hn⟩,h1⟩⟩;obtain⟨g,g2⟩:=hh.gR (.refl _ _) rfl hh d (by simp)
 refine⟨{ s with β:=s.β++[⟨a.tmps.getD t aj,[]⟩] },rfl,⟨b.size,b.defers.imp λ_ h1=>h1.mono g2.ext,λu=>?_⟩,g,g2⟩
 simp only[look];cases hb:aG t u with
 |false=>exact(b.slot u).mono g2.ext hh.len
 |true =>
  have e:=bU hb;subst e;exact pO (L:=⟨a.tmps.getD t aj,[]⟩) (by simp) (by simp[<-hh.len]) d
def AK.jO{S:Type}(I:S->Prop)(fr:S->Fr)(st:S->List aV)(k:S->Nat)(x:S){ps qs:List Prop}(u:qD φ (fr x)=aa ps)(C:ag ps)(r:sY σ (st x)=aa qs)(E:ag qs)(G:I x)
  (round:∀ x,I x->AK X N (λe f σ'=>match e with
   |.normal=>∃ y,I y/\k y<k x/\oZ f (fr y)/\G2 σ' (st y)
   |e=>AK X N Qf K e f σ') [.code c] .normal (fr x) (st x)):AK X N Qf (.code (.loop c)::K) .normal φ σ:=by
 intro s a B hh b kk cs SS hb hQ;have i:=lD r E;obtain⟨p,m,_⟩:=i s hh;refine we (λn a' s'=>∃ y,I y/\cv N (st y) s' (fr y) a'/\aJ (st y) s'/\cB σ s (st y) s'/\k y=n) ?_ ?_ ⟨x,G,(B.le (dc u C)).bs i hh,p,m.ox hh,rfl⟩
 .rintro n a' s' ⟨y,t,w,g,d,e⟩;exact⟨st y,g,λJ h1=>⟨y,t,w.rely h1 g,g.rely h1,d.trans h1.stepW,e⟩⟩
 rintro n a' s' ⟨y,t,w,g,d,rfl⟩ F;refine round y t s' a' w g b (.inLoop c::kk) cs SS hb ?_;intro e H σ2 s2 a2 q A h2 ot;cases e with
 |normal =>
  obtain⟨z,D,l,h,j⟩:=q;obtain⟨o,v,_⟩:=j s2 h2;exact F a2 s2 (k z) l ⟨z,D,(A.le h).bs j h2,o,d.trans (ot.trans (v.ox h2)),rfl⟩
 |_=>exact ends.cons (λ_ _=>rfl) (by simp) (hQ _ _ _ _ _ q A h2 (d.trans ot))
def AK.fU{S:Type}{I:S->Prop}{fr:S->Fr}{st:S->List aV}{b:S->Nat}{x:S}{Qr:Post}(y:S){ps qs:List Prop}(f:qD φ (fr y)=aa ps)(j:ag ps)(g:sY σ (st y)=aa qs)(i:ag qs)(h:I y)(d:b y<b x) :
  AK X N (λe a σ'=>match e with
   |.normal=>∃ y,I y/\b y<b x/\oZ a (fr y)/\G2 σ' (st y)
   |e=>Qr e a σ') [] .normal φ σ:=⟨y,h,d,dc f j,lD g i⟩
end
def Ev.forget{P:aq}{X:Cx P}{f:aW}{args:List D}{res res':D}{σ':List aV}(h:Ev X f args [] res σ'){ps:List Prop}(g:Dh res res'=aa ps)(i:ag ps)(a:u5 0 res'=ab):Ev X f args [] res' []:=by
 refine⟨h.1,λs vs hr hh S cs hS=>h.2 s vs hr hh S cs λfr v e hl hv h1 st=>?_⟩
 have m:s.β=[]:=hX hh.len;have j:eQ e { e with β:=[] }:=⟨rfl,λ_ _ _ h=>h,λ_ _ _=>rfl,h1.mem,λb hb=>.inl (by
  grind)⟩
 refine .ghost j (hS fr v { e with β:=[] } (hl.mono λ_ _ _ h=>h) ?_ ⟨h1.mem,rfl,by simp,by simp,by simp,λb hb=>⟨(h1.own b hb).1,by simp⟩⟩ ⟨st.size,st.eL,st.mem,st.jA,by simp,λl B L k=>by grind,st.os,st.tape,st.output,st.own⟩)
 .have h2:=qy g i hv;have:=c8.sub (ks:=[]) (σ:=σ') (σ':=[]) (s:=e) (β':=[]) (d:=res') rfl rfl (by rw[BQ a];exact h2) a
  exact this
end
def cw.imp{σ:List aV}{s:St}{d a:D}{ds Fp:List D}(h:∀ v,c8 σ s v d->c8 σ s v a)(k:∀ vs,cw σ s vs ds->cw σ s vs Fp):∀ vs,cw σ s vs (d::ds)->cw σ s vs (a::Fp)
 |[],r=>r.elim
 |v::vs,r=>⟨h v r.1,k vs r.2⟩
abbrev dP(f:bA):D:=.e (.agg [.c (.str f.1),.c (.str f.2)])
abbrev F3(a:List bA)(b:Bool):D:=.eJ [.one (.c (.sl ae 2 a.length (cF.fn a))),.one (.c (.bool b))]
namespace R1
open Go.Proofs
variable {X:Cx ah}
def Ta:dh:=λargs σ=>match args,σ with
 |[c],[]=>match kO 2 c with
  |none=>af
  |some (b,a)=>aa (dB (dj (cF.list b a)),[],[cF.fits b a])
 |_,_=>af
def t53:dG X 53 Ta:=by
 intro args σ res σ' obs h a;unfold Ta at h;split at h
 .split at h
  .cases h
  rename_i d c b
  cases h;exact(Il _ ).args (λ_ vs=>cw.imp (λ_=>cF.jR b a) (λ_ r=>r) vs)
 .cases h
def ct3:List (Nat×dh):=(53,Ta)::ct2
def YT:bC X ct3:=bC.cons t53 tA
end R1
def hU.cn{α:Type}(c:hU α)(l:List α)(x:α):aP (l.length+1) (cO l.length (c.fn l) (λi=>[c.enc x].getD i [])) (c.fn (l++[x])):=by
 intro i hi;unfold cO hU.fn sH
 by_cases h:i<l.length
 .simp[h,ai,jD h]
 .have e:i=l.length:=by omega
  subst e;simp[ai]
def aP.same{n:Nat}{f:Nat->List C}:aP n f f:=λ_ _=>rfl
def aP.nil{f g:Nat->List C}:aP 0 f g:=λi h=>by omega
namespace R1
open Go.Proofs
variable {X:Cx ah}
def ct5:List (Nat×dh):=ct3
def YU:bC X ct5:=YT
end R1
end Go.AM
namespace Go.AM.R1
section
open Go.Proofs
variable {X:Cx ah}
def qQ(f:bA)(acc:List bA×Bool)(g:Bs):List bA×Bool:=if acc.2=ab then acc else if bl g f.1=ab then acc else (acc.1++[f],ab)
def OZ(f:bA)(a:List bA×Bool)(g:bA):List bA×Bool:=if g.1=f.1 then a else (a.1++[g],a.2)
def n8(f:bA)(acc:List bA×Bool)(g:bA):List bA×Bool:=OZ f (qQ f acc g.1) g
def ln(f:bA)(t:List bA):List bA×Bool:=t.foldl (n8 f) ([],ae)
def sC(t:List bA)(f:bA):List bA:=if (ln f t).2=ab then (ln f t).1 else (ln f t).1++[f]
theorem fileAt{t:List bA}{i:Nat}(h:i<t.length):t[i]=(fy t i,AB t i):=by
 have e:t.getD i ([],[])=t[i]:=by grind
 simp only[fy,AB,e]
def CY{f:bA}{t:List bA}{i:Nat}(h:i<t.length):ln f (t.take (i+1))=n8 f (ln f (t.take i)) (fy t i,AB t i):=by
 rw[j4,br h,fileAt h];simp[ln]
def CZ(f:bA)(acc:List bA×Bool)(g:Bs):(qQ f acc g).1.length<=acc.1.length+1:=by
 unfold qQ
 grind
def Md(f:bA)(acc:List bA×Bool)(g:bA):(OZ f acc g).1.length<=acc.1.length+1:=by
 unfold OZ;split
 .omega
 .simp
def xj(f:bA):∀ (t:List bA)(acc:List bA×Bool),(t.foldl (n8 f) acc).1.length<=acc.1.length+2*t.length
 |[],acc=>by simp
 |g::r,acc=>by
  have a:=xj f r (n8 f acc g);have b:=CZ f acc g.1;have c:=Md f (qQ f acc g.1) g;simp only[jl,eZ];have:(n8 f acc g).1.length<=acc.1.length+2:=by unfold n8;omega
  omega
abbrev dV(l:Nat)(t:List bA):D:=.e (.one (.vec l 2 t.length (cF.fn t)))
abbrev bV(t:List bA):aV:=.vec 60 2 t.length (cF.fn t)
def O0(t:List bA)(f:bA)(v:t.length<=4000000):Ev X 156 [cF.sl t,dP f] [] (dV 0 (sC t f)) [bV (sC t f)]:=by
 refine Ev.bQ Tryz.func156 rfl λw=>?_
 refine bk rfl av ?_;refine AK.ir 5 60 2 rfl rfl ?_
 let A:Nat->List bA×Bool:=λi=>ln f (t.take i)
 have b:∀ i,i<=t.length->(A i).1.length<=8000000:=by
  intro i hi;have:=xj f (t.take i) ([],ae);simp at this;show (ln f (t.take i)).1.length<=_;unfold ln;omega
 refine AK.jO (λi=>i<=t.length) (λi:Nat=>[(0,cF.sl t),(3,.e (.one (.ptr 0 0))),(7,dI i),(5,dV 1 (A i).1),(6,dB (A i).2)]) (λi=>[.cells 60 [.c (.str f.1),.c (.str f.2)],bV (A i).1]) (λi=>t.length-i) 0 rfl ?_ rfl ?_ (by omega) ?_
 .simp[ag.cat,ag,aP,A,ln]
 .simp[ag.cat,ag,aP,A,ln]
 intro i hi
 by_cases h:i<t.length
 .have s:A (i+1)=n8 f (A i) (fy t i,AB t i):=CY h;have u:=b i hi;generalize A i=acc at *;have r:=CZ f acc (fy t i)
  apply AK.join [(0,cF.sl t),(3,.e (.one (.ptr 0 0))),(7,dI i),(5,dV 1 (qQ f acc (fy t i)).1),(6,dB (qQ f acc (fy t i)).2)] [.cells 60 [.c (.str f.1),.c (.str f.2)],bV (qQ f acc (fy t i)).1]
  .intro l;cases a:acc.2 with
   |true =>
    have m:qQ f acc (fy t i)=acc:=by unfold qQ;rw[bc a]
    rw[m] at l;refine aX [(12,ab),(15,ab),(1000009,ab)] 200 rfl ?_ (l _ _ rfl ?_)
    .simp[ag,h]
    .simp[ag,ag.cat,aP.same,a]
   |false =>
    cases g:bl (fy t i) f.1 with
    |true =>
     have m:qQ f acc (fy t i)=acc:=by unfold qQ;rw[a,g];rfl
     rw[m] at l;refine aX [(12,ab),(15,ae),(25,ae),(1000009,ab)] 200 rfl ?_ (l _ _ rfl ?_)
     .simp[-ai,ag,h,gY,g]
     .simp[ag,ag.cat,aP.same,a]
    |false =>
     have m:qQ f acc (fy t i)=(acc.1++[f],ab):=by unfold qQ;rw[a,g];rfl
     rw[m] at l;refine aX [(12,ab),(15,ae),(25,ab),(1000009,ab)] 200 rfl ?_ (AK.norm _ rfl ?_ (l _ _ rfl ?_))
     .simp[-ai,ag,h,gY,g,i60];omega
     .simp[-ai,ag.cat,ag];exact cF.cn _ f
     .simp[-ai,ag.cat,ag,aP.same];exact cF.cn _ f
  .have n:A (i+1)=OZ f (qQ f acc (fy t i)) (fy t i,AB t i):=s;generalize qQ f acc (fy t i)=a1 at *
   by_cases o:fy t i=f.1
   .have d:A (i+1)=a1:=by rw[n];exact bc o
    refine aX [(38,ae)] 200 rfl ?_ (AK.fU (i+1) rfl ?_ rfl ?_ ?_ ?_)
    .simp[-ai,ag,h,gY,o,bu];omega
    .rw[d];simp[ag,ag.cat,aP.same]
    .rw[d];simp[ag,ag.cat,aP.same]
    .omega
    .omega
   .have d:A (i+1)=(a1.1++[(fy t i,AB t i)],a1.2):=by rw[n];exact aY o
    refine aX [(38,ab)] 200 rfl ?_ (AK.fU (i+1) rfl ?_ rfl ?_ ?_ ?_)
    .simp[-ai,ag,h,gY,o,bu,i60];omega
    .rw[d];simp[-ai,ag.cat,ag,aP.same];exact cF.cn _ (fy t i,AB t i)
    .rw[d];simp[-ai,ag.cat,ag];exact cF.cn _ (fy t i,AB t i)
    .omega
    .omega
 .have:i=t.length:=by omega
  subst this;have p:A t.length=ln f t:=by grind
  have u:=b t.length (bg _);refine aX [(12,ae)] 100 rfl (by simp[ag]) (AK.leave rfl rfl ?_)
  have k:sC t f=if (A t.length).2=ab then (A t.length).1 else (A t.length).1++[f]:=by rw[p];rfl
  cases a:(A t.length).2 with
  |true =>
   rw[a,bc rfl] at k;refine aX [(46,ab)] 100 rfl ?_ (AK.norm [.cells 60 [.c (.str f.1),.c (.str f.2)],bV (sC t f)] rfl ?_ (AK.dD [1] rfl ?_ rfl rfl rfl ?_))
   .simp[ag]
   .rw[k];simp[ag,ag.cat,aP.same]
   .rw[k];simp[ag,aP.same]
   .intro j q;simp at q
  |false =>
   rw[a,aY (by simp)] at k
   refine aX [(46,ae)] 100 rfl ?_ (AK.norm [.cells 60 [.c (.str f.1),.c (.str f.2)],bV (sC t f)] rfl ?_ (AK.dD [1] rfl ?_ rfl rfl rfl ?_))
   .simp[ag,i60];omega
   .rw[k];simp[-ai,ag,ag.cat];exact cF.cn _ f
   .rw[k];simp[-ai,ag];exact cF.cn _ f
   .intro j q;simp at q
end
end Go.AM.R1
namespace Go.AM
def aP.app0{n:Nat}{f g:Nat->List C}:aP n (cO 0 f g) g:=λi _=>by simp[cO]
namespace R1
open Go.Proofs
variable {X:Cx ah}
def Su:dh:=λargs σ=>match args,σ with
 |[d,.e (.agg [.c (.str b0),.c (.str b1)])],[]=>match kO 2 d with
  |none=>af
  |some (b,a)=>aa (dV 0 (sC (cF.list b a) (b0,b1)) ,[ bV (sC (cF.list b a) (b0,b1))],[cF.fits b a,((cF.list b a)).length<=4000000])
 |_,_=>af
def t156:dG X 156 Su:=by
 intro args σ res σ' obs h a;unfold Su at h;split at h
 .split at h
  .cases h
  rename_i d c b
  cases h;exact(O0 _ _ (a.2)).args (λ_ vs=>cw.imp (λ_=>cF.jR b a.1) (cw.imp (λ_ r=>r) (λ_ r=>r)) vs)
 .cases h
def ct6:List (Nat×dh):=(156,Su)::ct5
def Io:bC X ct6:=bC.cons t156 (YU)
def fC(t:List bA)(p x:Bs):List bA×Bool :=
 if dj t=ab/\dr p=ab/\dX x=ab then (if dj (sC t (p,x))=ab then (sC t (p,x),ab) else (t,ae)) else ([],ae)
abbrev tVB(l:Nat)(t:List bA)(b:Bool):D:=.eJ [.one (.vec l 2 t.length (cF.fn t)),.one (.c (.bool b))]
def xi{t:List bA}(h:dj t=ab):t.length<=6:=by
 simp only[dj,bL,ba] at h;exact h.2
def uk(t:List bA)(p x:Bs):Ev X 98 [cF.sl t,dS p,dS x] [] (tVB 0 (fC t p x).1 (fC t p x).2) [bV (fC t p x).1]:=by
 refine Ev.bQ Tryz.func98 rfl λi=>?_
 have c:¬(dj t=ab/\dr p=ab/\dX x=ab)->fC t p x=([],ae):=λh=>aY h
 cases b:dj t with
 |false =>
  rw[c (by simp[b])]
  refine aD Io [(10,ae)] 100 rfl ?_ ?_
  .simp[ag,cF.list_fn,cF.aH,b]
  .refine AK.ir 6 60 2 rfl rfl (AK.norm [bV []] rfl ?_ (AK.dD [0] rfl ?_ rfl rfl rfl ?_))
   .simp[ag,ag.cat,aP]
   .simp[ag,ag.cat,aP]
   .intro j a;simp at a
 |true =>
  have k:=xi b;cases d:dr p with
  |false =>
   rw[c (by simp[d])]
   refine aD Io [(10,ab),(14,ae)] 100 rfl ?_ ?_
   .simp[ag,cF.list_fn,cF.aH,b,d]
   .refine AK.ir 6 60 2 rfl rfl (AK.norm [bV []] rfl ?_ (AK.dD [0] rfl ?_ rfl rfl rfl ?_))
    .simp[ag,ag.cat,aP]
    .simp[ag,ag.cat,aP]
    .intro j a;simp at a
  |true =>
   cases e:dX x with
   |false =>
    rw[c (by simp[e])]
    refine aD Io [(10,ab),(14,ab),(19,ae)] 100 rfl ?_ ?_
    .simp[ag,cF.list_fn,cF.aH,b,d,e]
    .refine AK.ir 6 60 2 rfl rfl (AK.norm [bV []] rfl ?_ (AK.dD [0] rfl ?_ rfl rfl rfl ?_))
     .simp[ag,ag.cat,aP]
     .simp[ag,ag.cat,aP]
     .intro j a;simp at a
   |true =>
    have g:fC t p x=if dj (sC t (p,x))=ab then (sC t (p,x),ab) else (t,ae):=bc ⟨b,d,e⟩
    cases f:dj (sC t (p,x)) with
    |true =>
     rw[f,bc rfl] at g;rw[g];refine aD Io [(10,ab),(14,ab),(19,ab),(29,ab)] 100 rfl ?_ (AK.norm [bV (sC t (p,x))] rfl ?_ (AK.dD [0] rfl ?_ rfl rfl rfl ?_))
     .simp[ag,cF.list_fn,cF.aH,b,d,e,f];omega
     .simp[ag,ag.cat,cF.list_fn,aP.same]
     .simp[ag,ag.cat,cF.list_fn,aP.same]
     .intro j a;simp at a
    |false =>
     rw[f,aY (by simp)] at g
     rw[g];refine aD Io [(10,ab),(14,ab),(19,ab),(29,ae)] 100 rfl ?_ (AK.norm [bV (sC t (p,x)),bV t] rfl ?_ (AK.dD [1] rfl ?_ rfl rfl rfl ?_))
     .simp[ag,cF.list_fn,cF.aH,b,d,e,f,i60];omega
     .simp[ag,ag.cat,cF.list_fn,aP.same,aP.app0]
     .simp[ag,ag.cat,aP.app0]
     .intro j a;simp at a
def EZ(t:List bA)(p x:Bs):Ev X 98 [cF.sl t,dS p,dS x] [] (F3 (fC t p x).1 (fC t p x).2) [] :=
 (uk t p x).forget rfl (by simp[ag,ag.cat,aP.same]) rfl
def YV:dh:=λargs σ=>match args,σ with
 |[f,.e (.one (.c (.str b))),.e (.one (.c (.str c)))],[]=>match kO 2 f with
  |none=>af
  |some (d,a)=>aa (F3 (fC (cF.list d a) b c).1 (fC (cF.list d a) b c).2,[],[cF.fits d a])
 |_,_=>af
def t98:dG X 98 YV:=by
 intro args σ res σ' obs h a;unfold YV at h;split at h
 .split at h
  .cases h
  rename_i d c b
  cases h;exact(EZ _ _ _ ).args (λ_ vs=>cw.imp (λ_=>cF.jR b a) (cw.imp (λ_ r=>r) (cw.imp (λ_ r=>r) (λ_ r=>r))) vs)
 .cases h
def ct7:List (Nat×dh):=(98,YV)::ct6
def YW:bC X ct7:=bC.cons t98 (Io)
end R1
end Go.AM
namespace Go.AM.R1
def dl(s:Bs)(i:Nat):Int:=(cz s i-97) % 256
def lb(t:Bs)(e:Nat):Bool:=(dl t (e-1)+2*dl t (e-2)+3*dl t (e-3)) % 5==0
def tc(t:Bs)(f:Nat):Nat->Nat
 |0=>min (f+8) t.length
 |k+1=>if t.length<=f+(7-k) then t.length else if lb t (f+(7-k)) then f+(7-k) else tc t f k
def cutAt(t:Bs)(f:Nat):Nat:=tc t f 5
def Gn(t:Bs)(f:Nat)(a:f<t.length):∀ k,k<=5->f<tc t f k/\tc t f k<=t.length/\tc t f k<=f+8
 |0,_=>by simp only[tc];omega
 |k+1,b=>by
  simp only[tc];split
  .omega
  .split
   .omega
   .exact Gn t f a k (by omega)
def nh(t:Bs)(f:Nat)(a:f<t.length):f<cutAt t f/\cutAt t f<=t.length/\cutAt t f<=f+8:=Gn t f a 5 (by omega)
def mD(t:Bs):Nat->Nat->List Nat
 |0,_=>[]
 |k+1,f=>if f<t.length then cutAt t f::mD t k (cutAt t f) else []
def AA(t:Bs):List Nat:=mD t t.length 0
def ff(t:Bs):Nat->Nat->List Bs
 |0,_=>[]
 |k+1,f=>if f<t.length then (t.drop f).take (cutAt t f-f)::ff t k (cutAt t f) else []
def pieces(t:Bs):List Bs:=ff t t.length 0
def fO(l:List Bs):Option Bs:=if dX l.flatten&&(pieces l.flatten==l) then aa l.flatten else af
def bH(p:Bs):Bool:=decide (1<=p.length)&&decide (p.length<=8)&&b7 p
def codeOf(p:Bs):Int:=p.foldl (λn b=>27*n+((b.toNat:Int)-97) % 256+1) 0
def ck(k:Int):Bool:=decide (1<=k)&&decide (k<=99)
def iZ(k:Int)(p:Bs):Int:=(codeOf p*(2*k+1)+k*7919) % 999999999989
def cD(n:Nat):Nat:=if n<1∨8<n then 0 else if n<=2 then 2 else if n<=4 then 4 else 8
def iF(p:Bs):Bs:=if bH p then p++List.replicate (cD p.length-p.length) 46 else []
def strip(b:Bs):Bs:=(b.reverse.dropWhile (·==46)).reverse
def fe(b:Bs):Option Bs:=if bH (strip b)&&(iF (strip b)==b) then aa (strip b) else af
abbrev cA:=Int×Bs
abbrev bw:=Int×List cA
def right(k:Int)(x:cA):Bool:=match fe x.2 with|some p=>iZ k p==x.1|none=>ae
def Ak(l:List Int):Bool:=(bh l.length).all λi=>i==0||decide (l.getD (i-1) 0<l.getD i 0)
def jo(k:Int)(p:bw):Bool :=
 decide (1<=p.1)&&decide (p.1<=99)&&ck k&&decide (1<=p.2.length)&&decide (p.2.length<=4)&&p.2.all (right k)&&Ak (p.2.map (·.1))
def chunk(k:Int)(x:cA):Option Bs:=match fe x.2 with|some p=>if ck k&&(iZ k p==x.1) then aa p else af|none=>af
def ee(k:Int)(p:bw) (n:Int):Option Bs:=match p.2.find? (λx=>x.1==n) with|some x=>chunk k x|none=>af
def jc(p:bw)(ns:List Int):bw:=(p.1,p.2.filter λx=>ns.contains x.1)
def sh(l:List cA)(x:cA):List cA:=match l with
 |[]=>[x]
 |y::r=>if x.1<y.1 then x::y::r else y::sh r x
def kR(no k:Int)(ps:List Bs):bw:=(no,ps.foldl (λl p=>sh l (iZ k p,iF p)) [])
abbrev di:=Int×Int
def lh(s:di):Bool:=decide (0<=s.1)&&decide (s.1<999999999989)&&decide (1<=s.2)&&decide (s.2<=99)
def qi(l:List di)(s:di):List di:=match l with
 |[]=>[s]
 |y::r=>if y.1<s.1 then y::qi r s else s::(y::r).filter (λz=>!(z.1==s.1))
def tT(l:List di) (n:Int):Int:=match l.find? (λs=>s.1==n) with|some s=>s.2|none=>0
def fE(l:List bw):List di:=l.flatMap λp=>p.2.map λx=>(x.1,p.1)
def indexOf(l:List bw):List di:=if (fE l).all lh then (fE l).foldl qi [] else []
abbrev gD:=Bs×List Int
abbrev cC:=Int×List gD
def yO(k:Int)(f:bA):gD:=(f.1,(pieces f.2).map (iZ k))
def kn(no k:Int)(t:List bA):cC:=(no,t.map (yO k))
def nk(k:Int)(l:List di)(out:List Bs)(p:Bs):List Bs:=if tT l (iZ k p)==0&&!out.contains p then out++[p] else out
def jT(k:Int)(t:List bA)(l:List di):List Bs:=(t.flatMap λf=>pieces f.2).foldl (nk k l) []
def du(k:Int)(ps:List bw) (n:Int):Option Bs:=ps.findSome? λp=>ee k p n
end Go.AM.R1
namespace Go.AM
def Hg(cs:List C)(j:Nat):Nat×(Nat->List C):=match fu j cs with|some (.sl _ _ n es)=>(n,es)|_=>(0,λ_=>[])
def cI:hU Int:={ k:=1,enc:=λn=>[.int .i64 n],dec:=λcs=>yx cs 0,bD:=0,inv:=λ_=>rfl,len:=λ_=>rfl }
def cS:hU Bs:={ k:=1,enc:=λs=>[.str s],dec:=λcs=>Cb cs 0,bD:=[],inv:=λ_=>rfl,len:=λ_=>rfl }
namespace R1
def dE:hU cA:={ k:=2,enc:=λx=>[.int .i64 x.1,.str x.2],dec:=λcs=>(yx cs 0,Cb cs 1),bD:=(0,[]),inv:=λ_=>rfl,len:=λ_=>rfl }
def oC:hU di:={ k:=2,enc:=λx=>[.int .i64 x.1,.int .i64 x.2],dec:=λcs=>(yx cs 0,yx cs 1),bD:=(0,0),inv:=λ_=>rfl,len:=λ_=>rfl }
abbrev sP(p:bw):C:=.sl ae 2 p.2.length (dE.fn p.2)
def cP:hU bw:={ k:=2,enc:=λp=>[.int .i64 p.1,sP p],dec:=λcs=>(yx cs 0,dE.list (Hg cs 1).1 (Hg cs 1).2),bD:=(0,[]),inv:=λp=>by show (p.1,dE.list p.2.length (dE.fn p.2))=p;rw[dE.list_fn],len:=λ_=>rfl }
def cL:hU gD:={ k:=2,enc:=λx=>[.str x.1,.sl ae 1 x.2.length (cI.fn x.2)],dec:=λcs=>(Cb cs 0,cI.list (Hg cs 1).1 (Hg cs 1).2),bD:=([],[]),inv:=λp=>by show (p.1,cI.list p.2.length (cI.fn p.2))=p;rw[cI.list_fn],len:=λ_=>rfl }
def cm:hU cC:={ k:=2,enc:=λx=>[.int .i64 x.1,.sl ae 2 x.2.length (cL.fn x.2)],dec:=λcs=>(yx cs 0,cL.list (Hg cs 1).1 (Hg cs 1).2),bD:=(0,[]),inv:=λp=>by show (p.1,cL.list p.2.length (cL.fn p.2))=p;rw[cL.list_fn],len:=λ_=>rfl }
def cH:hU (Int×Int):=oC
abbrev xM(p:bw):D:=.e (.agg [.c (.int .i64 p.1),.c (sP p)])
abbrev V9(r:Option Bs):D:=.e (.agg [.c (.str (r.getD [])),.c (.bool r.isSome)])
end R1
structure Arg (α:Type) where
 enc:α->D
 arg:D->Option (α×List Prop)
 ok:∀ {d a o},arg d=aa (a,o)->ag o->∀ {σ:List aV} {s:St} {v:ak},c8 σ s v d->c8 σ s v (enc a)
def aI:Arg Int:=⟨dI,λd=>match d with|.e (.one (.c (.int .i64 n)))=>aa (n,[])|_=>af,λ{d a o} h _ _ _ _ r=>by
 grind⟩
def aS:Arg Bs:=⟨dS,λd=>match d with|.e (.one (.c (.str n)))=>aa (n,[])|_=>af,λ{d a o} h _ _ _ _ r=>by
 grind⟩
def aB:Arg Bool:=⟨dB,λd=>match d with|.e (.one (.c (.bool n)))=>aa (n,[])|_=>af,λ{d a o} h _ _ _ _ r=>by
 grind⟩
def aL{α:Type}(c:hU α):Arg (List α):=⟨c.sl,λd=>match kO c.k d with|some (n,es)=>aa (c.list n es,[c.fits n es])|none=>af,λ{d a o} h b _ _ _ r=>by
 split at h
 .rename_i n es he
  cases h;exact c.jR he b r
 .cases h⟩
def S5:Arg (Int×Bs):=⟨λx=>.e (.agg [.c (.int .i64 x.1),.c (.str x.2)]),λd=>match d with|.e (.agg [.c (.int .i64 a),.c (.str b)])=>aa ((a,b),[])|_=>af,λ{d a o} h _ _ _ _ r=>by
 grind⟩
def S6:Arg (Int×Int):=⟨λx=>.e (.agg [.c (.int .i64 x.1),.c (.int .i64 x.2)]),λd=>match d with|.e (.agg [.c (.int .i64 a),.c (.int .i64 b)])=>aa ((a,b),[])|_=>af,λ{d a o} h _ _ _ _ r=>by
 grind⟩
def Hf{α:Type}(c:hU α):Arg (Int×List α):=⟨λx=>.e (.agg [.c (.int .i64 x.1),.c (.sl ae c.k x.2.length (c.fn x.2))]),λd=>match d with
 |.e (.agg [.c (.int .i64 a),.c b])=>match kO c.k (.e (.one (.c b))) with|some (n,es)=>aa ((a,c.list n es),[c.fits n es])|none=>af
 |_=>af,λ{d a o} h l _ s _ r=>by
 split at h
 .split at h
  .rename_i n es he
   cases h;obtain⟨vs,p,g⟩:=r
   match vs,g with
   |[],g=>exact g.elim
   |[_],g=>exact g.2.elim
   |_::_::_::_,g=>exact g.2.2.elim
   |[q,m],g=>exact⟨_,p,g.1,c.jR (σ:=[]) (s:=s) (v:=m) he l g.2.1,av⟩
  .cases h
 .cases h⟩
def jX{α:Type}(A:Arg α)(res:α->D)(pre:α->List Prop):dh:=λargs σ=>match args,σ with
 |[d],[]=>match A.arg d with
  |some (a,o)=>aa (res a,[],kl o (pre a))
  |none=>af
 |_,_=>af
def p0{α i:Type}(A:Arg α)(B:Arg i)(res:α->i->D)(pre:α->i->List Prop):dh:=λargs σ=>match args,σ with
 |[d,e],[]=>match A.arg d with
  |some (a,o)=>match B.arg e with
   |some (b,p)=>aa (res a b,[],kl o (kl p (pre a b)))
   |none=>af
  |none=>af
 |_,_=>af
def Dk{α i j:Type}(A:Arg α)(B:Arg i)(C:Arg j)(res:α->i->j->D)(pre:α->i->j->List Prop):dh:=λargs σ=>match args,σ with
 |[d,e,f],[]=>match A.arg d with
  |some (a,o)=>match B.arg e with
   |some (b,p)=>match C.arg f with
    |some (c,q)=>aa (res a b c,[],kl o (kl p (kl q (pre a b c))))
    |none=>af
   |none=>af
  |none=>af
 |_,_=>af
section
variable {P:aq}{X:Cx P}{f:aW}{α i j:Type}{A:Arg α}{B:Arg i}{C:Arg j}
def dG.oi{res:α->D}{pre:α->List Prop}(h:∀ a,ag (pre a)->Ev X f [A.enc a] [] (res a) []):dG X f (jX A res pre):=by
 intro args σ r σ' obs h1 ho;unfold jX at h1;split at h1
 .split at h1
  .rename_i d a o b
   cases h1;rw[ag.cat] at ho;exact(h a ho.2).args λs vs=>cw.imp (λ_ r=>A.ok b ho.1 r) (λ_ r=>r) vs
  .cases h1
 .cases h1
def dG.tb{res:α->i->D}{pre:α->i->List Prop}(h:∀ a b,ag (pre a b)->Ev X f [A.enc a,B.enc b] [] (res a b) []):dG X f (p0 A B res pre):=by
 intro args σ r σ' obs h1 ho;unfold p0 at h1;split at h1
 .split at h1
  .rename_i d e a o c
   split at h1
   .rename_i b p hb
    cases h1;rw[ag.cat,ag.cat] at ho;exact(h a b ho.2.2).args λs vs=>cw.imp (λ_ r=>A.ok c ho.1 r) (cw.imp (λ_ r=>B.ok hb ho.2.1 r) (λ_ r=>r)) vs
   .cases h1
  .cases h1
 .cases h1
def dG.IW{res:α->i->j->D}{pre:α->i->j->List Prop}(h:∀ a b c,ag (pre a b c)->Ev X f [A.enc a,B.enc b,C.enc c] [] (res a b c) []):dG X f (Dk A B C res pre):=by
 intro args σ r σ' obs h1 ho;unfold Dk at h1;split at h1
 .split at h1
  .rename_i d e g a o k
   split at h1
   .rename_i b p hb
    split at h1
    .rename_i c q l
     cases h1;rw[ag.cat,ag.cat,ag.cat] at ho;exact(h a b c ho.2.2.2).args λs vs=>cw.imp (λ_ r=>A.ok k ho.1 r) (cw.imp (λ_ r=>B.ok hb ho.2.1 r) (cw.imp (λ_ r=>C.ok l ho.2.2.1 r) (λ_ r=>r))) vs
    .cases h1
   .cases h1
  .cases h1
 .cases h1
end
section
open Go.Conc (G)
section drop
variable {σ1 rest:List aV}{s:St}
def Ub(n:Nat):aV->Bool
 |.cells _ cs=>DH n cs
 |.loop ..=>ae
 |_=>ab
def rI(n:Nat):List aV->Bool
 |[]=>ab
 |a::r=>match Ub n a with|true=>rI n r|false=>ae
def BR{n:Nat}:∀ {l:List aV},rI n l=ab->∀ B∈l,Ub n B=ab
 |[],_,B,a=>by grind
 |b::r,h,B,a=>by
  simp only[rI] at h;cases d:Ub n b with
  |false=>grind
  |true =>
   simp only[d] at h;rcases e9.1 a with rfl|a
   .exact d
   .exact BR h B a
def eO.tM{B:aV}{L:Loc}(a:Ub σ1.length B=ab)(h:eO (σ1++rest) s B L):eO σ1 (s.cut σ1.length) B L:=by
 cases B with
 |cells E cs =>
  obtain⟨b,vs,h1,h2,e,d⟩:=h;exact⟨b,vs,h1,h2,dM.uy e a,d⟩
 |vec E k n es=>exact h
 |dz H=>exact h
 |dead=>trivial
 |loop N φ r=>simp[Ub] at a
 |qS=>exact h
 |buf E k n es=>exact h
def aJ.drop(h:aJ (σ1++rest) s)(g:rI σ1.length σ1=ab):aJ σ1 (s.cut σ1.length):=by
 have hl:σ1.length<=s.β.length:=by rw[h.len];simp
 refine⟨h.mem,by simp[St.cut,hl],?_,?_,?_,λb hb=>⟨(h.own b hb).1,λL a=>(h.own b hb).2 L (iJ a)⟩⟩
 .intro l B L f a;have e:l<σ1.length:=(cp.1 f).1;simp only[St.cut,gO,e,cq] at a;exact eO.tM (rest:=rest) (BR g B (bT f)) (h.box l B L (by grind) a)
 .intro l l' L L' a d b hb oG;simp only[St.cut,gO] at a d;split at a <;> split at d <;> first|exact h.gd l l' L L' a d b hb oG|grind|grind
 .intro L a b hb;exact h.lt L (iJ a) b hb
def oz.drop(a:mn rest=ab):∀ {ds:List Deferred}{ls:List Nat},oz (σ1++rest) s ds ls->oz σ1 (s.cut σ1.length) ds ls
 |[],[],_=>trivial
 |[],_::_,r=>r.elim
 |_::_,[],r=>r.elim
 |d::ds,l::ls,⟨⟨h1,L,r,h2,b⟩,e,f⟩=>by
  have hl:l<σ1.length:=by
   rcases cG l σ1.length with h|h
   .exact h
   .rw[gh h] at h1;exact absurd rfl (mZ a _ (bT h1))
  rw[jD hl] at h1;exact⟨⟨h1,L,r,by simp only[St.cut,gO,hl,cq];exact h2,b⟩,e,oz.drop a f⟩
def zW(n:Nat)(σ:List aV):Bool:=match bo n σ.length with|true=>mn (σ.drop n)|false=>ae
theorem yj{n:Nat}{σ:List aV}(h:zW n σ=ab):bo n σ.length=ab/\mn (σ.drop n)=ab:=by
 unfold zW at h
 grind
end drop
def G3(n:Nat):Fr->Bool
 |[]=>ab
 |(_,d)::r=>match u5 n d with|true=>G3 n r|false=>ae
def pX{n:Nat}:∀ {φ:Fr}{t:Nat},G3 n φ=ab->u5 n (look φ t)=ab
 |[],t,_=>rfl
 |(u,d)::r,t,h=>by
  simp only[G3] at h;cases a:u5 n d with
  |false=>grind
  |true =>
   simp only[a] at h;simp only[look];cases aG u t with
   |true=>exact a
   |false=>exact pX h
section
variable {P:aq}{X:Cx P}{N:Nat}{Qf:Post}{K:List It}{φ:Fr}{σ:List aV}{c:Code}
def lX{S:Type}{P:aq}(X:Cx P)(N:Nat)(Qf:Post)(K:List It)(I:S->Prop)(d:S->Fr)(st:S->List aV)(b:S->Nat)(n:Nat)(x:S):Post:=λe a σ'=>match e with
 |.normal=>∃ y,I y/\b y<b x/\oZ a (d y)/\G3 n (d y)=ab/\∃ σ1 rest,σ'=σ1++rest/\σ1.length=n/\(rI n σ1=ab/\mn rest=ab)/\G2 σ1 (st y)
 |e=>AK X N Qf K e a σ'
def AK.bO{S:Type}(n:Nat)(I:S->Prop)(fr:S->Fr)(st:S->List aV)(v:S->Nat)(x:S){ps qs:List Prop}(B:qD φ (fr x)=aa ps)(J:ag ps)(u:sY σ (st x)=aa qs)(Q:ag qs)(hn:σ.length=n)(V:I x)
  (round:∀ x,I x->AK X N (lX X N Qf K I fr st v n x) [.code c] .normal (fr x) (st x)):AK X N Qf (.code (.loop c)::K) .normal φ σ:=by
 intro s a H hh b kk cs SS hb hQ;have j:=lD u Q;obtain⟨r,p,_⟩:=j s hh;refine we (λm a' s'=>∃ y,I y/\cv N (st y) s' (fr y) a'/\aJ (st y) s'/\cB σ s (st y) s'/\v y=m) ?_ ?_ ⟨x,V,(H.le (dc B J)).bs j hh,r,p.ox hh,rfl⟩
 .rintro n a' s' ⟨y,w,E,g,d,e⟩;exact⟨st y,g,λs1 h1=>⟨y,w,E.rely h1 g,g.rely h1,d.trans h1.stepW,e⟩⟩
 rintro m a' s' ⟨y,w,E,g,d,rfl⟩ U;refine round y w s' a' E g b (.inLoop c::kk) cs SS hb ?_;intro e Y σ2 s2 a2 q G h2 ot;cases e with
 |normal =>
  obtain⟨z,M,o,i,O,σ1,rest,rfl,R,⟨Z,C⟩,A⟩:=q;have F:=h2.drop (by grind)
  obtain⟨l,f,k⟩:=A _ F;have D:=G.le i;have T:eQ s2 (s2.cut σ1.length):=⟨rfl,λ_ _ _ h=>h,λ_ _ _=>rfl,h2.mem,λb hb=>hb.imp id λ⟨L,W,hb⟩=>⟨L,iJ W,hb⟩⟩
  refine .ghost T (U a2 (s2.cut σ1.length) (v z) o ⟨z,M,⟨D.size,D.defers.imp λ_ h1=>(h1.drop C).mono f.ext,λt=>k _ _ ((D.slot t).drop (pX (by grind)))⟩,l,?_,rfl⟩)
  exact((d.trans ot).drop (by omega)).trans (f.ox F)
 |_=>exact ends.cons (λ_ _=>rfl) (by simp) (hQ _ _ _ _ _ q G h2 (d.trans ot))
def AK.Q6{S:Type}{n:Nat}{I:S->Prop}{fr:S->Fr}{st:S->List aV}{a:S->Nat}{x:S}{l:List It}(y:S){ps qs:List Prop}(f:qD φ (fr y)=aa ps)(k:ag ps)(e:G3 n (fr y)=ab)(b:zW n σ=ab)(h:sY (σ.take n) (st y)=aa qs)(j:ag qs)(g:rI n (σ.take n)=ab)(i:I y)(d:a y<a x) :
  AK X N (lX X N Qf l I fr st a n x) [] .normal φ σ :=
 ⟨y,i,d,dc f k,e,σ.take n,σ.drop n,(j1 n σ).symm,by grind [Nat.le_of_ble_eq_true,yj],⟨g,(yj b).2⟩,lD h j⟩
def AK.aQ{S:Type}{n:Nat}{I:S->Prop}{fr:S->Fr}{st:S->List aV}{a:S->Nat}{x:S}{g:List It}(y:S){ps qs:List Prop}(h:(qD φ (fr y),G3 n (fr y),zW n σ,sY (σ.take n) (st y),rI n (σ.take n))=(aa ps,ab,ab,aa qs,ab))(f:ag ps)(e:ag qs)(d:I y)(b:a y<a x) :
  AK X N (lX X N Qf g I fr st a n x) [] .normal φ σ:=by
 simp only[k7] at h;exact AK.Q6 y h.1 f h.2.1 h.2.2.1 h.2.2.2.1 e h.2.2.2.2 d b
def AK.leaveD{S:Type}{n:Nat}{I:S->Prop}{fr:S->Fr}{st:S->List aV}{d:S->Nat}{x:S}{id:Nat}{g b f:List It}(h1:kM id g=af)(h2:kM id b=aa f)(k:AK X N Qf f .normal φ σ) :
  AK X N (lX X N Qf b I fr st d n x) (.code (.exit id)::g) .normal φ σ :=
 AW.mono (AK.leave (A:=λa σ'=>lX X N Qf b I fr st d n x .normal a σ') h1 h2 k) λe a σ' q=>by
  have key:∀ (K:List It) e,AK X N (λe a σ'=>match e with
    |.normal=>lX X N Qf b I fr st d n x .normal a σ'
    |e=>AK X N Qf b e a σ') K e a σ'->AK X N (lX X N Qf b I fr st d n x) K e a σ':=by
   have e:(λe a σ'=>match e with
    |.normal=>lX X N Qf b I fr st d n x .normal a σ'
    |e=>AK X N Qf b e a σ')=lX X N Qf b I fr st d n x:=by
    funext e a σ';cases e <;> rfl
   grind
  exact key _ _ q
def AK.ei{S:Type}{n:Nat}{I:S->Prop}{fr:S->Fr}{st:S->List aV}{d:S->Nat}{x:S}{a b:List It}(k:Qf .ret φ σ):AK X N (lX X N Qf b I fr st d n x) (.code .ret::a) .normal φ σ :=
 AK.ret (AK.rY (Qf:=Qf) k)
theorem cv.freeze(t l:Nat){E:ar}{cs:List A}{cc:List C}(G:look φ t=.e (.one (.ptr l 0)))(hl:fu l σ=aa (.cells E cs))(z:gk cs=aa cc)
  {s:St} {a:Act} (g:cv N σ s φ a) (hh:aJ σ s):∃ s':St,s'.w=s.w/\cv N (σ.set l .dead) s' ((t,.e (.one (.c (.rp cc))))::φ) a/\aJ (σ.set l .dead) s'/\Step σ s (σ.set l .dead) s':=by
 have k:=dw hl;have i:l<σ.length:=(cp.1 k).1;have r:=g.slot t;rw[G] at r;obtain⟨_,L,b,n,d,F⟩:=r;obtain⟨f,vs,h1,h2,D,I⟩:=hh.box l _ L k n;subst h1;simp at d;subst d
 let s':St:={ s with M:=λx o=>if x=f then vs[o]? else s.M x o }
 have st:Step σ s (σ.set l .dead) s':=by
  refine⟨bg _,λ_ _ _=>rfl,?_,?_,λL h b hb=>.inr ⟨L,h,hb⟩,?_,rfl,rfl,rfl,rfl⟩
  .grind
  .intro b hb hn o;have m:b≠f:=λe=>hn _ (bT n) (by simp[e])
   grind
  .intro l' B L' od gu
   by_cases e:l=l'
   .subst e;rw[k] at od;cases od;exact⟨.dead,L',by grind,gu,rfl⟩
   .exact⟨B,L',by grind,gu,.refl _ _⟩
 refine⟨s',rfl,⟨g.size,g.defers.imp λ_ h1=>h1.mono st.ext,λu=>?_⟩,⟨?_,by simp[hh.len,s'],?_,hh.gd,hh.lt,hh.own⟩,st⟩
 .simp only[look];cases hb:aG t u with
  |false=>exact(g.slot u).mono st.ext hh.len
  |true =>
   have e:=bU hb;subst e;rw[F];have q:=ki z D;refine Rd.rp f 0 (λj=>(vs[j]?).getD aj) ?_ ?_
   .intro j c hj;obtain⟨v,p,_⟩:=q.get (j:=j) (a:=.c c) (by grind)
    grind
   .intro j c hj;obtain⟨v,p,p2⟩:=q.get (j:=j) (a:=.c c) (by grind)
    simp only[p,fI];exact Rd.mono st.mem p2
 .intro b o v H
  by_cases e:b=f
  .subst e;have hm':vs[o]?=aa v:=by grind
   show s.w.cell? _=_;simp[a9,h2,hm']
  .exact hh.mem b o v (by grind)
 .intro l' B L' od gu
  by_cases e:l=l'
  .subst e;rw[fH i] at od;cases od;trivial
  .rw[iK e] at od;refine(hh.box l' B L' od gu).carry st.ext hh.len λb hb=>⟨rfl,λo=>?_⟩
   have m:b≠f:=λy=>e (hh.gd l l' _ L' n gu b (by grind) hb)
   grind
theorem AK.freeze(t l:Nat){E:ar}{cs:List A}{cc:List C}(b:look φ t=.e (.one (.ptr l 0)))(hl:fu l σ=aa (.cells E cs))(a:gk cs=aa cc)
  (kk:AK X N Qf (.code c::K) .normal ((t,.e (.one (.c (.rp cc))))::φ) (ef.rE l .dead σ)):AK X N Qf (.code c::K) .normal φ σ:=by
 grind [kz,AK.ghost,cv.freeze]
def AK.one{all rest:List aw}{o:aw}{x:D}{σ':List aV}(h:OA X N all o φ σ x σ')(a:gw N o.dst=ab)(k:AK X N Qf (.ops all rest::K) .normal (lA o.dst x φ) σ'):AK X N Qf (.ops all (o::rest)::K) .normal φ σ :=
 jC.sZ h (ik a) k
end
end
structure DZ (d:TypeDesc)(es:Array MapEntry)(k:ak)(a:Option (Nat×ak)):Prop where
 key:MapKept.IsKey d k
 now:Instr.findNow d k es.toList 0=aa a
 no:a=af->∀ e∈es.toList,e.key≠k
 yes:∀ j v,a=aa (j,v)->∃ e,es[j]?=aa e/\e.key=k/\e.val=v
def yl{d:TypeDesc}{es:Array MapEntry}{k:ak}(b:MapKept.IsKey d k)(h:∀ e∈es.toList,MapKept.IsKey d e.key):∃ a,DZ d es k a:=by
 rcases MapKept.findNow_spec b es.toList 0 h with⟨g,i⟩|⟨j,e,g,i,n⟩
 .exact⟨af,b,g,λ_=>i,by simp⟩
 .refine⟨_,b,g,by simp,λm v l=>?_⟩
  grind
section
variable {P:aq}{w:az}{t c f:ar}{d:TypeDesc}{r:Nat}{es:Array MapEntry}{clock:Nat}{k:ak}{ok:Bool}
def FO(a:P.underlying c=aa d):(underlying c).run P w=.ok d w:=by simp[underlying,a]
def mx(e:P.underlying c=aa d)(a:MapKept.IsKey d k)(b:Bool)(evs:Array Event):(Instr.checkKey b 10000 c k).events P w evs=evs:=by
 show (Instr.checkKey b (9999+1) c k).events P w evs=evs;unfold Instr.checkKey;simp only[aO,FO e,aU,events_underlying];cases d <;> cases k <;> first|exact a.elim|simp
def nU{l:List MapEntry}{a:Option (Nat×ak)}(b:P.underlying c=aa d)(h:Instr.findNow d k l 0=aa a)(evs:Array Event):(Instr.findKey c k l).events P w evs=evs:=by
 simp[Instr.findKey,FO b,h]
def kB(a:w.heap[r]?=aa (.map es clock))(evs:Array Event):(getObj r).events P w evs=evs.push ⟨.obj r,ae,ae⟩:=by
 simp only[getObj,Sem.events,Sem.runT,a];rfl
def ql(a:w.heap[r]?=aa (.map es clock)){es':Array MapEntry}{b:Nat}(evs:Array Event):(setObj r (.map es' b)).events P w evs=evs.push ⟨.obj r,ab,ae⟩:=by
 simp only[setObj,Sem.events,Sem.runT,a];rfl
def qm(e:P.underlying c=aa d)(a:MapKept.IsKey d k)(b:Bool):(Instr.checkKey b 10000 c k).run P w=.ok () w:=MapKept.run_checkKey e a b 9999
def tN(m:P.underlying t=aa (.map c f))(h:P.underlying c=aa d)(e:w.heap[r]?=aa (.map es clock)){a:Option (Nat×ak)}(g:DZ d es k a){z:ak}(l:a=af->(zeroValue f).run P w=.ok z w) :
  (Instr.lookup t (.map (aa r)) k ok).run P w=.ok (match a with
   |some (_,v)=>if ok=ab then .tuple #[v,.bool ab] else v
   |none=>if ok=ab then .tuple #[z,.bool ae] else z) w/\(Instr.lookup t (.map (aa r)) k ok).events P w #[]=#[⟨.obj r,ae,ae⟩]:=by
 have j:(underlying t).run P w=.ok (.map c f) w:=by simp[underlying,m]
 have i:=qm (w:=w) h g.key es.isEmpty;have b:(Instr.findKey c k es.toList).run P w=.ok a w:=MapKept.run_findKey h g.now;cases a with
 |some jv =>
  constructor
  .simp only[Instr.lookup,bX,j,b8,MapKept.run_getObj_map e,cW,i,b]
  .simp only[Instr.lookup,aO,j,aU,MapKept.run_getObj_map e,cW,Sem.events_pure,i,b,events_underlying,kB e,mx h g.key,nU h g.now];rfl
 |none =>
  constructor
  .simp only[Instr.lookup,bX,j,b8,MapKept.run_getObj_map e,cW,i,b,l rfl]
  .simp only[Instr.lookup,aO,j,aU,MapKept.run_getObj_map e,cW,Sem.events_pure,i,b,events_underlying,kB e,mx h g.key,nU h g.now,l rfl,events_zeroValue];rfl
def tO(s:P.underlying t=aa (.map c f))(i:P.underlying c=aa d)(b:w.heap[r]?=aa (.map es clock)){a:Option (Nat×ak)}{x:ak}(g:DZ d es k a) :
  (Instr.mapUpdate t (.map (aa r)) k x).run P w=.ok () { w with heap:=w.heap.setIfInBounds r (match a with
   |some (j,_)=>.map (es.modify j λe=>{ key:=k,val:=x,born:=e.born }) clock
   |none=>.map (es.push { key:=k,val:=x,born:=clock }) (clock+1)) } /\
  (Instr.mapUpdate t (.map (aa r)) k x).events P w #[]=#[⟨.obj r,ae,ae⟩,⟨.obj r,ab,ae⟩]:=by
 have p:(underlying t).run P w=.ok (.map c f) w:=by simp[underlying,s]
 have o:=qm (w:=w) i g.key ae;have h:(Instr.findKey c k es.toList).run P w=.ok a w:=MapKept.run_findKey i g.now;cases a with
 |some jv =>
  obtain⟨j,v⟩:=jv;obtain⟨e,l,m,_⟩:=g.yes j v rfl;have n:(Instr.keyThatStays k k).run P w=.ok k w:=MapKept.run_keyThatStays g.key;have q:∀ evs,(Instr.keyThatStays k k).events P w evs=evs:=λevs=>by simp[Instr.keyThatStays,MapKept.sameBits_self g.key]
  constructor
  .simp only[Instr.mapUpdate,bX,p,b8,MapKept.run_getObj_map b,o,h,l,j6,fI,m,n,MapKept.run_setObj_map _ b]
  .simp only[Instr.mapUpdate,aO,p,aU,MapKept.run_getObj_map b,o,h,l,j6,fI,m,n,q,events_underlying,kB b,ql b,mx i g.key,nU i g.now];rfl
 |none =>
  constructor
  .simp only[Instr.mapUpdate,bX,p,b8,MapKept.run_getObj_map b,o,h,MapKept.run_setObj_map _ b]
  .simp only[Instr.mapUpdate,aO,p,aU,MapKept.run_getObj_map b,o,h,events_underlying,kB b,ql b,mx i g.key,nU i g.now];rfl
end
def aJ.lb{σ:List aV}{s:St}(h:aJ σ s){l:Nat}{H H':ak->(Nat->Option Obj)->Prop}{L L':Loc}(z:σ[l]?=aa (.dz H))(x:s.β[l]?=aa L){w':az}(O:L'.v=L.v)
  (q:s.w.heap.size<=w'.heap.size) (E:∀ b,b<s.w.heap.size->b∉L.bs->w'.heap[b]?=s.w.heap[b]?) (j:∀ b∈L'.bs,b∈L.bs∨(s.w.heap.size<=b/\b<w'.heap.size))
  (hb:∃ ch,H' L'.v ch/\(∀ (b:Nat) (o:Obj),ch b=aa o->w'.heap[b]?=aa o)/\(∀ b,b∈L'.bs↔(ch b).isSome=ab)) (G:w'.os=s.w.os) (N:w'.tape=s.w.tape) (J:w'.output=s.w.output) :
  aJ (σ.set l (.dz H')) ⟨s.β.set l L',s.M,w',s.own⟩/\Step σ s (σ.set l (.dz H')) ⟨s.β.set l L',s.M,w',s.own⟩:=by
 have n:l<σ.length:=(cp.1 z).1;have D:l<s.β.length:=by rw[h.len];exact n
 obtain⟨I,_,_,_,y⟩:=h.box l _ L z x;have r:∀ b∈L'.bs,∀ o,s.M b o=af:=by
  intro b i o;rcases j b i with h1|⟨h1,_⟩
  .exact y b h1 o
  .cases u:s.M b o with
   |none=>rfl
   |some v=>have:=h.block u;omega
 have st:Step σ s (σ.set l (.dz H')) ⟨s.β.set l L',s.M,w',s.own⟩:=by
  refine⟨q,?_,λ_ _ _ h=>h,λ_ _ _ _=>rfl,?_,?_,G,N,J,rfl⟩
  .grind
  .grind
  .intro l' B a c f
   by_cases e:l=l'
   .subst e;rw[z] at c;cases c;rw[x] at f;cases f;exact⟨.dz H',L',by rw[fH n],by grind,O⟩
   .exact⟨B,a,by rw[iK e];exact c,by grind,.refl _ _⟩
 have g:∀ (l':Nat) (a:Loc),(s.β.set l L')[l']?=aa a->(l'=l/\a=L')∨(l≠l'/\s.β[l']?=aa a):=by
  grind
 refine⟨⟨?_,by simp[h.len],?_,?_,?_,?_⟩,st⟩
 .intro b o v u;have C:=h.block u;have A:b∉L.bs:=λm=>by rw[y b m o] at u;cases u
  rw[<-h.mem b o v u];simp only[a9];rw[E b C A]
 .intro l' B a c f;rcases g l' a f with⟨rfl,rfl⟩|⟨e,h2⟩
  .rw[fH n] at c;cases c;obtain⟨ch,k1,P,K⟩:=hb;exact⟨ch,k1,P,K,r⟩
  .rw[iK e] at c;refine(h.box l' B a c h2).carry st.ext h.len λb i=>⟨E b (h.lt a (bT h2) b i) λm=>e (h.gd l l' L a x h2 b m i),λ_=>rfl⟩
 .intro F Q L1 a h1 h2 b k d;rcases g F L1 h1 with⟨rfl,rfl⟩|⟨e1,p⟩ <;> rcases g Q a h2 with⟨rfl,rfl⟩|⟨e2,t⟩
  .rfl
  .rcases j b k with m|m
   .exact h.gd _ _ L a x t b m d
   .have:=h.lt a (bT t) b d;omega
  .rcases j b d with m|m
   .exact h.gd _ _ L1 L p x b k m
   .have:=h.lt L1 (bT p) b k;omega
  .exact h.gd _ _ L1 a p t b k d
 .intro a f b d;rcases List.mem_or_eq_of_mem_set f with h1|h1
  .exact cE (h.lt a h1 b d) q
  .subst h1;rcases j b d with h2|h2
   .exact cE (h.lt L (bT x) b h2) q
   .exact h2.2
 .intro b hb;obtain⟨R,S⟩:=h.own b hb
  grind
section
variable {H H':ak->(Nat->Option Obj)->Prop}{s:St}
end
def b5.s9{fn:Func}{a:Nat}{res:D}{σ':List aV}{φ:Fr}{σ:List aV}(ks:List Nat){ps:List Prop}(h:zC fn.results.toList ks φ res=aa ps)(d:ag ps)(c:kI ks σ=aa σ')(b:ld σ'=ab)(hn:eg ks=ab)(e:∀ j,j<a->ks[j]?=aa j) :
  b5 fn a res σ' .normal φ σ:=by
 refine⟨.inr rfl,ks,?_⟩;unfold zC at h
 grind
def AK.QE{P:aq}{X:Cx P}{N:Nat}{Qf:Post}{K:List It}{φ:Fr}{σ:List aV}{all rest:List aw}{o:aw}{m:an}{xs:Array an}{g:Array ar}{f:aW}{cap:List C}{a:List D}{b σ1:List aV}{res:D}(j:Ev X f a b res σ1)(ks:List Nat)
  (d:o.guard=af) (n:o.op=.call { callee:=.value m,args:=xs,argTypes:=g }) (p:eP (bZ φ m)=aa (f,cap)) (c:oe (xs.toList.map (bZ φ)++fW cap)=iX ks a) (i:ow ks.length a=ab)
  (l:kI ks σ=aa b) (q:cU b=ab) (e:cU σ1=ab) (hn:eg ks=ab) (h:bo ks.length σ1.length=ab) (r:gw N o.dst=ab)
  (k:AK X N Qf (.ops all rest::K) .normal (lA o.dst (jB (ks++mP σ.length (σ1.length-ks.length)) res) φ) (ef ks σ1 σ)):AK X N Qf (.ops all (o::rest)::K) .normal φ σ :=
 jC.call (λ_ _ _ _=>dq d) n p ks j c i l q e hn (c7 h) o.dst rfl (ik r) k
def AK.u6{P:aq}{ι:Type}{X:Cx P}{N:Nat}{Qf:Post}{K:List It}{φ:Fr}{σ:List aV}{all rest:List aw}{o:aw}{n:an}{xs:Array an}{g:Array ar}{f:aW}{cap:List C}{a:List D}{b:List aV}{σ1:ι->List aV}{res:ι->D}(l:cK X f a b res σ1)(ks:List Nat)
  (d:o.guard=af) (p:o.op=.call { callee:=.value n,args:=xs,argTypes:=g }) (q:eP (bZ φ n)=aa (f,cap)) (c:oe (xs.toList.map (bZ φ)++fW cap)=iX ks a) (i:ow ks.length a=ab)
  (m:kI ks σ=aa b) (r:cU b=ab) (e:∀ j,cU (σ1 j)=ab) (hn:eg ks=ab) (h:∀ j,bo ks.length (σ1 j).length=ab) (s:gw N o.dst=ab)
  (k:∀ j,AK X N Qf (.ops all rest::K) .normal (lA o.dst (jB (ks++mP σ.length ((σ1 j).length-ks.length)) (res j)) φ) (ef ks (σ1 j) σ)):AK X N Qf (.ops all (o::rest)::K) .normal φ σ :=
 jC.Pr (λ_ _ _ _=>dq d) p q ks l c i m r e hn (λj=>c7 (h j)) o.dst rfl (ik s) k
def AK.cQ{P:aq}{X:Cx P}{N:Nat}{Qf:Post}{K:List It}{φ:Fr}{σ:List aV}{all rest:List aw}{o:aw}{s:an}{xs:Array an}{q:Array ar}{f:aW}{cap:List C}{n:List D}{p σ1:List aV}{res:D}(r:Ev X f n p res σ1)(ks:List Nat)
  (h:(o.guard,o.op,eP (bZ φ s),oe (xs.toList.map (bZ φ)++fW cap),ow ks.length n,kI ks σ,cU p,cU σ1,eg ks,bo ks.length σ1.length,gw N o.dst)=(af,.call { callee:=.value s,args:=xs,argTypes:=q },aa (f,cap),iX ks n,ab,aa p,ab,ab,ab,ab,ab))
  (k:AK X N Qf (.ops all rest::K) .normal (lA o.dst (jB (ks++mP σ.length (σ1.length-ks.length)) res) φ) (ef ks σ1 σ)):AK X N Qf (.ops all (o::rest)::K) .normal φ σ:=by
 simp only[k7] at h;obtain⟨a,b,c,d,e,f,g,i,j,l,m⟩:=h;exact AK.QE r ks a b c d e f g i j l m k
def AK.cP{P:aq}{ι:Type}{X:Cx P}{N:Nat}{Qf:Post}{K:List It}{φ:Fr}{σ:List aV}{all rest:List aw}{o:aw}{r:an}{xs:Array an}{n:Array ar}{f:aW}{cap:List C}{i:List D}{l:List aV}{σ1:ι->List aV}{res:ι->D}(p:cK X f i l res σ1)(ks:List Nat)
  (h:(o.guard,o.op,eP (bZ φ r),oe (xs.toList.map (bZ φ)++fW cap),ow ks.length i,kI ks σ,cU l,eg ks,gw N o.dst)=(af,.call { callee:=.value r,args:=xs,argTypes:=n },aa (f,cap),iX ks i,ab,aa l,ab,ab,ab)) (q:∀ j,(cU (σ1 j),bo ks.length (σ1 j).length)=(ab,ab))
  (k:∀ j,AK X N Qf (.ops all rest::K) .normal (lA o.dst (jB (ks++mP σ.length ((σ1 j).length-ks.length)) (res j)) φ) (ef ks (σ1 j) σ)):AK X N Qf (.ops all (o::rest)::K) .normal φ σ:=by
 simp only[k7] at h q;obtain⟨a,b,c,d,e,f,g,j,m⟩:=h;exact AK.u6 p ks a b c d e f g (λj=>(q j).1) j (λj=>(q j).2) m k
def xz:List D->List D->Option (List Prop)
 |[],[]=>aa []
 |a::al,b::bs=>match Dh a b with
  |some p=>match xz al bs with
   |some q=>aa (kl p q)
   |none=>af
  |none=>af
 |_,_=>af
def uV{σ:List aV}{s:St}:∀ {vs:List ak}{xs ys:List D}{ps:List Prop},xz xs ys=aa ps->ag ps->cw σ s vs xs->cw σ s vs ys
 |[],[],[],_,_,_,_=>trivial
 |_::_,[],_,_,_,_,h=>h.elim
 |[],_::_,_,_,_,_,h=>h.elim
 |[],[],_::_,_,h,_,_=>by simp[xz] at h
 |_::_,_::_,[],_,h,_,_=>by simp[xz] at h
 |v::vs,a::al,b::bs,ps,h,e,f=>by
  simp only[xz] at h;cases c:Dh a b with
  |none=>simp[c] at h
  |some p =>
   cases d:xz al bs with
   |none=>simp[c,d] at h
   |some q =>
    simp[c,d] at h;subst h;rw[ag.cat] at e;exact⟨qy c e.1 f.1,uV d e.2 f.2⟩
def AK.mm{P:aq}{ι:Type}{X:Cx P}{N:Nat}{Qf:Post}{K:List It}{φ:Fr}{σ:List aV}{all rest:List aw}{o:aw}{q:an}{xs:Array an}{i:Array ar}{f:aW}{cap:List C}{a:List D}{b:List aV}{σ1:ι->List aV}{res:ι->D}(n:cK X f a b res σ1)(ks:List Nat)
  (d:o.guard=af) (r:o.op=.call { callee:=.value q,args:=xs,argTypes:=i }) (t:eP (bZ φ q)=aa (f,cap)) {ps:List Prop} (c:xz (xs.toList.map (bZ φ)++fW cap) (iX ks a)=aa ps) (e:ag ps) (m:ow ks.length a=ab)
  (p:kI ks σ=aa b) (u:cU b=ab) (g:∀ j,cU (σ1 j)=ab) (hn:eg ks=ab) (l:∀ j,bo ks.length (σ1 j).length=ab) (v:gw N o.dst=ab)
  (k:∀ j,AK X N Qf (.ops all rest::K) .normal (lA o.dst (jB (ks++mP σ.length ((σ1 j).length-ks.length)) (res j)) φ) (ef ks (σ1 j) σ)):AK X N Qf (.ops all (o::rest)::K) .normal φ σ :=
 jC.Pq (λ_ _ _ _=>dq d) r t ks n (λs vs h=>uV c e h) m p u g hn (λj=>c7 (l j)) o.dst rfl (ik v) k
section
open Go.Conc (G)
def JU{a:Act}{d:Nat}{v:ak}(h:d<a.tmps.size):(a.put (aa d) v).tmps.getD d aj=v:=by
 simp[Act.put,dC,vl h]
def lR{P:aq}{f:aW}{fn:Func}{e:Array ak->Sem ak}(d:P.funcs[f]?=aa fn)(a:(fn.name== "runtime.NumGoroutine")=ae)
  (b:fn.body.isNone=ab) (j:Extern.findNext fn=af) (h:Extern.find fn=aa e) (args:Array ak) (g:cN P (e args)) (w:az) (es:Array Event) :
  (callFunc f args).events P w es=es.push ⟨.mark (.extern f),ae,ab⟩:=by
 have i:fn.name≠ "runtime.NumGoroutine":=by simpa using a
 have c:fn.body=af:=by simpa using b
 simp[callFunc,d,i,c,j,h];rw[g w]
section
variable {P:aq}{X:Cx P}{N:Nat}{Qf:Post}{K:List It}{φ:Fr}{σ:List aV}{all rest:List aw}{o:aw}
def AK.hand{ι:Type}(x:ι->D)(σ':ι->List aV)(z:o.guard=af)(C:gw N o.dst=ab)
  (h:∀ s a,cv N σ s φ a->aJ σ s->∃ i e s' v,(ay a.eval o).run P s.w=.ok e s'.w/\(e=.value v∨(e=.skip/\v=aj))/\c8 (σ' i) s' v (x i)/\aJ (σ' i) s'/\Step σ s (σ' i) s'/\eX s ((ay a.eval o).events P s.w #[]))
  (k:∀ i,AK X N Qf (.ops all rest::K) .normal (lA o.dst (x i) φ) (σ' i)):AK X N Qf (.ops all (o::rest)::K) .normal φ σ:=by
 intro s a f hh b kk cs S idx hb jG hQ;cases idx with
 |nil=>exact jG.elim
 |cons j idx =>
 refine zO hb jG.1 (dq z) λu d=>?_
 have c:=hh.rely d;have g:=f.rely d hh;obtain⟨i,e,s',v,h1,h2,B,n,p,r⟩:=h u a g c;have l:=p.ox c;refine⟨e,s',v,h1,h2,⟨⟨σ,σ' i,c,n,p⟩,r⟩,?_⟩;refine k i s' _ ?_ n b kk cs S idx hb jG.2 λm σ2 s2 a2 q y h2 st=>hQ m σ2 s2 a2 q y h2 ((d.stepW.trans l).trans st)
 cases A:o.dst with
 |none=>exact g.mono l c.len
 |some t=>exact(g.mono l c.len).put (ik C t A) B
def AK.law{x:D}{σ':List aV}(h:bF P o (bZ φ) σ x σ')(a:o.guard=af)(b:gw N o.dst=ab)
  (k:AK X N Qf (.ops all rest::K) .normal (lA o.dst x φ) σ'):AK X N Qf (.ops all (o::rest)::K) .normal φ σ :=
 AK.one (.mb (λ_ _ _ _=>dq a) h) b k
def Fq(all:List aw)(φ:Fr)(o:aw):Bool:=match o.guard with
 |none=>ab
 |some (j,b)=>match zK φ all j with
  |some (aa ab)=>b
  |some (aa ae)=>!b
  |_=>ae
def vu{all:List aw}{o:aw}{φ:Fr}(h:Fq all φ o=ab):∀ σ s a,cv N σ s φ a->bj o (yielded all.toArray a.tmps)=ab:=by
 intro σ s a f;unfold Fq at h;split at h
 .rename_i d;exact dq d
 .rename_i j b d
  split at h
  .rename_i c
   simp only[bj,d,pV c f,h];rfl
  .rename_i c
   simp only[bj,d,pV c f];cases b
   .rfl
   .cases h
  .cases h
end
end
inductive qT where
 |nil (a:Option Addr)
 |row (b cap:Nat)
def lB(bf:qT)(n:Nat):ak:=match bf with
 |.nil a=>.slice a 0 0
 |.row b cap=>.slice (aa ⟨b,0,af⟩) n cap
def Nk(xs:List ak):Nat->List C:=λi=>[.val (xs.getD i aj)]
section
variable {P:aq}{X:Cx P}{N:Nat}{Qf:Post}{K:List It}{φ:Fr}{σ:List aV}{all rest:List aw}{o:aw}
def AW.Qz{ι:Type}{c:Code}{Q:Post}{g:ι->Fr}{σ':ι->List aV}(h:∀ s a,cv N σ s φ a->aJ σ s->∃ (i:ι)(s':St),s'.w=s.w/\cv N (σ' i) s' (g i) a/\aJ (σ' i) s'/\Step σ s (σ' i) s')(k:∀ i,AW X N c Q (g i) (σ' i)):AW X N c Q φ σ:=by
 intro s a m hh b kk cs S hb hQ;obtain⟨i,s',p,j,f,st⟩:=h s a m hh;have d:=st.ox hh;refine .ghost (.of hh f p d) ?_;exact k i s' a j f b kk cs S hb λe l σ2 s2 a2 q n h2 ot=>hQ e l σ2 s2 a2 q n h2 (d.trans ot)
end
section
open Go.Conc (G)
def vq:C->Bool
 |.int _ _|.bool _|.str _|.kh|.nN|.zt|.val _=>ab
 |_=>ae
def vr:A->Bool
 |.c x=>vq x
 |.any=>ab
 |_=>ae
def Ni:List A->Bool
 |[]=>ab
 |a::r=>match vr a with|true=>Ni r|false=>ae
def Jd:E1->Bool
 |.one a=>vr a
 |.agg cs=>Ni cs
def Fj:List E1->Bool
 |[]=>ab
 |a::r=>match Jd a with|true=>Fj r|false=>ae
def Qy:D->Bool
 |.e x=>Jd x
 |.eJ xs=>Fj xs
 |.any=>ab
section
variable {σ σ':List aV}{s s':St}
theorem rB{M M':Mem}{v:ak}{c:C}(h:vq c=ab)(r:Rd M v c):Rd M' v c:=by
 cases r <;> first|(simp[vq] at h;done)|skip
 case int h1=>exact .int h1
 case bool=>exact .bool
 case str h1 h2=>exact .str h1 h2
 case kh=>exact .kh
 case nN=>exact .nN
 case zt=>exact .zt
 case val h1=>exact .val h1
def Fl{v:ak}{a:A}(h:vr a=ab)(r:gv σ s v a):gv σ' s' v a:=by
 cases a with
 |c x=>exact rB h r
 |any=>exact r
 |_=>simp[vr] at h
def Fo:∀ {vs:List ak}{cs:List A},Ni cs=ab->dM σ s vs cs->dM σ' s' vs cs
 |[],[],_,_=>trivial
 |[],_::_,_,r=>r.elim
 |_::_,[],_,r=>r.elim
 |v::vs,c::cs,h,r=>by
  simp only[Ni] at h;cases a:vr c with
  |false=>grind
  |true=>simp only[a] at h;exact⟨Fl a r.1,Fo h r.2⟩
def zu{v:ak}{x:E1}(h:Jd x=ab)(r:mT σ s v x):mT σ' s' v x:=by
 cases x with
 |one a=>exact Fl h r
 |agg cs=>obtain⟨vs,b,c⟩:=r;exact⟨vs,b,Fo h c⟩
def Bj:∀ {vs:List ak}{cs:List E1},Fj cs=ab->gI σ s vs cs->gI σ' s' vs cs
 |[],[],_,_=>trivial
 |[],_::_,_,r=>r.elim
 |_::_,[],_,r=>r.elim
 |v::vs,c::cs,h,r=>by
  simp only[Fj] at h;cases a:Jd c with
  |false=>grind
  |true=>simp only[a] at h;exact⟨zu a r.1,Bj h r.2⟩
def Nj{v:ak}{d:D}(h:Qy d=ab)(r:c8 σ s v d):c8 σ' s' v d:=by
 cases d with
 |e x=>exact zu h r
 |eJ xs=>obtain⟨vs,a,b⟩:=r;exact⟨vs,a,Bj h b⟩
 |any=>trivial
end
def Dy:List aV->Bool
 |[]=>ab
 |.dz _::r=>Dy r
 |.dead::r=>Dy r
 |_=>ae
def Bl:∀ {l:List aV},Dy l=ab->∀ B∈l,(∃ H,B=.dz H)∨B=.dead
 |[],_,B,a=>by grind
 |b::r,h,B,a=>by
  have c:((∃ H,b=.dz H)∨b=.dead)/\Dy r=ab:=by cases b <;> simp_all [Dy]
  rcases e9.1 a with rfl|a
  .exact c.1
  .exact Bl c.2 B a
def js(σ:List aV)(a:Nat)(u:ak)(k n:Nat)(es:Nat->List C):Prop :=
 ∀ s,aJ σ s->∃ (L:Loc) (M':Mem),s.β[a]?=aa L/\(∀ b o v,s.M b o=aa v->M' b o=aa v)/\(∀ b,b∉L.bs->∀ o,M' b o=s.M b o)/\(∀ b o v,M' b o=aa v->s.w.cell? ⟨b,o,af⟩=aa v) /\
  (∀ b∈L.bs,∀ o,s.M b o=af)/\Rd M' u (.sl ae k n es)
section
variable {P:aq}{X:Cx P}{N:Nat}{Qf:Post}{K:List It}{φ:Fr}{σ:List aV}{all rest:List aw}{o:aw}
def cw.setAt{σ:List aV}{s:St}{d:D}:∀ {vs:List ak}{ds:List D}{p:Nat}{v:ak},cw σ s vs ds->vs[p]?=aa v->c8 σ s v d->cw σ s vs (ds.set p d)
 |[],[],_,_,_,h,_=>by grind
 |[],_::_,_,_,h,_,_=>h.elim
 |_::_,[],_,_,h,_,_=>h.elim
 |u::vs,e::ds,0,v,h,b,a=>by simp at b;subst b;exact⟨a,h.2⟩
 |u::vs,e::ds,p+1,v,h,b,a=>⟨h.1,cw.setAt (p:=p) h.2 (by grind) a⟩
def nO(σ:List aV)(ds Fp:List D):Prop :=
 ∀ s vs,aJ σ s->cw σ s vs ds->∃ (B:Nat->Prop) (M':Mem),(∀ b,B b->∃ L∈s.β,b∈L.bs)/\(∀ b o v,s.M b o=aa v->M' b o=aa v)/\(∀ b,¬B b->∀ o,M' b o=s.M b o) /\
  (∀ b o v,M' b o=aa v->s.w.cell? ⟨b,o,af⟩=aa v)/\(∀ b,B b->∀ o,s.M b o=af)/\cw σ { s with M:=M' } vs Fp
def nO.refl(σ:List aV)(ds:List D):nO σ ds ds:=λs vs hh hr=>⟨λ_=>False,s.M,λ_ h=>h.elim,λ_ _ _ h=>h,λ_ _ _=>rfl,hh.mem,λ_ h=>h.elim,hr⟩
def nO.step{σ:List aV}{ds Fp:List D}(h:nO σ ds Fp)(p t:Nat){u:ak}{k n:Nat}{es:Nat->List C}(q:Fp[p]?=aa (.e (.one (.v u))))(hl:js σ t u k n es):nO σ ds (Fp.set p (.e (.one (.c (.sl ae k n es))))):=by
 classical
 intro s vs hh hr;obtain⟨B,M1,O,y,F,I,E,j⟩:=h s vs hh hr;obtain⟨L,a,m,H,J,G,A,x⟩:=hl s hh;have h1:∀ b o v,M1 b o=aa v->(M1 b o).or (a b o)=aa v:=λb o v d=>by grind
 have h2:∀ b o v,a b o=aa v->(M1 b o).or (a b o)=aa v:=λb o v d=>by
  cases e:M1 b o with
  |none=>grind
  |some v' =>
   grind
 refine⟨λb=>B b∨b∈L.bs,λb o=>(M1 b o).or (a b o),?_,λb o v d=>h1 b o v (y b o v d),?_,?_,?_,?_⟩
 .grind
 .grind
 .intro b o v d;cases e:M1 b o with
  |none=>grind
  |some v'=>grind
 .grind
 .have e1:Ext σ { s with M:=M1 } σ { s with M:=λb o=>(M1 b o).or (a b o) }:=⟨h1,λl B L w m=>⟨B,L,w,m,.refl _ _⟩⟩
  have r:=j.mono e1 hh.len;obtain⟨z,f⟩:=cw.get j;have i:p<vs.length:=by grind
  have g:vs[p]?=aa u:=by
   have:=f p;rw[q,br i] at this;have:=Rd.fX (show Rd M1 vs[p] (.val u) from this)
   grind
  exact r.setAt g (show c8 σ { s with M:=λb o=>(M1 b o).or (a b o) } u (.e (.one (.c (.sl ae k n es)))) from Rd.mono h2 x)
def AK.GL [X.js] {ι:Type}{fo:an}{xs:Array an}{ats:Array ar}{f:aW}{cap:List C}{u:List D}{res:ι->D}{σ1:ι->List aV}(M9:cK X f u [] res σ1){Fp:List D}
  (hgd:Fq all φ o=ab) (ho:o.op=.call { callee:=.value fo,args:=xs,argTypes:=ats }) (hf:eP (bZ φ fo)=aa (f,cap)) (hl:nO σ (xs.toList.map (bZ φ)++fW cap) Fp)
  {ps:List Prop} (Tx:xz Fp (iX [] u)=aa ps) (hps:ag ps) (hin:ow 0 u=ab) (U:∀ j,Qy (res j)=ab) (mi:∀ j,Dy (σ1 j)=ab) (hN:gw N o.dst=ab)
  (kk:∀ j,AK X N Qf (.ops all rest::K) .normal (lA o.dst (res j) φ) (σ++σ1 j)):AK X N Qf (.ops all (o::rest)::K) .normal φ σ:=by
 intro s a V hh b kx cs S idx hb jG hQ;cases idx with
 |nil=>exact jG.elim
 |cons i idx =>
 obtain⟨hi,jG⟩:=jG;have VO:=dN V fo;unfold eP at hf;split at hf
 case h_2=>cases hf
 case h_1 f' I0 he =>
  cases hf;rw[he] at VO;have O:=fx VO;generalize E:a.eval fo=fv at O;cases O with
  |fn fs ma hlf Wv f1 f2 h1 h2 r1 r2 =>
   have Ww:fs=[]:=hX hlf;subst Ww;have Ty:cw σ s ma (fW cap):=lN (λj c hj=>⟨f2 j,h2 j (by grind),r2 j c hj⟩) Wv
   have Q:cw σ s (xs.toList.map a.eval++ma) (xs.toList.map (bZ φ)++fW cap):=(nH (dN V) xs.toList).append Ty;generalize MS:xs.toList.map a.eval++ma=vs at Q;obtain⟨⟨fn,Tz,Je,Y⟩,TB⟩:=M9;have vt:∀ w,(ay a.eval o).run P w=.ok (.enter f vs.toArray) w:=λw=>by grind [gL]
   have Wx:∀ w,(ay a.eval o).events P w #[]=#[]:=λw=>(gL ho Tz Je Y E w).2
   refine .next rfl λg SQ=>?_
   have hr:=X.ij SQ;have e:=hh.rely hr;have W:=V.rely hr hh;have TC:cw σ g vs (xs.toList.map (bZ φ)++fW cap):=Q.mono hr.stepW.ext hh.len;obtain⟨B,M',hBL,m1,m2,m3,m4,m5⟩:=hl g vs e TC
   let sc:St:={ g with β:=[],M:=M',own:=λb=>g.own b∨∃ L∈g.β,b∈L.bs }
   have hhc:aJ [] sc:=by
    refine⟨m3,rfl,by simp,by grind,by grind,λb hb=>⟨?_,by grind⟩⟩
    rcases hb with hb|⟨L',r,hb⟩
    .exact(e.own b hb).1
    .exact e.lt L' r b hb
   have Wy:eQ g sc:=by
    refine⟨rfl,m1,λb hb o=>m2 b (λR=>by grind) o,m3,λb hb=>?_⟩
    grind
   have G:cw [] sc vs u:=by
    have a3:=uV Tx hps m5;exact(cw.sub (ks:=[]) (σ:=σ) (σ':=[]) (s:={ g with M:=M' }) (β':=[]) rfl rfl a3 hin).mono (σ:=[]) (s:={ g with β:=[],M:=M' }) (σ':=[]) (s':=sc) ⟨λ_ _ _ h=>h,λl B L R hL=>by grind⟩ rfl
   refine⟨_,g,_,oM hi (vu hgd _ _ _ W) hb (vt g.w),⟨⟨σ,σ,e,e,.refl _ _⟩,eX.seen (by rw[Wx];exact .nil)⟩,.ghost Wy (TB sc vs G hhc S _ λj fr v s2 GG mL Fc ot=>?_)⟩
   refine pL (cs:=cs) (c:=b.aT a (.inRegion all.toArray (i::idx)::kx)) Fc GG λy SR=>?_
   have p:=Fc.rely SR;have n:=ot.trans SR.stepW;have TD:=mL.mono SR.stepW.ext Fc.len
   classical
   let J:Mem:=λb o=>if B b then g.M b o else y.M b o
   have x:∀ b,(g.own b∨∃ L∈g.β,b∈L.bs)->y.own b:=λb hb=>by rw[n.own];exact hb
   have Zq:mM y { y with M:=J }:=by
    refine⟨rfl,rfl,rfl,λb o v E=>?_,λb o v E=>?_⟩
    .grind
    grind
   refine .forget Cx.js.ok Zq ?_;have Zr:∀ b o v,J b o=aa v->y.M b o=aa v:=Zq.less
   let s5:St:={ y with M:=J,β:=g.β++y.β,own:=g.own }
   have Zs:∀ b o v,g.M b o=aa v->J b o=aa v:=λb o v E=>by
    by_cases d:B b
    .grind
    .simp only[J,d,b9];exact n.mem b o v (m1 b o v E)
   have Zt:∀ b,b<g.w.heap.size->∀ o,J b o=g.M b o:=λb hb o=>by
    by_cases d:B b
    .grind
    .simp only[J,d,b9];rw[n.jA b hb (by grind) o];grind
   have T:y.β.length=(σ1 j).length:=p.len;have ex:Ext σ g (σ++σ1 j) s5:=by
    refine⟨Zs,λl B L R hL=>⟨B,L,?_,?_,.refl _ _⟩⟩
    .grind
    grind
   have Dv:g.w.heap.size<=y.w.heap.size:=n.size;have z:∀ (l:Nat) (L':Loc),(g.β++y.β)[l]?=aa L'->(l<g.β.length/\g.β[l]?=aa L')∨(g.β.length<=l/\y.β[l-g.β.length]?=aa L'):=λl L' h=>by
    grind
   have hh5:aJ (σ++σ1 j) s5:=by
    refine⟨λb o v E=>p.mem b o v (Zr b o v E),by simp[s5,e.len,T],?_,?_,?_,?_⟩
    .intro l B L' R r;rcases z l L' r with⟨u4,h1⟩|⟨SU,h1⟩
     .rw[jD (by rw[<-e.len];exact u4)] at R
      exact(e.box l B L' R h1).carry ex e.len λm d=>⟨n.eL m (.inr ⟨L',bT h1,d⟩),Zt m (e.lt L' (bT h1) m d)⟩
     .rw[gh (by rw[<-e.len];exact SU),<-e.len] at R
      have hbx:=p.box _ B L' R h1;rcases Bl (mi j) B (bT R) with⟨H,rfl⟩|rfl
      .obtain⟨ch,c1,c2,c3,c4⟩:=hbx;refine⟨ch,c1,c2,c3,λm d o=>?_⟩
       grind
      .trivial
    .intro l l' L1 L2 hL1 hL2 m F I;rcases z l L1 hL1 with⟨u4,h1⟩|⟨SU,h1⟩ <;> rcases z l' L2 hL2 with⟨abt,h2⟩|⟨abu,h2⟩
     .exact e.gd l l' L1 L2 h1 h2 m F I
     .exact absurd I ((p.own m (x m (.inr ⟨L1,bT h1,F⟩))).2 L2 (bT h2))
     .exact absurd F ((p.own m (x m (.inr ⟨L2,bT h2,I⟩))).2 L1 (bT h1))
     .have:=p.gd _ _ L1 L2 h1 h2 m F I;omega
    .intro L' r m d;rcases gA.1 r with h|h
     .exact cE (e.lt L' h m d) Dv
     .exact p.lt L' h m d
    .intro m d;refine⟨cE (e.own m d).1 Dv,λL' r=>?_⟩
     rcases gA.1 r with h|h
     .exact(e.own m d).2 L' h
     .exact(p.own m (x m (.inl d))).2 L' h
   have hg5:eQ { y with M:=J } s5:=by
    refine⟨rfl,λ_ _ _ h=>h,λ_ _ _=>rfl,λb o v E=>p.mem b o v (Zr b o v E),λm d=>?_⟩
    grind
   have Z:cB σ g (σ++σ1 j) s5:=by
    refine⟨Dv,λm d=>n.eL m (.inl d),Zs,λm d _ o=>Zt m d o,λL' r m d=>?_,ex.box,n.os,n.tape,n.output,rfl⟩
    rcases gA.1 r with h|h
    .grind
    .rcases n.xx L' h m d with h1|⟨L0,h1,_⟩
     .grind
     grind
   refine .ghost hg5 ?_;have A:=j7 (b:=b) (a:=a) (k:=kx) all.toArray i idx v;rw[hi] at A;simp only[nA] at A;rw[A];refine kk j s5 _ ?_ hh5 b kx cs S idx hb jG λφ2 σ2 s6 a2 q f2 h2 st=>hQ φ2 σ2 s6 a2 q f2 h2 ((hr.stepW.trans Z).trans st)
   cases hd:o.dst with
   |none=>exact W.mono Z e.len
   |some t=>exact(W.mono Z e.len).put (ik hN t hd) (Nj (U j) TD)
def AK.Jf [X.js] {ι:Type}{t:an}{xs:Array an}{i:Array ar}{f:aW}{cap:List C}{a:List D}{res:ι->D}{σ1:ι->List aV}(q:cK X f a [] res σ1)(r p:Nat){u:ak}{k n:Nat}{es:Nat->List C}
  (g:Fq all φ o=ab) (w:o.op=.call { callee:=.value t,args:=xs,argTypes:=i }) (x:eP (bZ φ t)=aa (f,cap)) (y:(xs.toList.map (bZ φ)++fW cap)[p]?=aa (.e (.one (.v u)))) (hl:js σ r u k n es)
  {ps:List Prop} (d:xz ((xs.toList.map (bZ φ)++fW cap).set p (.e (.one (.c (.sl ae k n es))))) (iX [] a)=aa ps) (h:ag ps) (l:ow 0 a=ab) (b:∀ j,Qy (res j)=ab) (m:∀ j,Dy (σ1 j)=ab) (z:gw N o.dst=ab)
  (kk:∀ j,AK X N Qf (.ops all rest::K) .normal (lA o.dst (res j) φ) (σ++σ1 j)):AK X N Qf (.ops all (o::rest)::K) .normal φ σ :=
 AK.GL q g w x ((nO.refl _ _).step p r y hl) d h l b m z kk
end
end
def hJ(E:ar)(k:Nat)(bf:qT)(n:Nat)(xs:List ak):ak->(Nat->Option Obj)->Prop:=λv c=>v=.nilFunc/\(∀ x∈xs,cX x=ab)/\xs.length=n*k/\match bf with
 |.nil _=>n=0/\c=λ_=>af
 |.row b cap=>n<=cap/\cap<=9223372036854775807/\∃ a,(xs++a).length=cap*k/\c=λd=>if d=b then aa (.cells (xs++a).toArray E (0,0)) else af
def sO(k:Nat)(xs:List ak):Nat->List C:=λi=>((xs.drop (i*k)).take k).map .val
def Bm{k n i:Nat}{xs:List ak}(a:xs.length=n*k)(hi:i<n):(sO k xs i).length=k:=by
 have:i*k+k<=n*k:=by rw[<-k8];exact et _ hi
 simp[sO,a];omega
def Bn{k i j:Nat}{xs:List ak}{c:C}(h:(sO k xs i)[j]?=aa c):∃ u,xs[i*k+j]?=aa u/\c=.val u:=by
 simp only[sO,nz,gO,nB] at h
 grind
def hJ.lookup{E:ar}{k b cap n:Nat}{xs:List ak}{v:ak}{ch:Nat->Option Obj}(h:hJ E k (.row b cap) n xs v ch):∃ a,(xs++a).length=cap*k/\ch b=aa (.cells (xs++a).toArray E (0,0))/\∀ c,(ch c).isSome=ab↔c=b:=by
 obtain⟨_,_,_,_,_,a,h1,h2⟩:=h
 grind
def Rd.TE{M:Mem}{b cap k n:Nat}{xs:List ak}(e:∀ x∈xs,cX x=ab)(hl:xs.length=n*k)(hn:n<=cap)(d:cap<=9223372036854775807)(f:∀ o,M b o=xs[o]?):Rd M (.slice (aa ⟨b,0,af⟩) n cap) (.sl ae k n (sO k xs)):=by
 refine Rd.qu (M:=M) (k:=k) (n:=n) (es:=sO k xs) (vs:=xs) (a:=aa ⟨b,0,af⟩) (b:=b) (off:=0) (cap:=cap) (t:=ae) ⟨hl,λi hi=>Bm hl hi,λi hi j c hj=>?_⟩ (λ_=>rfl) hn d (by simp) (λp u g=>by grind)
 obtain⟨u,h1,rfl⟩:=Bn hj;exact⟨u,h1,.val (e u (bT h1))⟩
section
variable {P:aq}{X:Cx P}{N:Nat}{Qf:Post}{K:List It}{φ:Fr}{σ:List aV}{all rest:List aw}{o:aw}
def hJ.Fs{E:ar}{k n f:Nat}{bf:qT}{xs:List ak}(hl:σ[f]?=aa (.dz (hJ E k bf n xs)))(es:Nat->List C)(q:∀ i,i<n->(es i).length=k/\∀ M j c x,(es i)[j]?=aa c->xs[i*k+j]?=aa x->Rd M x c):js σ f (lB bf n) k n es:=by
 intro s hh;have I:f<σ.length:=(cp.1 hl).1;have l:f<s.β.length:=by rw[hh.len];grind
 have z:=br l;generalize s.β[f]=L at z;obtain⟨ch,H,d,B,e⟩:=hh.box f _ L hl z;cases bf with
 |nil a0 =>
  obtain⟨_,_,_,rfl,_⟩:=H;exact⟨L,s.M,z,λ_ _ _ h=>h,λ_ _ _=>rfl,hh.mem,e,Rd.jI⟩
 |row b cap =>
  obtain⟨T,O,r,J⟩:=H.lookup;obtain⟨R,D,w,m,F,_⟩:=H;have A:b∈L.bs:=(B b).2 (by grind)
  have y:=d b _ r;obtain⟨c1,c2⟩:=hh.zn (b:=b) (vs:=xs) (e b A) (λo v U=>by
   simp only[a9,y]
   grind)
  refine⟨L,λG o=>if G=b then xs[o]? else s.M G o,z,c2,λG S o=>aY (by grind),c1.mem,e,?_⟩
  refine Rd.qu (k:=k) (n:=n) (es:=es) (vs:=xs) (a:=aa ⟨b,0,af⟩) (b:=b) (off:=0) (cap:=cap) (t:=ae) ⟨w,λi hi=>(q i hi).1,λi hi j c hj=>?_⟩ (λ_=>rfl) m F (by simp) (λp u V=>by grind)
  have Q:j<k:=by grind
  have g:i*k+j<xs.length:=by
   rw[w];have:i*k+k<=n*k:=by rw[<-k8];exact et _ hi
   omega
  exact⟨xs[i*k+j],br g,(q i hi).2 _ j c _ hj (br g)⟩
def AK.Dz{k:Nat}{x y:an}{E:ar}{Y:TI}(h:mg P o x y E Y)(hs:Y.size=k){d:Nat}(hd:o.dst=aa d)(hg:o.guard=af)(hN:gw N o.dst=ab){l:Nat}{bf:qT}{xs:List ak}{n:Nat}(hx:bZ φ x=.e (.one (.v (lB bf n))))
  (hl:σ[l]?=aa (.dz (hJ E k bf n xs))) {tx:Bool} {es':Nat->List C} (hy:bZ φ y=.e (.one (.c (.sl tx k 1 es')))) {xv:List ak} (hxv:xv.length=k) (hcx:∀ (M:Mem) (v:ak) (j:Nat) (c:C),(es' 0)[j]?=aa c->Rd M v c->xv[j]?=aa v/\cX v=ab) (hb:(n+1)*Y.bytes<=140737488355328)
  (kk:∀ m:qT,AK X N Qf (.ops all rest::K) .normal ((d,.e (.one (.v (lB m (n+1)))))::φ) (σ.set l (.dz (hJ E k m (n+1) (xs++xv))))):AK X N Qf (.ops all (o::rest)::K) .normal φ σ:=by
 refine AK.hand (ι:=qT) (λm=>.e (.one (.v (lB m (n+1))))) (λm=>σ.set l (.dz (hJ E k m (n+1) (xs++xv)))) hg hN ?_ λm=>by rw[hd];exact kk m
 intro s a hf hh;obtain⟨t,t2,i,i2,ho,hi,J,I,H⟩:=h.op;have Qq:l<σ.length:=(cp.1 hl).1;have Qs:l<s.β.length:=by rw[hh.len];grind
 have hL:=br Qs;generalize s.β[l]=L at hL;obtain⟨ch,Z,U,Tn,Wz⟩:=hh.box l _ L hl hL;have V:=bT hL;have O:=dN hf x;rw[hx] at O;have O:=Rd.fX O;have hw:=dN hf y;rw[hy] at hw;have hw:=fx hw;have R:=Z.2.1;have W:=Z.2.2.1;have nM:∀ b,s.w.heap.size<=b->∀ o,s.M b o=af:=λb hb o=>by
  cases hm:s.M b o with
  |none=>rfl
  |some v=>have:=hh.block hm;omega
 have mk:∀ (M':Mem) (a0:Option Addr) (cap:Nat),lB bf n=.slice a0 n cap->cap<n+1->aJ (σ.map λ_=>.dead) { s with M:=M' }->(∀ g o v,s.M g o=aa v->M' g o=aa v) ->
   Rd M' (.slice a0 n cap) (.sl ae k n (sO k xs))->(∀ {es},eX { s with M:=M' } es->eX s es) ->
   ∃ i nx s' v,(ay a.eval o).run P s.w=.ok nx s'.w/\(nx=.value v∨(nx=.skip/\v=aj))/\c8 (σ.set l (.dz (hJ E k i (n+1) (xs++xv)))) s' v (.e (.one (.v (lB i (n+1)))))/\aJ (σ.set l (.dz (hJ E k i (n+1) (xs++xv)))) s'/\Step σ s (σ.set l (.dz (hJ E k i (n+1) (xs++xv)))) s'/\eX s ((ay a.eval o).events P s.w #[]):=by
  intro M' a0 cap hsl GM Qv hMM hR VP;have G:Rd ({ s with M:=M' }:St).M (a.eval y) (.sl tx Y.size 1 es'):=by rw[hs];exact hw.mono hMM
  have Zv:Rd ({ s with M:=M' }:St).M (.slice a0 n cap) (.sl ae Y.size n (sO k xs)):=by grind
  obtain⟨vs,p,A,D,f2,f3,f4,f5⟩:=il (P:=P) (s:={ s with M:=M' }) (ty:=o.type) hi J I H h.elem Qv Zv G GM hb h.bytes;have f6:=iV (P:=P) (s:={ s with M:=M' }) (ty:=o.type) hi J I H h.elem Qv Zv G GM hb h.bytes;rw[hs] at D f4;have Po:vs.length=(n+1)*k:=D.len;have GI:xs.length+k=(n+1)*k:=by grind
  have hk0:0<k:=by have:=h.size;omega
  have SV:∀ j,j<k->∃ v,vs[n*k+j]?=aa v/\xv[j]?=aa v/\cX v=ab:=λj hj=>by
   have QA:=D.width n (by omega)
   have hwn:cO n (sO k xs) es' n=es' 0:=by simp[cO]
   rw[hwn] at QA;obtain⟨v,v1,v2⟩:=D.rd n (by omega) j ((es' 0)[j]'(by omega)) (by grind)
   grind
  have MS:vs=xs++xv:=by
   apply iL
   intro q
   by_cases e:q<xs.length
   .have hi:q / k<n:=pA (by grind)
    have Tm:q / k*k+q % k=q:=pD q k;have hwl:=Bm (k:=k) W hi;have hap:cO n (sO k xs) es' (q / k)=sO k xs (q / k):=by simp[cO,hi]
    have hjl:q % k<(sO k xs (q / k)).length:=by rw[hwl];exact jF _ hk0
    obtain⟨v,v1,v2⟩:=D.rd (q / k) (by omega) (q % k) ((sO k xs (q / k))[q % k]) (by grind)
    obtain⟨u,u1,u2⟩:=Bn (br hjl)
    grind [Rd.fX]
   grind
  subst MS;have WA:∀ x∈xv,cX x=ab:=λx hx=>by
   grind [List.getElem_of_mem]
  let w':az:=s.w.drew.alloc (.cells (xs++xv++p).toArray E)
  have I9:w'.heap[s.w.heap.size]?=aa (.cells (xs++xv++p).toArray E (0,0)):=dt s.w.drew _;have Dv:w'.heap.size=s.w.heap.size+1:=by show (s.w.drew.heap.push _).size=_;simp
  obtain⟨t1,S⟩:=hh.lb (l:=l) (H':=hJ E k (.row s.w.heap.size A) (n+1) (xs++xv)) (L':=⟨L.v,[s.w.heap.size]⟩) (w':=w') hl hL rfl (by omega)
   (λb hb _=>cJ s.w.drew _ hb) (λb hb=>by grind)
   ⟨λg=>if g=s.w.heap.size then aa (.cells (xs++xv++p).toArray E (0,0)) else af,⟨Z.1,λx hx=>by
    grind,by grind,f2,f3,p,by rw[f4],rfl⟩,λb o hb=>by
    grind,λb=>by by_cases e:b=s.w.heap.size <;> simp[e]⟩ rfl rfl rfl
  refine⟨.row s.w.heap.size A,.value (.slice (aa ⟨s.w.heap.size,0,af⟩) (n+1) A),_,_,?_,.inl rfl,Rd.val rfl,t1,S,?_⟩
  .rw[cY ho,O,hsl];simp only[bX,cW];have f5':(Builtin.append_ #[t,t2] o.type #[.slice a0 n cap,a.eval y]).run P s.w=_:=f5;rw[f5'];rfl
  grind [cY,eB]
 cases bf with
 |nil a0 =>
  obtain⟨_,_,_,rfl,_⟩:=Z;refine mk s.M a0 0 rfl (by simp) (by have:=hh.lC;exact⟨this.mem,this.len,this.box,this.gd,this.lt,this.own⟩) (λ_ _ _ h=>h) Rd.jI (λh=>h)
 |row b cap =>
  obtain⟨p,WB,QB,TG⟩:=Z.lookup;obtain⟨Pp,_,_,GM,I2,_⟩:=Z;have F:b∈L.bs:=(Tn b).2 (by grind)
  have z:=U b _ QB;have Zw:=Wz b F;have WC:b<s.w.heap.size:=hh.lt L V b F;have Pn:∀ o v,xs[o]?=aa v->s.w.cell? ⟨b,o,af⟩=aa v:=by
   intro o v ho;simp only[a9,z]
   grind
  obtain⟨c1,c2⟩:=hh.zn (b:=b) (vs:=xs) Zw Pn;have VP:∀ {es:Array Event},eX { s with M:=λg o=>if g=b then xs[o]? else s.M g o } es->eX s es:=λhe =>
   he.vm (b:=b) V F c2 λg o v O=>by
    grind
  have hR:=Rd.TE (M:=λg o=>if g=b then xs[o]? else s.M g o) (b:=b) (cap:=cap) (xs:=xs) R W GM I2 (λo=>by simp)
  by_cases r:n+1<=cap
  .have G:Rd ({ s with M:=λg o=>if g=b then xs[o]? else s.M g o }:St).M (a.eval y) (.sl tx Y.size 1 es'):=by rw[hs];exact hw.mono c2
   obtain⟨f,D,f2⟩:=j8 (P:=P) (s:={ s with M:=λg o=>if g=b then xs[o]? else s.M g o }) (ty:=o.type) (n:=n) (b:=b) (cap:=cap) hi J I H h.elem c1 z (by grind) G r
   have f6:=lO (P:=P) (s:=s) (ty:=o.type) (n:=n) (b:=b) (cap:=cap) hi J I H h.elem hh z (by grind) (x:=a.eval y) (tx:=tx) (es':=es') (by grind) r V F (λo _=>Zw o)
   rw[hs] at D f2;have Tk:f.length=k:=by have:=D.len;omega
   have hw0:=D.width 0 (by omega)
   have SV:∀ j,j<k->∃ v,f[j]?=aa v/\xv[j]?=aa v/\cX v=ab:=λj hj=>by
    obtain⟨v,v1,v2⟩:=D.rd 0 (by omega) j ((es' 0)[j]'(by omega)) (br (by omega))
    grind
   have T:f=xv:=by
    apply iL
    grind
   subst T;have WA:∀ x∈f,cX x=ab:=λx hx=>by
    grind [List.getElem_of_mem]
   have hfk:n*k+k<=cap*k:=by rw[<-k8];exact et _ r
   have hzk:k<=p.length:=by grind
   have Q:((xs++p).take (n*k)++f++(xs++p).drop (n*k+f.length))=xs++f++p.drop k:=by
    rw[<-W,Tk];simp[List.drop_append]
   rw[Q] at f2;have Qn:(s.w.setRow b (xs++f++p.drop k).toArray).heap[b]?=aa (.cells (xs++f++p.drop k).toArray E (0,0)):=setRow_heap s.w b _ _ E _ z;have DC:∀ g,g≠b->(s.w.setRow b (xs++f++p.drop k).toArray).heap[g]?=s.w.heap[g]?:=λg B=>setRow_other s.w b g _ B
   obtain⟨t1,S⟩:=hh.lb (l:=l) (H':=hJ E k (.row b cap) (n+1) (xs++f)) (L':=L) (w':=s.w.setRow b (xs++f++p.drop k).toArray) hl hL rfl (by simp)
    (λg B hn=>DC g (by grind)) (λg B=>.inl B)
    ⟨λg=>if g=b then aa (.cells (xs++f++p.drop k).toArray E (0,0)) else af,⟨Pp,λx hx=>by
     grind,by grind,r,I2,p.drop k,by grind,rfl⟩,λg o B=>by
     grind,λg=>by
     grind⟩ rfl rfl rfl
   refine⟨.row b cap,.value (.slice (aa ⟨b,0,af⟩) (n+1) cap),_,_,?_,.inl rfl,Rd.val rfl,t1,S,?_⟩
   .rw[cY ho,O];simp only[bX,cW,lB];have f2':(Builtin.append_ #[t,t2] o.type #[.slice (aa ⟨b,0,af⟩) n cap,a.eval y]).run P s.w=_:=f2;rw[f2'];rfl
   .rw[cY ho,O];exact eB f6
  .exact mk _ (aa ⟨b,0,af⟩) cap rfl (by omega) c1 c2 hR VP
def AK.Nl(t:Nat)(E:ar)(k:Nat){g:Nat}{es:Nat->List C}{c:Code}(j:look φ t=.e (.one (.c (.sl ab g 0 es))))
  (kk:∀ bf:qT,AK X N Qf (.code c::K) .normal ((t,.e (.one (.v (lB bf 0))))::φ) (σ++[.dz (hJ E k bf 0 [])])):AK X N Qf (.code c::K) .normal φ σ:=by
 refine AW.Qz (λs a d hh=>?_) kk
 have f:=d.slot t;rw[j] at f;obtain⟨a0,cap,vs,i,_,_,b,_,_⟩:=(fx f).flat;have b:=b rfl;subst b;obtain⟨h,g2⟩:=hh.gR (B:=.dz (hJ E k (.nil a0) 0 [])) (L:=⟨.nilFunc,[]⟩) (.refl _ _) rfl hh ⟨λ_=>af,⟨rfl,by simp,by simp,rfl,rfl⟩,by simp,by simp,by simp⟩ (by simp)
 refine⟨.nil a0,{ s with β:=s.β++[⟨.nilFunc,[]⟩] },rfl,⟨d.size,d.defers.imp λ_ h1=>h1.mono g2.ext,λu=>?_⟩,h,g2⟩
 simp only[look];cases hb:aG t u with
 |false=>exact(d.slot u).mono g2.ext hh.len
 |true =>
  have e:=bU hb;subst e;show Rd _ _ _;rw[i];exact Rd.val rfl
def AK.DD(t l:Nat){E:ar}{k n:Nat}{bf:qT}{xs:List ak}(es:Nat->List C){c:Code}(z:look φ t=.e (.one (.v (lB bf n))))(hl:σ[l]?=aa (.dz (hJ E k bf n xs)))(g:∀ i,i<n->(es i).length=k/\∀ M j c x,(es i)[j]?=aa c->xs[i*k+j]?=aa x->Rd M x c)
  (kk:AK X N Qf (.code c::K) .normal ((t,.e (.one (.c (.sl ae k n es))))::φ) (σ.set l .dead)):AK X N Qf (.code c::K) .normal φ σ:=by
 refine AK.ghost (λs a f hh=>?_) kk
 obtain⟨L,M',q,m,r,w,F,A⟩:=hJ.Fs hl es g s hh;have d:l<σ.length:=(cp.1 hl).1;have p:=f.slot t;rw[z] at p;have D:=Rd.fX p;have ex:Ext σ s (σ.set l .dead) { s with M:=M' }:=by
  refine⟨m,λl' B L' od gu=>?_⟩
  by_cases e:l=l'
  .subst e;rw[hl] at od;cases od;exact⟨.dead,L',by grind,gu,rfl⟩
  .exact⟨B,L',by grind,gu,.refl _ _⟩
 have st:Step σ s (σ.set l .dead) { s with M:=M' }:=by
  refine⟨bg _,λ_ _ _=>rfl,m,λb _ hn o=>r b (hn L (bT q)) o,λL h b hb=>.inr ⟨L,h,hb⟩,ex.box,rfl,rfl,rfl,rfl⟩
 refine⟨{ s with M:=M' },rfl,⟨f.size,f.defers.imp λ_ h1=>h1.mono st.ext,λu=>?_⟩,⟨w,by simp[hh.len],?_,hh.gd,hh.lt,hh.own⟩,st⟩
 .simp only[look];cases hb:aG t u with
  |false=>exact(f.slot u).mono st.ext hh.len
  |true =>
   have e:=bU hb;subst e;show Rd _ _ _
   grind
 .intro l' B L' od gu
  by_cases e:l=l'
  .subst e;rw[fH d] at od;cases od;trivial
  .rw[iK e] at od;exact(hh.box l' B L' od gu).carry ex hh.len λb hb=>⟨rfl,r b λy=>e (hh.gd l l' L L' q gu b y hb)⟩
end
section
open Go.Conc (G)
structure dZ (k n:Nat)(es:Nat->List C)(xs:List ak):Prop where
 len:xs.length=n*k
 wid:∀ i,i<n->(es i).length=k
 at':∀ i,i<n->∀ j c,(es i)[j]?=aa c->∃ x,xs[i*k+j]?=aa x/\∀ M,Rd M x c
def dZ.rd{k n:Nat}{es:Nat->List C}{xs:List ak}(h:dZ k n es xs):∀ i,i<n->(es i).length=k/\∀ M j c x,(es i)[j]?=aa c->xs[i*k+j]?=aa x->Rd M x c:=λi hi =>
 ⟨h.wid i hi,λM j c x hj hx=>by obtain⟨y,h1,h2⟩:=h.at' i hi j c hj;grind⟩
def PR(v:ak):A->A
 |.vec 0 _ _ _=>.v v
 |a=>a
def Ki(v:ak):E1->E1
 |.one a=>.one (PR v a)
 |e=>e
def D4(v:ak):List E1->List E1
 |[]=>[]
 |a::r=>Ki v a::D4 v r
def PS(v:ak):D->D
 |.e x=>.e (Ki v x)
 |.eJ xs=>.eJ (D4 v xs)
 |.any=>.any
def nW(n:Nat):A->Bool
 |.vec 0 _ b _=>aG b n
 |a=>vr a
def r7(n:Nat):E1->Bool
 |.one a=>nW n a
 |e=>Jd e
def o8(n:Nat):List E1->Bool
 |[]=>ab
 |a::r=>match r7 n a with|true=>o8 n r|false=>ae
def Aa(n:Nat):D->Bool
 |.e x=>r7 n x
 |.eJ xs=>o8 n xs
 |.any=>ab
section
variable {σ':List aV}{s s':St}{E:ar}{k n:Nat}{es:Nat->List C}{L:Loc}
def Kj(i:s.β[0]?=aa L){v:ak}{a:A}(h:nW n a=ab)(r:gv [aV.vec E k n es] s v a):gv σ' s' v (PR L.v a):=by
 cases a with
 |c x=>exact rB h r
 |any=>exact r
 |vec l k' n' es' =>
  cases l with
  |zero =>
   obtain⟨g,_,b⟩:=r;have b:=b E k n es rfl;have e:=bU h;obtain⟨L',f,d⟩:=b.2 e.symm;rw[i] at f;cases f;show Rd _ _ _;rw[d];exact .val (d▸g.cell)
  |succ l=>simp[nW,vr] at h
 |ptr=>simp[nW,vr] at h
 |ref=>simp[nW,vr] at h
 |bp=>simp[nW,vr] at h
def BX(b:s.β[0]?=aa L){v:ak}{x:E1}(h:r7 n x=ab)(r:mT [aV.vec E k n es] s v x):mT σ' s' v (Ki L.v x):=by
 cases x with
 |one a=>exact Kj b h r
 |agg cs=>exact zu (x:=.agg cs) h r
def yu(b:s.β[0]?=aa L):∀ {vs:List ak}{cs:List E1},o8 n cs=ab->gI [aV.vec E k n es] s vs cs->gI σ' s' vs (D4 L.v cs)
 |[],[],_,_=>trivial
 |[],_::_,_,r=>r.elim
 |_::_,[],_,r=>r.elim
 |v::vs,c::cs,h,r=>by
  simp only[o8] at h;cases a:r7 n c with
  |false=>grind
  |true=>simp only[a] at h;exact⟨BX b a r.1,yu b h r.2⟩
def BY(a:s.β[0]?=aa L){v:ak}{d:D}(h:Aa n d=ab)(r:c8 [aV.vec E k n es] s v d):c8 σ' s' v (PS L.v d):=by
 cases d with
 |e x=>exact BX a h r
 |eJ xs=>obtain⟨vs,b,c⟩:=r;exact⟨vs,b,yu a h c⟩
 |any=>trivial
end
def vd:List ResultVar->Bool
 |[]=>ab
 |.tmp _::r=>vd r
 |.cell _ _::_=>ae
def tR{P:aq}{a:Act}:∀ {rs:List ResultVar},vd rs=ab->∃ vs,(∀ w,(rs.mapM (fS a)).run P w=Result.ok vs w)/\cN P (rs.mapM (fS a))
 |[],_=>⟨[],by simp,by rw[List.mapM_nil];exact .pure⟩
 |.tmp t::r,h=>by
  obtain⟨vs,b,c⟩:=tR (P:=P) (a:=a) (rs:=r) h;refine⟨a.tmps.getD t aj::vs,λw=>?_,?_⟩
  .simp only[lz,bX,fS,cW,b8,b]
  .rw[lz];exact .bind .pure λ_=>.bind c λ_=>.pure
def uq.tmp{P:aq}{f:aW}{fn:Func}{fr:aR}{v:ak}{s s':St}(h:uq P f fr v s)(x:P.funcs[f]?=aa fn)(q:vd fn.results.toList=ab)(l:∀ b o u,s.M b o=aa u->s.w.cell? ⟨b,o,af⟩=aa u):uq P f fr v s':=by
 obtain⟨h1,h2,j,m,c,p,g⟩:=h;have e:c=fn:=by grind
 subst e
 let a:Act:={ tmps:=fr.tmps,defers:=[] }
 obtain⟨vs,k1,t⟩:=tR (P:=P) (a:=a) q;have e1:∀ w,(c.results.mapM (fS a)).run P w=Result.ok vs.toArray w:=λw=>by
  grind [Array.mapM_eq_mapM_toList,Sem.run_map,Go.Result.andThen_ok]
 have e2:∀ w,(results c fr.tmps).run P w=.ok (if h:vs.toArray.size=1 then vs.toArray[0] else .tuple vs.toArray) w:=λw=>by
  unfold results;rw[bX];refine(dn (λr=>Result.andThen r _) (e1 w)).trans ?_
  simp
 have e3:cN P (results c fr.tmps):=by
  unfold results;have e:cN P (c.results.mapM (fS a)):=by
   rw[qt];exact .map t
  exact .bind e λ_=>.pure
 have d:=(g s.w l).1;rw[e2] at d;cases d;exact⟨h1,h2,j,m,c,p,λw _=>⟨e2 w,λe i=>by rw[e3 w #[]] at i;grind⟩⟩
def Ev.thaw{P:aq}{X:Cx P} [X.js] {f:aW}{args:List D}{res:D}{E:ar}{k n:Nat}{es:Nat->List C}(h:Ev X f args [] res [.vec E k n es]){fn:Func}(hf:P.funcs[f]?=aa fn)(ht:vd fn.results.toList=ab)(Q:Aa n res=ab)
  (N:∀ i,i<n->(es i).length=k/\∀ c∈es i,vq c=ab) :
  cK (ι:={ q:qT×List ak // dZ k n es q.2 }) X f args [] (λq=>PS (lB q.1.1 n) res) (λq=>[.dz (hJ E k q.1.1 n q.1.2)]):=by
 refine⟨h.1,λs vs hr hh S cs hS=>h.2 s vs hr hh S cs λfr v s' hl mL k9 st=>?_⟩
 have hβ0:s.β=[]:=hX hh.len;have hlen:s'.β.length=1:=k9.len;obtain⟨L,O⟩:∃ L,s'.β=[L]:=by
  match hq:s'.β with
  |[L]=>grind
  |[]=>grind
  |_::_::_=>grind
 have hL:s'.β[0]?=aa L:=by grind
 obtain⟨ZJ,W⟩:=k9.box 0 _ L rfl hL;rcases W with⟨⟨Tn,Wr⟩,t⟩|⟨b,cap,cells,TO,G,Z,FC⟩
 .subst Wr;obtain⟨a,cap,vs0,hv,GM,I2,htc,_⟩:=t.flat;have I:cap=0:=htc rfl;subst I
  let y:St:={ s' with β:=[⟨.nilFunc,[]⟩] }
  have hg:eQ s' y:=⟨rfl,λ_ _ _ h=>h,λ_ _ _=>rfl,k9.mem,λb hb=>by
   grind⟩
  have z:dZ k 0 es []:=⟨by simp,λi hi=>by omega,λi hi=>by omega⟩
  refine .ghost hg (hS ⟨(.nil a,[]),z⟩ fr v y (hl.tmp hf ht k9.mem) ?_ ?_ ?_)
  .have:=BY (σ':=[aV.dz (hJ E k (.nil a) 0 [])]) (s':=y) hL Q mL;rw[hv] at this;exact this
  .refine⟨k9.mem,rfl,λl B L' hB gu=>?_,?_,by grind,λb hb=>⟨(k9.own b hb).1,by grind⟩⟩
   .cases l with
    |zero=>cases hB;cases gu;exact⟨λ_=>af,⟨rfl,by simp,by simp,rfl,rfl⟩,by simp,by simp,by simp⟩
    |succ l=>grind
   grind
  .refine⟨st.size,st.eL,st.mem,st.jA,λL' gu b hb=>?_,λl B L' hB=>by grind,st.os,st.tape,st.output,st.own⟩
   grind
 .subst TO;have K:b∈(⟨.slice (aa ⟨b,0,af⟩) n cap,[b]⟩:Loc).bs:=by simp
  have Z9:s.w.heap.size<=b:=by
   rcases st.xx _ (by grind) b K with h1|⟨L0,h1,_⟩
   .exact h1
   grind
  have WC:b<s'.w.heap.size:=k9.lt _ (by grind) b K
  obtain⟨a1,acQ,m,Y,r,J,_,hF,hm⟩:=ZJ.flat;cases Y;have T:m.length=n*k:=hF.len;have acR:∀ p u,m[p]?=aa u->cells[p]?=aa u:=λp u U=>by
   obtain⟨b1,acS,e,XI⟩:=hm p u U;cases e;have:=k9.mem _ _ _ XI;simp only[a9,G] at this;simpa using this
  have hnk:n*k<=cells.length:=by rw[Z];exact et _ r
  have PL:cells.take (n*k)=m:=by
   apply iL
   grind
  have Qo:m++cells.drop (n*k)=cells:=by grind [List.take_append_drop]
  have z:dZ k n es m:=by
   refine⟨T,λi hi=>(N i hi).1,λi hi j c hj=>?_⟩
   obtain⟨u,u1,u2⟩:=hF.rd i hi j c hj
   grind [rB]
  have F:∀ x∈m,cX x=ab:=λx hx=>by
   obtain⟨p,U,rfl⟩:=dT hx;have hk:0<k:=by
    grind
   have hi:p / k<n:=pA (by grind)
   have Tm:p / k*k+p % k=p:=pD p k;have hj:p % k<(es (p / k)).length:=by rw[(N _ hi).1];exact jF _ hk
   obtain⟨u,u1,u2⟩:=z.at' _ hi _ _ (br hj);rw[Tm,br U] at u1;cases u1;exact(u2 s.M).cell
  have H:∀ d o v',s.M d o=aa v'->d≠b:=λd o v' hm' e=>by
   have:=hh.block hm';omega
  let R:Mem:=λd o=>if d=b then af else s'.M d o
  let s1:St:={ s' with β:=[],own:=λx=>s'.own x∨x=b }
  let s2:St:={ s1 with M:=R }
  let y:St:={ s' with β:=[⟨.nilFunc,[b]⟩],M:=R }
  have A:∀ d o v',R d o=aa v'->s'.M d o=aa v':=λd o v' h'=>by
   grind
  have Wy:eQ s' s1:=⟨rfl,λ_ _ _ h=>h,λ_ _ _=>rfl,k9.mem,λd g=>by
   rcases g with(g|g)|⟨L',gu,_⟩
   .grind
   .exact .inr ⟨_,by rw[O];simp;rfl,by grind⟩
   grind⟩
  have VS:mM s1 s2:=⟨rfl,rfl,rfl,A,λd o v' h'=>by
   grind⟩
  have V:eQ s2 y:=⟨rfl,λ_ _ _ h=>h,λ_ _ _=>rfl,λd o v' h'=>k9.mem _ _ _ (A _ _ _ h'),λd g=>by
   grind⟩
  refine .ghost Wy (.forget Cx.js.ok VS (.ghost V (hS ⟨(.row b cap,m),z⟩ fr v y (hl.tmp hf ht k9.mem) ?_ ?_ ?_)))
  .exact BY (L:=⟨.slice (aa ⟨b,0,af⟩) n cap,[b]⟩) hL Q mL
  .refine⟨λd o v' h'=>k9.mem _ _ _ (A _ _ _ h'),rfl,λl B L' hB gu=>?_,?_,λL' gu d g=>?_,λd g=>⟨(k9.own d g).1,λL' gu=>?_⟩⟩
   .cases l with
    |zero =>
     cases hB;cases gu;refine⟨λd=>if d=b then aa (.cells (m++cells.drop (n*k)).toArray E (0,0)) else af,⟨rfl,F,T,r,J,cells.drop (n*k),?_,rfl⟩,λd o g=>?_,λd=>?_,λd g o=>?_⟩
     .grind
     .grind
     .by_cases e:d=b <;> simp[e]
     grind
    |succ l=>grind
   .grind
   .grind
   .simp[y] at gu;subst gu;have:=(k9.own d g).2 _ (by rw[O];simp;rfl)
    grind
  .refine⟨st.size,st.eL,λd o v' h'=>?_,λd g hn o=>?_,λL' gu d g=>?_,λl B L' hB=>by grind,st.os,st.tape,st.output,st.own⟩
   .simp only[y,R,aY (H d o v' h')];exact st.mem _ _ _ h'
   .have:d≠b:=by omega
    simp only[y,R,aY this];exact st.jA d g hn o
   grind
section
variable {P:aq}{X:Cx P}{N:Nat}{Qf:Post}{K:List It}{φ:Fr}{σ:List aV}{all rest:List aw}{o:aw}
def AK.Jg{p:Prop}(h:∀ s,aJ σ s->p)(k:p->AK X N Qf (.ops all rest::K) .normal φ σ):AK X N Qf (.ops all rest::K) .normal φ σ :=
 λs a b hh=>k (h s hh) s a b hh
def hJ.len{E:ar}{k n l:Nat}{bf:qT}{xs:List ak}(hl:σ[l]?=aa (.dz (hJ E k bf n xs)))(s:St)(hh:aJ σ s):xs.length=n*k/\n<=9223372036854775807/\(0<n->∃ b cap,bf=.row b cap)/\∀ a,bf=.nil a->n=0:=by
 have c:l<s.β.length:=by rw[hh.len];grind
 obtain⟨ch,e,_⟩:=hh.box l _ _ hl (br c);cases bf with
 |nil a=>obtain⟨_,_,f,rfl,_⟩:=e;grind
 |row b cap=>obtain⟨_,_,f,g,h,_⟩:=e;grind
def rC:List A->Bool
 |[]=>ab
 |.c x::r=>match vq x with|true=>rC r|false=>ae
 |_=>ae
def mN(vs:List ak)(cs:List A):Prop:=vs.length=cs.length/\∀ (j:Nat)(c:C),cs[j]?=aa (A.c c)->∃ v,vs[j]?=aa v/\∀ M,Rd M v c
theorem mN.of{σ:List aV}{s:St}:∀ {vs:List ak}{cs:List A},rC cs=ab->dM σ s vs cs->mN vs cs
 |[],[],_,_=>⟨rfl,λj c h=>by grind⟩
 |[],_::_,_,r=>r.elim
 |_::_,[],_,r=>r.elim
 |v::vs,.c x::cs,h,r=>by
  simp only[rC] at h;cases a:vq x with
  |false=>grind
  |true =>
   simp only[a] at h;obtain⟨h1,h2⟩:=mN.of h r.2;refine⟨by grind,λj c hj=>?_⟩
   cases j with
   |zero=>simp at hj;subst hj;exact⟨v,rfl,λM=>rB a r.1⟩
   |succ j=>grind
 |_::_,.ptr _ _::_,h,_=>by simp[rC] at h
 |_::_,.vec _ _ _ _::_,h,_=>by simp[rC] at h
 |_::_,.ref _::_,h,_=>by simp[rC] at h
 |_::_,.bp _ _::_,h,_=>by simp[rC] at h
 |_::_,.any::_,h,_=>by simp[rC] at h
theorem dM.cX{σ:List aV}{s:St}:∀ {vs:List ak}{cs:List A},dM σ s vs cs->∀ v∈vs,AM.cX v=ab
 |[],[],_,v,h=>by grind
 |[],_::_,r,_,_=>r.elim
 |_::_,[],r,_,_=>r.elim
 |u::vs,c::cs,r,v,h=>by
  rcases e9.1 h with rfl|h
  .exact gv.cell r.1
  .exact dM.cX r.2 v h
def AK.DF{T:List (Nat×TI)}(hT:db P T)(l:Nat){t:ar}{x y:an}{E:ar}{k n b cap off:Nat}{xs:List ak}{new:List A}{i:TI}(h:o.op=.store t x y)(hi:bE T t=aa i)(hx:bZ φ x=.e (.one (.v (.pointer (aa ⟨b,off,af⟩)))))(hy:mO (bZ φ y)=aa new)(I9:new.length=i.size)(Zx:rC new=ab)
  (hl:σ[l]?=aa (.dz (hJ E k (.row b cap) n xs))) (TH:off+new.length<=xs.length) (hg:o.guard=af) (hN:gw N o.dst=ab)
  (kk:∀ vs,mN vs new->AK X N Qf (.ops all rest::K) .normal (lA o.dst .any φ) (σ.set l (.dz (hJ E k (.row b cap) n (xs.take off++vs++xs.drop (off+vs.length)))))):AK X N Qf (.ops all (o::rest)::K) .normal φ σ:=by
 refine AK.hand (ι:={ vs:List ak // mN vs new }) (λ_=>.any) (λvs=>σ.set l (.dz (hJ E k (.row b cap) n (xs.take off++vs.1++xs.drop (off+vs.1.length))))) hg hN (λs a hf hh=>?_) λvs=>kk vs.1 vs.2
 have R:=dN hf x;rw[hx] at R;have R:=Rd.fX R;have D:=mV hy (dN hf y);have Qq:l<σ.length:=(cp.1 hl).1;have H:l<s.β.length:=by rw[hh.len];grind
 have V:=br H;generalize s.β[l]=L at V;obtain⟨ch,hH,F,W,Wz⟩:=hh.box l _ L hl V;obtain⟨c,WB,Q,TG⟩:=hJ.lookup hH;obtain⟨Pp,Y,hxl,J,Z,_⟩:=hH;have G:b∈L.bs:=(W b).2 (by grind)
 have m:=F b _ Q
 let vs:=(a.eval y).cells.toList
 have O:mN vs new:=mN.of Zx D;have Po:vs.length=new.length:=O.1;have q:off+0+vs.length<=(xs++c).toArray.size:=by grind
 have B:=run_storeCells_at P b off E vs 0 (xs++c).toArray s.w m q D.cell;simp only[iN] at B;have z:(xs++c).take off++vs++(xs++c).drop (off+vs.length)=(xs.take off++vs++xs.drop (off+vs.length))++c:=by
  have e1:off-xs.length=0:=by omega
  have e2:off+vs.length-xs.length=0:=by omega
  grind [List.take_append]
 rw[z] at B;have abG:(xs.take off++vs++xs.drop (off+vs.length)).length=xs.length:=by
  simp only[bP,List.length_take,oJ];omega
 have Qn:=setRow_heap s.w b (xs++c).toArray ((xs.take off++vs++xs.drop (off+vs.length))++c).toArray E (0,0) m;have I:∀ f,f≠b->(s.w.setRow b ((xs.take off++vs++xs.drop (off+vs.length))++c).toArray).heap[f]?=s.w.heap[f]?:=λf p=>setRow_other s.w b f _ p
 obtain⟨t1,t2⟩:=hh.lb (l:=l) (H':=hJ E k (.row b cap) n (xs.take off++vs++xs.drop (off+vs.length))) (L':=L) (w':=s.w.setRow b ((xs.take off++vs++xs.drop (off+vs.length))++c).toArray) hl V rfl (by simp)
  (λf p hn=>I f (by grind)) (λf p=>.inl p)
  ⟨λf=>if f=b then aa (.cells ((xs.take off++vs++xs.drop (off+vs.length))++c).toArray E (0,0)) else af,⟨Pp,λx hx=>by
   grind [dM.cX],by grind,J,Z,c,by grind,rfl⟩,λf o p=>by
   simp_all,λf=>by
   simp_all⟩ rfl rfl rfl
 have S:(a.eval y).cells.size=i.size:=by grind
 refine⟨⟨vs,O⟩,.skip,_,aj,?_,.inr ⟨rfl,rfl⟩,av,t1,t2,?_⟩
 .have U:(storeCells ⟨b,off,af⟩ (a.eval y).cells.toList).run P s.w=_:=B;simp[ay,h,R,Instr.storeAt,Instr.sureAddr,storeVar,(hT t i hi).run_sizeOf,S,U]
 .intro ev g;have e:ay a.eval o=(do storeVar t ⟨b,off,af⟩ (a.eval y);pure .skip):=by simp[ay,h,R,Instr.storeAt,Instr.sureAddr]
  rw[e] at g;have M:ev∈(storeCells ⟨b,off,af⟩ (a.eval y).cells.toList).events P s.w #[]:=by
   simp only[storeVar,aO,(hT t i hi).run_sizeOf,S,aU,events_sizeOf,cT,ft,b9,bX,b8,Sem.events_pure] at g;generalize (storeCells ⟨b,off,af⟩ (a.eval y).cells.toList).run P s.w=r at g;cases r with
   |ok v w'=>simpa using g
   |halt x w'=>simpa using g
  rcases eE (a.eval y).cells.toList 0 (xs++c).toArray s.w #[] m q D.cell ev M with Qv|⟨j,_,_,rfl⟩
  .grind
  .exact mh (bT V) G (Wz b G _)
def AK.swap(i j:Nat){H1 H2:ak->(Nat->Option Obj)->Prop}{c:Code}(M:i≠j)(hi:σ[i]?=aa (.dz H1))(hj:σ[j]?=aa (.dz H2))(h1:∀ v ch,H1 v ch->v=.nilFunc)(h2:∀ v ch,H2 v ch->v=.nilFunc)
  (kk:AK X N Qf (.code c::K) .normal φ ((σ.set i (.dz H2)).set j (.dz H1))):AK X N Qf (.code c::K) .normal φ σ:=by
 refine AK.ghost (λs a D hh=>?_) kk
 have F:i<σ.length:=(cp.1 hi).1;have G:j<σ.length:=(cp.1 hj).1;have w:i<s.β.length:=by rw[hh.len];grind
 have x:j<s.β.length:=by rw[hh.len];grind
 obtain⟨m,t⟩:∃ L,s.β[i]?=aa L:=⟨_,br w⟩;obtain⟨r,A⟩:∃ L,s.β[j]?=aa L:=⟨_,br x⟩;have H:=hh.box i _ m hi t;have I:=hh.box j _ r hj A;have O:m.v=.nilFunc:=by obtain⟨ch,J,_⟩:=H;grind
 have Q:r.v=.nilFunc:=by obtain⟨ch,J,_⟩:=I;grind
 let s':St:={ s with β:=(s.β.set i r).set j m }
 have z:∀ l,((σ.set i (.dz H2)).set j (.dz H1))[l]?=if l=j then aa (.dz H1) else if l=i then aa (.dz H2) else σ[l]?:=λl=>by
  grind
 have p:∀ l,s'.β[l]?=if l=j then aa m else if l=i then aa r else s.β[l]?:=λl=>by
  grind
 have E:∀ L∈s'.β,L∈s.β:=λL f=>by
  grind
 have ex:Ext σ s ((σ.set i (.dz H2)).set j (.dz H1)) s':=by
  refine⟨λ_ _ _ h=>h,λl B L g f=>?_⟩
  rw[z,p]
  by_cases e:l=j
  .subst e;rw[hj] at g;cases g;rw[A] at f;cases f;exact⟨.dz H1,m,by simp,by simp,by show m.v=_;grind⟩
  .by_cases y:l=i
   .subst y;rw[hi] at g;cases g;rw[t] at f;cases f;exact⟨.dz H2,r,by simp[e],by simp[e],by show r.v=_;grind⟩
   .exact⟨B,L,by grind,by grind,.refl _ _⟩
 have st:Step σ s ((σ.set i (.dz H2)).set j (.dz H1)) s':=by
  exact⟨bg _,λ_ _ _=>rfl,λ_ _ _ h=>h,λ_ _ _ _=>rfl,λL h b hb=>.inr ⟨L,E L h,hb⟩,ex.box,rfl,rfl,rfl,rfl⟩
 refine⟨s',rfl,⟨D.size,D.defers.imp λ_ h1=>h1.mono ex,λu=>(D.slot u).mono ex hh.len⟩,⟨hh.mem,by simp[s',hh.len],?_,?_,λL f b hb=>hh.lt L (E L f) b hb,λb hb=>⟨(hh.own b hb).1,λL f=>(hh.own b hb).2 L (E L f)⟩⟩,st⟩
 .intro l B L g f;rw[z] at g;rw[p] at f;split at g
  .rename_i e
   rw[bc e] at f;cases g;cases f;exact H
  .rename_i e
   rw[aY e] at f;split at g
   .rename_i y
    rw[bc y] at f;cases g;cases f;exact I
   .rename_i y
    rw[aY y] at f;exact(hh.box l B L g f).carry ex hh.len λb hb=>⟨rfl,λ_=>rfl⟩
 .intro l l' L1 L2 q1 q2 b hb oG;rw[p] at q1 q2;have key:∀ l L,(if l=j then aa m else if l=i then aa r else s.β[l]?)=aa L->s.β[if l=j then i else if l=i then j else l]?=aa L:=λl L q=>by
   grind
  have:=hh.gd _ _ L1 L2 (key l L1 q1) (key l' L2 q2) b hb oG
  by_cases e1:l=j <;> by_cases e2:l'=j <;> by_cases e3:l=i <;> by_cases R:l'=i <;> simp_all
def AK.Jh{T:List (Nat×TI)}(V:db P T){t:ar}{x y:an}{i p:TI}{E:ar}{n:Nat}{U J:IntKind}(h:o.op=.makeSlice t x y)(hi:bE T t=aa i)(hd:i.desc=.slice E)(hE:bE T E=aa p)
  (hx:bZ φ x=.e (.one (.c (.int U n)))) (hy:bZ φ y=.e (.one (.c (.int J n)))) (hb:n*p.bytes<=140737488355328) (Y:n<=140737488355328) (hg:o.guard=af) (hN:gw N o.dst=ab)
  (kk:∀ b xs,AK X N Qf (.ops all rest::K) .normal (lA o.dst (.e (.one (.v (lB (.row b n) n)))) φ) (σ++[.dz (hJ E p.size (.row b n) n xs)])):AK X N Qf (.ops all (o::rest)::K) .normal φ σ:=by
 refine AK.hand (ι:=Nat×List ak) (λq=>.e (.one (.v (lB (.row q.1 n) n)))) (λq=>σ++[.dz (hJ E p.size (.row q.1 n) n q.2)]) hg hN (λs a W hh=>?_) λq=>kk q.1 q.2
 have j:=dN W x;rw[hx] at j;have j:=fx j;generalize G:a.eval x=vx at j;cases j;have m:=dN W y;rw[hy] at m;have m:=fx m;generalize F:a.eval y=vy at m;cases m;have l:=(V t i hi).SW;rw[hd] at l;obtain⟨g,z,H,z2,z3,z4,Z,z6,z7⟩:=(V E p hE).info;have f:(g.bytes:Int)*(n:Int)<=281474976710656:=by
  grind
 have r:=run_make (P:=P) (w:=s.w) t E g z l H z4 U J n n (by omega) (Int.le_refl _) f (by omega)
 simp only[bz] at r
 let xs:=(madeCells z.cells (n*g.size)).toList
 have R:xs.length=n*p.size:=by
  grind [size_madeCells]
 have hzc:∀ v∈z.cells.toList,cX v=ab:=dM.cX (kH (σ:=σ) (s:=s) Z);have WB:z.cells.toList.length=p.size:=by
  have:=dn List.length Z
  grind
 have I:∀ v∈xs,cX v=ab:=by
  intro v hv;simp only[xs,madeCells,Array.toList_map,pJ] at hv
  grind [Nat.mod_lt]
 have hB:eO (σ++[.dz (hJ E p.size (.row s.w.heap.size n) n xs)]) { s with w:=s.w.alloc (.cells xs.toArray E),β:=s.β++[⟨.nilFunc,[s.w.heap.size]⟩] } (.dz (hJ E p.size (.row s.w.heap.size n) n xs)) ⟨.nilFunc,[s.w.heap.size]⟩:=by
  refine⟨λB=>if B=s.w.heap.size then aa (.cells (xs++[]).toArray E (0,0)) else af,⟨rfl,I,R,bg _,by omega,[],by grind,rfl⟩,λB o f=>?_,λB=>?_,λB f o=>?_⟩
  .by_cases e:B=s.w.heap.size
   .subst e;simp only[cq] at f;grind [dt]
   grind
  .by_cases e:B=s.w.heap.size <;> simp[e]
  .simp at f;subst f;cases Q:s.M s.w.heap.size o with
   |none=>rfl
   |some v=>have:=hh.block Q;omega
 have D:aJ σ { s with w:=s.w.alloc (.cells xs.toArray E) }/\Step σ s σ { s with w:=s.w.alloc (.cells xs.toArray E) } :=
  hh.grow (by simp) (λb hb=>cJ s.w _ hb) (λb hb o=>rfl) (λb hb o v Q=>by
   have:=hh.block Q;omega) rfl rfl rfl
 obtain⟨g1,g2⟩:=D.1.gR D.2 rfl hh hB (λb hb=>by
   simp_all)
 refine⟨(s.w.heap.size,xs),.value (.slice (aa ⟨s.w.heap.size,0,af⟩) n n),_,_,?_,.inl rfl,Rd.val rfl,g1,g2,?_⟩
 .simp[ay,h,G,F,r,xs]
 .have e:ay a.eval o=(do pure (.value (<-Instr.makeSlice t (.int U n) (.int J n)))):=by simp[ay,h,G,F]
  rw[e];refine eB ?_;intro e A;have hu:∀ u,(underlying t).run P u=.ok (.slice E) u:=λu=>by simp[underlying,l]
  have O:∀ u,(typeInfo E).run P u=.ok g u:=λu=>by simp[typeInfo,H]
  have L:∀ u,(zeroValue E).run P u=.ok z u:=λu=>by simp[zeroValue,typeInfo,H,z4]
  have S:∀ u,(sizeOf E).run P u=.ok g.size u:=λu=>by simp[sizeOf,typeInfo,H]
  have wl:IntKind.i64.wrap (n:Int)=n:=by grind [IntKind.wrap_i64]
  have n1:¬(n:Int)<0:=by omega
  have n2:¬(281474976710656<(g.bytes:Int)*n):=by omega
  simp[Instr.makeSlice,hu,O,S,asInt,asIntOf,wl,n1,n2] at A;rw[L] at A;simp only[aU,(cN.newRow (P:=P)) _ _,ite_self] at A;unfold askRoom at A;split at A
  .have:e=⟨.mark .noRoom,ae,ab⟩:=by simpa using A
   rw[this];exact .inl rfl
  .simp at A
end
section
variable {σ σ':List aV}{s s':St}{k n d:Nat}{es:Nat->List C}{u:ak}
end
def uu{α:Type}{xs vs:List α}{a:Nat}(h:a+vs.length<=xs.length)(p:Nat):(xs.take a++vs++xs.drop (a+vs.length))[p]?=if a<=p/\p<a+vs.length then vs[p-a]? else xs[p]?:=by
 have b:(xs.take a).length=a:=by grind
 grind
def dZ.eU{k n:Nat}{es es':Nat->List C}{xs vs:List ak}{new:List A}(h:dZ k n es xs)(i j:Nat)(hi:i<n)(r:mN vs new)(p:j+new.length<=k)(w:∀ a,a<n->a≠i->es' a=es a)(hl:(es' i).length=k)
  (hn:∀ (q:Nat) (c:C),(es' i)[q]?=aa c->(j<=q/\q<j+new.length/\new[q-j]?=aa (A.c c))∨(¬(j<=q/\q<j+new.length)/\(es i)[q]?=aa c)):dZ k n es' (xs.take (i*k+j)++vs++xs.drop (i*k+j+vs.length)):=by
 have v:i*k+k<=n*k:=by rw[<-k8];exact et _ hi
 have B:=r.1;have z:=h.len;have f:i*k+j+vs.length<=xs.length:=by omega
 refine⟨by grind,λa b=>?_,λa b q c t=>?_⟩
 .by_cases e:a=i
  .grind
  .rw[w a b e];exact h.wid a b
 .rw[uu f]
  by_cases e:a=i
  .subst e;rcases hn q c t with⟨h1,h2,x⟩|⟨h1,h2⟩
   .rw[bc (by omega),show a*k+q-(a*k+j)=q-j by omega]
    exact r.2 _ c x
   .rw[aY (by omega)];exact h.at' a b q c h2
  .have m:(es a)[q]?=aa c:=by grind
   have y:q<k:=by rw[<-h.wid a b];grind
   rw[aY ?_]
   .exact h.at' a b q c m
   .rcases Nat.lt_or_gt_of_ne e with g|l
    .have:a*k+k<=i*k:=by rw[<-k8];exact et _ g
     omega
    .have:i*k+k<=a*k:=by rw[<-k8];exact et _ l
     omega
def dZ.snoc{k n:Nat}{es es':Nat->List C}{xs vs:List ak}(h:dZ k n es xs)(f:∀ i,i<n->es' i=es i)(hl:(es' n).length=k)(l:vs.length=k)(p:∀ (q:Nat)(c:C),(es' n)[q]?=aa c->∃ v,vs[q]?=aa v/\∀ M,Rd M v c):dZ k (n+1) es' (xs++vs):=by
 have j:=h.len;refine⟨by grind,λi hi=>?_,λi hi q c m=>?_⟩
 .by_cases e:i=n
  .grind
  .rw[f i (by omega)];exact h.wid i (by omega)
 .by_cases e:i=n
  .grind
  .have a:i<n:=by omega
   have b:(es i)[q]?=aa c:=by grind
   have g:q<k:=by rw[<-h.wid i a];grind
   have:i*k+k<=n*k:=by rw[<-k8];exact et _ a
   rw[jD (by omega)]
   exact h.at' i a q c b
def zA(T:List (Nat×TI))(φ:Fr):List ResultVar->Option (List D)
 |[]=>aa []
 |.tmp t::r=>match zA T φ r with
  |some q=>aa (look φ t::q)
  |none=>af
 |.cell ad t::r=>match zA T φ r with
  |some q=>match look φ ad with
   |.e (.one (.c (.rp cs)))=>match bE T t with
    |some i=>match mX i (cs.map A.c) with
     |some e=>aa (.e e::q)
     |none=>af
    |none=>af
   |_=>af
  |none=>af
def zB{P:aq}{T:List (Nat×TI)}(Q:db P T){N:Nat}{σ:List aV}{s:St}{φ:Fr}{a:Act}(f:cv N σ s φ a):∀ {rs:List ResultVar}{ds:List D},zA T φ rs=aa ds ->
  ∃ vs,cw σ s vs ds/\∀ w,(∀ b o u,s.M b o=aa u->w.cell? ⟨b,o,af⟩=aa u)->(rs.mapM (fS a)).run P w=Result.ok vs w/\∀ es,∀ e∈(rs.mapM (fS a)).events P w es,e∈es∨∃ b o u,e=⟨.cell ⟨b,o,af⟩,ae,ae⟩/\s.M b o=aa u
 |[],ds,h=>by cases h;exact⟨[],av,λw _=>⟨by simp,λes e l=>.inl (by simpa using l)⟩⟩
 |.tmp t::r,ds,h=>by
  simp only[zA] at h;cases G:zA T φ r with
  |none=>grind
  |some q =>
   simp[G] at h;subst h;obtain⟨vs,h1,Z⟩:=zB Q f G;refine⟨a.tmps.getD t aj::vs,⟨f.slot t,h1⟩,λw p=>?_⟩
   obtain⟨k1,k2⟩:=Z w p;refine⟨by simp only[lz,bX,fS,cW,b8,k1],λes e l=>k2 es e ?_⟩
   simpa[lz,fS,k1] using l
 |.cell ad t::r,ds,h=>by
  simp only[zA] at h;cases G:zA T φ r with
  |none=>grind
  |some q =>
   simp only[G] at h;have hs:=f.slot ad;generalize look φ ad=x at h hs;split at h
   case h_2=>cases h
   rename_i cs
   cases hi:bE T t with
   |none=>grind
   |some i =>
    simp only[hi] at h;cases k:mX i (cs.map A.c) with
    |none=>grind
    |some e0 =>
     simp[k] at h;subst h;obtain⟨vs,h1,Z⟩:=zB Q f G;have L:=fx hs;generalize R:a.tmps.getD ad aj=vx at L;cases L
     rename_i b off g hm Ps
     let y:=(bh cs.length).map g
     have E:dM σ s y (cs.map A.c):=by
      have key:∀ (n:Nat) (ds:List C),(∀ j c,ds[j]?=aa c->Rd s.M (g (n+j)) c)->dM σ s ((bh ds.length).map λj=>g (n+j)) (ds.map A.c):=by
       intro n ds
       induction ds generalizing n with
       |nil=>intro _;trivial
       |cons d ds ih =>
        intro hd;rw[eZ,zg];refine⟨hd 0 d rfl,?_⟩;have:=ih (n+1) (λj c m=>by have:=hd (j+1) c (by grind);grind)
        grind [Function.comp_def]
      have:=key 0 cs (by grind)
      grind
     have O:∀ (j:Nat) (v:ak),y[j]?=aa v->s.M b (off+j)=aa v:=λj v m=>by
      simp only[y,nz] at m
      by_cases z:j<cs.length
      .simp[z] at m;subst m;exact hm j cs[j] (br z)
      grind
     let w0:az:={ s.w with heap:=s.w.heap }
     have J:∃ v,mT σ s v e0/\∀ w,(∀ b o u,s.M b o=aa u->w.cell? ⟨b,o,af⟩=aa u)->(loadVar t ⟨b,off,af⟩).run P w=.ok v w:=by
      have U:=Q t i hi;cases Y:i.agg <;> simp only[mX,Y] at k
      .cases F:fu 0 (cs.map A.c) with
       |none=>grind
       |some a0 =>
        simp[F] at k;subst k;obtain⟨v,hv,V⟩:=E.get (dw F);refine⟨v,V,λw p=>?_⟩
        have:=p _ _ _ (O 0 v hv);simp only[loadVar,bX,U.j9,b8,Y]
        grind [run_load]
      .cases F:og i.size (cs.map A.c) with
       |none=>grind
       |some r0 =>
        simp[F] at k;subst k;obtain⟨q1,q2⟩:=mY F;have B:=E.take i.size;rw[<-q1] at B;have hl:(y.take i.size).length=i.size:=by grind
        refine⟨.agg (y.take i.size).toArray,⟨y.take i.size,rfl,B⟩,λw p=>?_⟩
        have H:=run_loadCells_list (P:=P) w ⟨b,off,af⟩ (y.take i.size) (λj v m=>by
         grind [dg])
        rw[hl] at H;simp only[loadVar,bX,U.j9,b8,Y];simp[U.run_sizeOf,H]
     obtain⟨v,S,W⟩:=J;refine⟨v::vs,⟨S,h1⟩,λw p=>?_⟩
     obtain⟨k1,k2⟩:=Z w p;have I:(fS a (.cell ad t))=loadVar t ⟨b,off,af⟩:=by
      simp[fS,R,asAddr]
     refine⟨by grind [Go.Sem.run_bind,Go.Sem.run_pure,Go.Result.andThen_ok],λes e l=>?_⟩
     rw[lz,I] at l;simp only[aO,W w p,aU,k1,Sem.events_pure] at l;rcases k2 _ e l with l|l
     .rcases Dr l with l|l
      .grind
      .obtain⟨j,m,rfl⟩:=kg (Q t i hi) (w:=w) (n:=cs.length) (λj m=>⟨g j,p _ _ _ (hm j cs[j] (br m))⟩) (by have:=rH k;grind) e l
       exact .inr ⟨b,off+j,g j,rfl,hm j cs[j] (br m)⟩
     grind
theorem Bt.VQ{P:aq}{T:List (Nat×TI)}(g:db P T){fn:Func}{φ:Fr}{ds:List D}{d:D}(h:zA T φ fn.results.toList=aa ds)(hj:rG ds=aa d):Bt P fn φ d:=by
 intro N σ s a f;obtain⟨vs,h1,h2⟩:=zB g f h;refine⟨_,Br hj h1,λw k=>?_⟩
 obtain⟨k1,j⟩:=h2 w k;have e1:(fn.results.mapM (fS a)).run P w=Result.ok vs.toArray w:=by
  grind [Array.mapM_eq_mapM_toList,Sem.run_map,Go.Result.andThen_ok]
 have e2:∀ es,∀ e∈(fn.results.mapM (fS a)).events P w es,e∈es∨∃ b o u,e=⟨.cell ⟨b,o,af⟩,ae,ae⟩/\s.M b o=aa u:=by
  rw[qt];intro es e c;exact j es e (by simpa using c)
 constructor
 .unfold results;rw[bX];refine(dn (λr=>Result.andThen r _) (Eq.trans ?_ e1)).trans ?_
  .congr 2
  .simp
 .intro e c;have i:e∈(fn.results.mapM (fS a)).events P w #[]:=by
   unfold results at c;rw[aO] at c
   change e∈((fn.results.mapM (fS a)).run P w).evThen ((fn.results.mapM (fS a)).events P w #[]) _ at c
   rw[e1] at c;simpa using c
  grind
section
variable {P:aq}{X:Cx P}{N:Nat}{K:List It}{φ:Fr}{σ:List aV}
def Nn(T:List (Nat×TI))(rs:List ResultVar)(ks:List Nat)(φ:Fr)(res:D):Option (List Prop) :=
 match zA T φ rs with
 |some ds=>match rG ds with
  |some d=>match u5 ks.length res with
   |true=>Dh d (jB ks res)
   |false=>af
  |none=>af
 |none=>af
def AK.iQ{T:List (Nat×TI)}(c:db P T){fn:Func}{a:Nat}{res:D}{σ':List aV}(ks:List Nat){ps:List Prop}(h:Nn T fn.results.toList ks φ res=aa ps)(e:ag ps)(d:kI ks σ=aa σ')(b:ld σ'=ab)(hn:eg ks=ab)(f:∀ j,j<a->ks[j]?=aa j) :
  AK X N (Bu P fn a res σ') (.code .ret::K) .normal φ σ:=by
 refine AK.ret ⟨.inl rfl,ks,?_⟩;unfold Nn at h
 grind [Bt.VQ]
def Ev.fY{f:aW}{fn:Func}{c:Code}{args:List D}{σ σ':List aV}{res:D}(d:P.funcs[f]?=aa fn)(a:(fn.name== "runtime.NumGoroutine")=ae)(hb:fn.body=aa c)(b:bo args.length fn.ntmps=ab)
  (h:Fits args σ->AK X fn.ntmps (Bu P fn σ.length res σ') [.code c] .normal (ju 0 args) σ):Ev X f args σ res σ':=by
 refine⟨⟨fn,d,a,by grind⟩,λs vs hr hh=>?_⟩
 have:=cK.Jk (X:=X) (ι:=Unit) (σ':=λ_=>σ') (res:=λ_=>res) d a hb (c7 b) (AW.mono (AK.of_code (h ⟨s,vs,hr,hh⟩)) λ_ _ _ q=>⟨(),q⟩)
 exact this.uv.2 s vs hr hh
def b5.mk{fn:Func}{a:Nat}{res:D}{σ':List aV}(ks:List Nat){ps:List Prop}(h:zC fn.results.toList ks φ res=aa ps)(d:ag ps)(c:kI ks σ=aa σ')(b:ld σ'=ab)(hn:eg ks=ab)(e:∀ j,j<a->ks[j]?=aa j):b5 fn a res σ' .ret φ σ:=by
 refine⟨.inl rfl,ks,?_⟩;unfold zC at h
 grind
end
def GC{P:aq}{ι:Type}{X:Cx P}{S:au->St->Prop}{b:aR}{k:List Item}{cs:List aR}{a:Act}{s:St}{ops:Array aw}{i:Nat}{rest:List Nat}{o:aw}{σ:List aV}{σ1:ι->List aV}{f:aW}{d:List D}{res:ι->D}{vs:List ak}
  (B:b.kind≠.early) (z:ops[i]?=aa o) (E:bj o (yielded ops a.tmps)=ab) (A:aJ σ s) (q:∀ w,(ay a.eval o).run P w=.ok (.enter f vs.toArray) w) (p:∀ w,(ay a.eval o).events P w #[]=#[])
  (t:cK X f d σ res σ1) (m:cw σ s vs d)
  (h:∀ j v s',c8 (σ1 j) s' v (res j)->aJ (σ1 j) s'->cB σ s (σ1 j) s'->fp X S (G (b.aT (a.put o.dst v) (.inRegion ops rest::k)) cs) s') :
  fp X S (G (b.aT a (.inRegion ops (i::rest)::k)) cs) s:=by
 obtain⟨_,g⟩:=t;refine .next rfl λx y=>?_
 have u:=X.ij y;have n:=A.rely u;have e:cw σ x vs d:=m.mono u.stepW.ext A.len;refine⟨_,x,_,oM z E B (q x.w),?_,g _ vs e n S _ λj F v s2 hl mL Fc ot=>?_⟩
 .refine⟨⟨σ,σ,n,n,.refl _ _⟩,eX.seen ?_⟩;rw[p];exact .nil
 refine pL (cs:=cs) (c:=b.aT a (.inRegion ops (i::rest)::k)) Fc hl λC l=>?_
 have r:=j7 (b:=b) (a:=a) (k:=k) ops i rest v;rw[z] at r;simp only[nA] at r;rw[r];exact h j v C (mL.mono l.stepW.ext Fc.len) (Fc.rely l) (u.stepW.trans (ot.trans l.stepW))
def AK.nG{P:aq}{ι:Type}{X:Cx P}{N:Nat}{Qf:Post}{K:List It}{φ:Fr}{σ:List aV}{all rest:List aw}{o:aw}{z:an}{xs:Array an}{B:Array ar}{f:aW}{cap:List C}{d:List D}{σ1:ι->List aV}{res:ι->D}(p:cK X f d σ res σ1)
  (J:o.guard=af) (M:o.op=.call { callee:=.value z,args:=xs,argTypes:=B }) (y:eP (bZ φ z)=aa (f,cap)) {ps:List Prop} (m:xz (xs.toList.map (bZ φ)++fW cap) d=aa ps) (A:ag ps) (T:gw N o.dst=ab)
  (k:∀ j,AK X N Qf (.ops all rest::K) .normal (lA o.dst (res j) φ) (σ1 j)):AK X N Qf (.ops all (o::rest)::K) .normal φ σ:=by
 intro s a g hh b kk cs S idx hb jG hQ;cases idx with
 |nil=>exact jG.elim
 |cons i idx =>
 obtain⟨hi,jG⟩:=jG;have x:=dN g z;unfold eP at y;split at y
 case h_2=>cases y
 case h_1 f' I0 he =>
  cases y;rw[he] at x;have h:=fx x;generalize O:a.eval z=fv at h;cases h with
  |fn fs ma hl Bb f1 f2 h1 h2 r1 r2 =>
   have I:fs=[]:=hX hl;subst I;have n:cw σ s ma (fW cap):=lN (λj c hj=>⟨f2 j,h2 j (by grind),r2 j c hj⟩) Bb
   have r:cw σ s (xs.toList.map a.eval++ma) d:=uV m A ((nH (dN g) xs.toList).append n);obtain⟨fn,u,l,e⟩:=p.1;refine GC hb hi (dq J) hh (λw=>(gL M u l e O w).1) (λw=>(gL M u l e O w).2) p r λj v s' hr k9 st=>?_
   refine k j s' _ ?_ k9 b kk cs S idx hb jG λF H R a3 q U Q L=>hQ F H R a3 q U Q (st.trans L)
   have E:=ik T;cases G:o.dst with
   |none=>exact g.mono st hh.len
   |some t=>exact(g.mono st hh.len).put (E t G) hr
def FV{α:Type}{l:Nat}{x:α}:∀ {ks:List Nat}{a r:List α},kI ks a=aa r->l∉ks->kI ks (a.set l x)=aa r
 |[],a,r,h,_=>h
 |k::ks,a,r,h,c=>by
  simp only[e9,not_or] at c;simp only[kI,eY] at h ⊢;rw[iK c.1];cases d:a[k]? with
  |none=>simp[d] at h
  |some y =>
   simp only[d] at h ⊢;cases b:kI ks a with
   |none=>simp[b] at h
   |some q=>rw[FV b c.2];simp only[b] at h;exact h
def BW{k:Nat}{l:List Nat}(h:fJ k l=ae):k∉l:=λa=>by rw[rD a] at h;cases h
def oR:Option (Tmp×E1)->List ResultVar
 |none=>[]
 |some q=>[.tmp q.1]
def oD(cs:List A):Option (Tmp×E1)->D
 |none=>.e (.agg cs)
 |some q=>.eJ [.agg cs,q.2]
def Kg(T:List (Nat×TI))(fn:Func)(a:Nat)(res:D)(σ':List aV):Post:=λe φ σ1 =>
 (e=.ret∨e=.normal)/\∃ ks l E cs t ty it ps,∃ o:Option (Tmp×E1),(∀ q,o=aa q->look φ q.1=.e q.2)/\fn.results.toList=.cell t ty::oR o/\bE T ty=aa it/\it.agg=ab/\cs.length=it.size/\look φ t=.e (.one (.ptr l 0))/\σ1[l]?=aa (.cells E cs)/\l∉ks /\
  Dh (oD cs o) (jB ks res)=aa ps/\ag ps/\u5 ks.length res=ab/\kI ks σ1=aa σ'/\ld σ'=ab/\eg ks=ab/\(∀ j,j<a->ks[j]?=aa j)
def cK.Rg{P:aq}{ι:Type}{X:Cx P}{T:List (Nat×TI)}(hT:db P T){f:aW}{fn:Func}{c:Code}{args:List D}{σ:List aV}{σ':ι->List aV}{res:ι->D}(hf:P.funcs[f]?=aa fn)(Je:(fn.name== "runtime.NumGoroutine")=ae)(hb:fn.body=aa c)(hlen:args.length<=fn.ntmps)
  (h:∀ s a,cv fn.ntmps σ s (ju 0 args) a->aJ σ s->∀ (b:aR) (k:List Item) (cs:List aR) (S:au->St->Prop),b.kind≠.early->b.roundOf=af ->
  (∀ e H σ1 s' a',(∃ j,Kg T fn σ.length (res j) (σ' j) e H σ1)->cv fn.ntmps σ1 s' H a'->aJ σ1 s'->cB σ s σ1 s'->ends X S b k cs e a' s')->fp X S (G (b.aT a (.code c::k)) cs) s):cK X f args σ res σ':=by
 refine⟨⟨fn,hf,Je,by rw[hb];rfl⟩,λs vs hr hh S cs hS=>?_⟩
 obtain⟨hl,hg⟩:=cw.get hr
 let b:aR:={ fn:=f,tmps:=#[],todo:=[],defers:=[],mode:=.run,kind:=.normal,roundOf:=af }
 have J:Frame.enter P f vs.toArray .normal=b.aT { tmps:=vs.toArray++Array.replicate (fn.ntmps-vs.toArray.size) aj,defers:=[] } [.code c]:=by
  simp[Frame.enter,Frame.aT,hf,hb,b]
 rw[J];refine h s { tmps:=vs.toArray++Array.replicate (fn.ntmps-vs.toArray.size) aj,defers:=[] } ⟨by simp;omega,⟨[],av⟩,λt=>?_⟩ hh b [] cs S (by simp[b]) rfl ?_
 .rw[nP];simp only[gB,cq,me];have:=hg t;rcases cG t vs.length with u4|SU
  .have e:(vs.toArray++Array.replicate (fn.ntmps-vs.toArray.size) aj).getD t aj=(vs[t]?).getD aj:=by
    simp only[dC]
    grind
   rw[e];exact this
  .rw[qX (by omega)]
   trivial
 .rintro e H σ0 s0 a1 ⟨jj,he,ks,l,E,Z1,t,ty,it,ps,o,q0,q1,q2,q3,q4,q5,q6,q7,h3,h4,h5,h6',h7',h8,h9⟩ f0 W Xi;obtain⟨h7,h7n⟩:=yk h7';have A:=f0.slot t;rw[q5] at A;obtain⟨_,L,bb,p,V7,XF⟩:=A;obtain⟨b2,d,TO,Q,Z2,hM⟩:=W.box l _ L q6 p;subst TO;cases V7
  let M':Mem:=λm o=>if m=bb then d[o]? else s0.M m o
  have Z3:∀ o v,d[o]?=aa v->s0.w.cell? ⟨bb,o,af⟩=aa v:=λo v ho=>by simpa[a9,Q] using ho
  have Z:∀ m o v,s0.M m o=aa v->M' m o=aa v:=λm o v hv=>by
   grind
  have Z4:∀ m o v,M' m o=aa v->s0.w.cell? ⟨m,o,af⟩=aa v:=λm o v hv=>by
   by_cases e:m=bb
   .grind
   .simp only[M',e,b9] at hv;exact W.mem m o v hv
  obtain⟨h',F⟩:=W.iO (M':=M') (w':=s0.w) (B':=.dead) (L':=⟨.pointer (aa ⟨bb,0,af⟩),[]⟩) q6 p rfl (bg _) (λ_ _ _=>rfl) (λm _ U o=>by
   grind) Z Z4 (by simp) rfl rfl rfl av
  have V3:eQ s0 ⟨s0.β.set l ⟨.pointer (aa ⟨bb,0,af⟩),[]⟩,M',s0.w,s0.own⟩:=⟨rfl,Z,λm U o=>by
   have:m≠bb:=by rintro rfl;exact U _ (bT p) (by simp)
   simp only[M',this,b9],Z4,λm U=>by
   grind⟩
  have f':cv fn.ntmps (σ0.set l .dead) ⟨s0.β.set l ⟨.pointer (aa ⟨bb,0,af⟩),[]⟩,M',s0.w,s0.own⟩ H a1:=⟨f0.size,f0.defers.imp λ_ h1=>h1.mono F.ext,λu=>(f0.slot u).mono F.ext W.len⟩
  have h6:=FV (x:=aV.dead) h6' q7;have XG:dM (σ0.set l .dead) ⟨s0.β.set l ⟨.pointer (aa ⟨bb,0,af⟩),[]⟩,M',s0.w,s0.own⟩ d Z1:=Z2.mono F.ext W.len;have st:=Xi.trans (F.ox W)
  let V:ak:=match o with|none=>.agg d.toArray|some q=>.tuple #[.agg d.toArray,a1.tmps.getD q.1 aj]
  have K:∀ w,(∀ b o u,M' b o=aa u->w.cell? ⟨b,o,af⟩=aa u)->(results fn a1.tmps).run P w=.ok V w/\∀ e∈(results fn a1.tmps).events P w #[],∃ b o u,e=⟨.cell ⟨b,o,af⟩,ae,ae⟩/\M' b o=aa u:=by
   intro w hw;have R:=hT ty it q2;have Z5:d.length=it.size:=by rw[Z2.length,q4]
   have SV:∀ j v,d[j]?=aa v->w.cell? ⟨bb,0+j,af⟩=aa v:=λj v hj=>hw _ _ _ (by grind)
   have VV:=run_loadCells_list (P:=P) w ⟨bb,0,af⟩ d (λj v hj=>by rw[dg];exact SV j v hj)
   rw[Z5] at VV;have GG:(loadVar ty ⟨bb,0,af⟩).run P w=.ok (.agg d.toArray) w:=by
    simp only[loadVar,bX,R.j9,b8,q3];simp[R.run_sizeOf,VV]
   have Z6:fn.results=(ResultVar.cell t ty::oR o).toArray:=by apply Array.ext';simpa using q1
   have N:asAddr (a1.tmps[t]?.getD aj)=(pure ⟨bb,0,af⟩:Sem Addr):=by rw[<-dC,XF];rfl
   refine⟨by cases o <;> simp[results,Z6,N,GG,V,oR],λe he=>?_⟩
   have Qx:e∈(loadVar ty ⟨bb,0,af⟩).events P w #[]:=by
    cases o <;> simpa[results,Z6,N,GG,oR] using he
   obtain⟨j,hj,rfl⟩:=kg R (w:=w) (n:=d.length) (λj hj=>⟨_,SV j d[j] (br hj)⟩) (by rw[q3,Z5];simp) e Qx
   exact⟨bb,0+j,d[j],rfl,by grind⟩
  have fin:∀ (fr:aR) s2,cg (⟨s0.β.set l ⟨.pointer (aa ⟨bb,0,af⟩),[]⟩,M',s0.w,s0.own⟩:St) s2->fr.fn=f->fr.tmps=a1.tmps->fr.defers=a1.defers->fr.mode=.returning->fr.kind=.normal->fp X S (G fr cs) s2:=by
   intro fr s2 sG e1 e2 e3 e4 e5;have f2:=f'.rely sG h';have r:=h'.rely sG;have g:=st.trans sG.stepW;have r2:c8 (σ0.set l .dead) s2 V (oD Z1 o):=by
    have SR:=XG.mono sG.stepW.ext h'.len;cases o with
    |none=>exact⟨d,rfl,SR⟩
    |some q =>
     have hx:=f2.slot q.1;rw[q0 q rfl] at hx;exact⟨[.agg d.toArray,a1.tmps.getD q.1 aj],rfl,⟨d,rfl,SR⟩,hx,av⟩
   obtain⟨i,I⟩:=zv (l':=s2.β) h6 r.len;have r4:=(qy h3 h4 r2).sub h6 I h5;obtain⟨c1,c2⟩:=iA h6;obtain⟨d1,d2⟩:=iA I;have O:∀ L∈i,L∈s2.β:=zz I;have Y:aJ (σ' jj) { s2 with β:=i }:=by
    obtain⟨g1,_⟩:=r.sub h6 I h7 h8;refine⟨g1.mem,g1.len,λj B L hB p=>?_,g1.gd,g1.lt,λb hb=>⟨(r.own b hb).1,λL p=>(r.own b hb).2 L (O L p)⟩⟩
    exact eO.plain (σ:=σ' jj) (s:={ s2 with β:=i,own:=zy s2 i }) (s':={ s2 with β:=i }) rfl rfl (kJ h7 B (bT hB)) (g1.box j B L hB p)
   have Rf:cB σ s (σ' jj) { s2 with β:=i }:=by
    refine⟨g.size,g.eL,g.mem,g.jA,λL p b hb=>g.xx _ (O L p) b hb,λl B L hB p=>?_,g.os,g.tape,g.output,g.own⟩
    have hl:l<σ.length:=(cp.1 hB).1;obtain⟨B',L',p1,p2,p3⟩:=g.box l B L hB p
    grind
   obtain⟨ls,V8⟩:=f2.defers;refine qB ls fr s2 _ r.lC (by grind) e4 (by rw[e3];exact V8.taken r) λs3 z=>?_
   have C:cg { s2 with β:=i } { s3 with β:=i }:=by
    refine⟨rfl,z.M,z.own,z.size,λb hb=>z.eL b (hb.imp id ?_),z.mem,z.os,z.tape,z.output⟩
    rintro⟨L,p,hb⟩;obtain⟨j,hj,rfl⟩:=dT p;have Z7:j<ks.length:=by rw[<-d1];exact hj
    obtain⟨y,y1,y2⟩:=d2 j _ (br Z7);obtain⟨x,x1,x2⟩:=c2 j _ (br Z7);rw[br hj] at y1;cases y1;refine⟨_,_,y2,λhc=>?_,hb⟩
    rw[V8.BN _ hc] at x2;cases x2;exact mZ h7n _ (bT x1) rfl
   have hG:eQ s3 { s3 with β:=i }:=⟨rfl,λ_ _ _ h=>h,λ_ _ _=>rfl,λb o v hv=>z.mem b o v (by rw[<-z.M];exact hv),λb hb=>hb.imp id λ⟨L,p,hb⟩=>⟨L,by rw[z.β];exact O L p,hb⟩⟩
   have XH:s2.M=M':=sG.M;refine .ghost hG (hS jj _ V _ ⟨e1,e4,rfl,e5,fn,by grind,λw hw=>?_⟩ (r4.mono C.stepW.ext Y.len) (Y.rely C) (Rf.trans C.stepW))
   show (results fn fr.tmps).run P w=_/\∀ e∈(results fn fr.tmps).events P w #[],_;rw[e2];have Z8:∀ b o u,M' b o=aa u->w.cell? ⟨b,o,af⟩=aa u:=λb o u h=>hw b o u (by show s3.M b o=aa u;rw[z.M,XH];exact h)
   refine⟨(K w Z8).1,λe he=>?_⟩
   obtain⟨b,o,u,q1,q2⟩:=(K w Z8).2 e he;exact⟨b,o,u,q1,by show s3.M b o=aa u;rw[z.M,XH];exact q2⟩
  rcases he with rfl|rfl
  .intro pre;exact .ghost V3 (.ctl h' rfl (λ_=>Ds rfl) λs2 sG=>fin _ s2 sG rfl rfl (k6 _) rfl rfl)
  .exact .ghost V3 (.ctl h' rfl (λ_=>Dt rfl) λs2 sG=>fin _ s2 sG rfl rfl (k6 _) rfl rfl)
def cK.fY{P:aq}{ι:Type}{X:Cx P}{T:List (Nat×TI)}(m:db P T){f:aW}{fn:Func}{c:Code}{args:List D}{σ:List aV}{σ':ι->List aV}{res:ι->D}(i:P.funcs[f]?=aa fn)(d:(fn.name== "runtime.NumGoroutine")=ae)(hb:fn.body=aa c)(g:bo args.length fn.ntmps=ab)
  (h:Fits args σ->AK X fn.ntmps (λe φ σ1=>∃ j,Kg T fn σ.length (res j) (σ' j) e φ σ1) [.code c] .normal (ju 0 args) σ):cK X f args σ res σ':=by
 refine⟨⟨fn,i,d,by rw[hb];rfl⟩,λs0 vs hr Qv=>?_⟩
 have:=cK.Rg (X:=X) (σ':=σ') (res:=res) m i d hb (c7 g) λs a f hh b k cs S n _ l=>(show AW X fn.ntmps c _ (ju 0 args) σ from AK.of_code (h ⟨s0,vs,hr,Qv⟩)) s a f hh b k cs S n l
 exact this.2 s0 vs hr Qv
def dM.set{σ:List aV}{s:St}{a:A}{v:ak}:∀ {vs:List ak}{cs:List A}{j:Nat},dM σ s vs cs->vs[j]?=aa v->gv σ s v a->dM σ s vs (cs.set j a)
 |[],[],_,_,h,_=>by simp at h
 |[],_::_,_,h,_,_=>h.elim
 |_::_,[],_,h,_,_=>h.elim
 |u::vs,c::cs,0,h,b,d=>by
  simp at b;subst b;exact⟨d,h.2⟩
 |u::vs,c::cs,j+1,h,b,d=>⟨h.1,dM.set h.2 (by simpa using b) d⟩
section
variable {P:aq}{X:Cx P}{N:Nat}{Qf:Post}{K:List It}{φ:Fr}{σ:List aV}{c:Code}
def AK.gj(l j:Nat)(E k:Nat)(es':Nat->List C){E0:ar}{cs:List A}{k':Nat}{r:Nat->List C}(hl:fu l σ=aa (.cells E0 cs))(hj:fu j cs=aa (.c (.sl ab k' 0 r)))
  (kk:AK X N Qf (.code c::K) .normal φ ((σ++[aV.vec E k 0 es']).set l (.cells E0 (cs.set j (.vec σ.length k 0 es'))))):AK X N Qf (.code c::K) .normal φ σ:=by
 refine AK.ghost (λs a q hh=>?_) kk
 have G:=dw hl;have I:=dw hj;have m:l<σ.length:=(cp.1 G).1;have f:l<s.β.length:=by rw[hh.len];exact m
 have F:=br f;generalize s.β[l]=L at F;obtain⟨b,vs,y,d,n,J⟩:=hh.box l _ L G F;obtain⟨v,Q,R⟩:=n.get I;have h1:Rd s.M v (.sl ab k 0 es'):=(Rd.uU (k:=k') (k':=k) (.inr rfl) R).Dp λi hi=>by omega
 have z:eO (σ++[aV.vec E k 0 es']) { s with β:=s.β++[⟨v,[]⟩] } (.vec E k 0 es') ⟨v,[]⟩:=⟨h1.loose,.inl ⟨⟨rfl,rfl⟩,h1⟩⟩;obtain⟨H,g2⟩:=hh.gR (.refl _ _) rfl hh z (by simp)
 have t:(σ++[aV.vec E k 0 es'])[l]?=aa (.cells E0 cs):=by grind
 have D:(s.β++[(⟨v,[]⟩:Loc)])[l]?=aa L:=by grind
 have g:(s.β++[(⟨v,[]⟩:Loc)]).set l L=s.β++[⟨v,[]⟩]:=by
  apply iL
  grind
 have x:ig (.cells E0 cs) L (.cells E0 (cs.set j (.vec σ.length k 0 es'))) L:=rfl;have S:σ.length≠l:=by omega
 have p:eO ((σ++[aV.vec E k 0 es']).set l (.cells E0 (cs.set j (.vec σ.length k 0 es')))) ⟨(s.β++[(⟨v,[]⟩:Loc)]).set l L,s.M,s.w,s.own⟩ (.cells E0 (cs.set j (.vec σ.length k 0 es'))) L:=by
  rw[g];refine⟨b,vs,y,d,?_,J⟩;have ex:Ext (σ++[aV.vec E k 0 es']) { s with β:=s.β++[⟨v,[]⟩] } ((σ++[aV.vec E k 0 es']).set l (.cells E0 (cs.set j (.vec σ.length k 0 es')))) { s with β:=s.β++[⟨v,[]⟩] }:=by
   refine⟨λ_ _ _ h=>h,λi B L' od gu=>?_⟩
   by_cases e:l=i
   .grind
   .exact⟨B,L',by rw[iK e];exact od,gu,.refl _ _⟩
  have o:dM (σ++[aV.vec E k 0 es']) { s with β:=s.β++[⟨v,[]⟩] } vs cs:=n.mono g2.ext hh.len;refine dM.set (o.mono ex H.len) Q ?_;refine⟨h1.loose,by simp,λE2 k2 n2 M8 h=>?_⟩
  rw[iK (by omega),gh (by omega),rm] at h
  cases h;refine⟨bg _,λ_=>⟨⟨v,[]⟩,?_,rfl⟩⟩
  simp[<-hh.len]
 obtain⟨O,T⟩:=H.iO (M':=s.M) (w':=s.w) (L':=L) t D x (bg _) (λ_ _ _=>rfl) (λ_ _ _ _=>rfl) (λ_ _ _ h=>h) hh.mem (λb hb=>⟨.inl hb,hh.lt L (bT F) b hb⟩) rfl rfl rfl p
 have st:=g2.trans T;exact⟨⟨(s.β++[(⟨v,[]⟩:Loc)]).set l L,s.M,s.w,s.own⟩,rfl,⟨q.size,q.defers.imp λ_ h1=>h1.mono st.ext,λu=>(q.slot u).mono st.ext hh.len⟩,O,st⟩
end
section
variable {P:aq}{X:Cx P}{N:Nat}{Qf:Post}{K:List It}{φ:Fr}{σ:List aV}{c:Code}
def AK.Rn(t:Nat)(E k:Nat)(es':Nat->List C){k':Nat}{d:Nat->List C}(h:look φ t=.e (.one (.c (.sl ab k' 0 d))))
  (kk:AK X N Qf (.code c::K) .normal ((t,.e (.one (.bp σ.length (.sl 0 k 0 0))))::φ) (σ++[.buf E k 0 es'])):AK X N Qf (.code c::K) .normal φ σ:=by
 refine AK.ghost (λs a b hh=>?_) kk
 have f:=b.slot t;rw[h] at f;obtain⟨g,g2⟩:=hh.gR (B:=.buf E k 0 es') (L:=⟨.slice af 0 0,[]⟩) (.refl _ _) rfl hh (.inl ⟨rfl,rfl⟩) (by simp)
 refine⟨{ s with β:=s.β++[⟨.slice af 0 0,[]⟩] },rfl,⟨b.size,b.defers.imp λ_ h1=>h1.mono g2.ext,λu=>?_⟩,g,g2⟩
 simp only[look];cases hb:aG t u with
 |false=>exact(b.slot u).mono g2.ext hh.len
 |true =>
  have e:=bU hb;subst e;exact uW (E:=E) (es:=es') (fx f) (by simp) (by simp[<-hh.len])
def AK.nc(l j:Nat)(E k:Nat)(es':Nat->List C){E0:ar}{cs:List A}{k':Nat}{t:Nat->List C}(hl:fu l σ=aa (.cells E0 cs))(hj:fu j cs=aa (.c (.sl ab k' 0 t)))
  (kk:AK X N Qf (.code c::K) .normal φ ((σ++[aV.buf E k 0 es']).set l (.cells E0 (cs.set j (.bp σ.length (.sl 0 k 0 0)))))):AK X N Qf (.code c::K) .normal φ σ:=by
 refine AK.ghost (λs a r hh=>?_) kk
 have H:=dw hl;have O:=dw hj;have I:l<σ.length:=(cp.1 H).1;have g:l<s.β.length:=by rw[hh.len];grind
 have G:=br g;generalize s.β[l]=L at G;obtain⟨b,vs,z,f,o,R⟩:=hh.box l _ L H G;obtain⟨v,T,U⟩:=o.get O
 let d:Loc:=⟨.slice af 0 0,[]⟩
 obtain⟨J,g2⟩:=hh.gR (B:=.buf E k 0 es') (L:=d) (.refl _ _) rfl hh (.inl ⟨rfl,rfl⟩) (by grind)
 have x:(σ++[aV.buf E k 0 es'])[l]?=aa (.cells E0 cs):=by grind
 have D:(s.β++[d])[l]?=aa L:=by grind
 have m:(s.β++[d]).set l L=s.β++[d]:=by
  apply iL
  grind
 have y:ig (.cells E0 cs) L (.cells E0 (cs.set j (.bp σ.length (.sl 0 k 0 0)))) L:=rfl;have q:eO ((σ++[aV.buf E k 0 es']).set l (.cells E0 (cs.set j (.bp σ.length (.sl 0 k 0 0))))) ⟨(s.β++[d]).set l L,s.M,s.w,s.own⟩ (.cells E0 (cs.set j (.bp σ.length (.sl 0 k 0 0)))) L:=by
  rw[m];refine⟨b,vs,z,f,?_,R⟩;have ex:Ext (σ++[aV.buf E k 0 es']) { s with β:=s.β++[d] } ((σ++[aV.buf E k 0 es']).set l (.cells E0 (cs.set j (.bp σ.length (.sl 0 k 0 0))))) { s with β:=s.β++[d] }:=by
   refine⟨λ_ _ _ h=>h,λi B L Q F=>?_⟩
   by_cases e:l=i
   .grind
   .exact⟨B,L,by grind,F,.refl _ _⟩
  have p:dM (σ++[aV.buf E k 0 es']) { s with β:=s.β++[d] } vs cs:=o.mono g2.ext hh.len;exact dM.set (p.mono ex J.len) T (uW (E:=E) (es:=es') U (by grind) (by simp[<-hh.len,d]))
 obtain⟨S,V⟩:=J.iO (M':=s.M) (w':=s.w) (L':=L) x D y (bg _) (λ_ _ _=>rfl) (λ_ _ _ _=>rfl) (λ_ _ _ h=>h) hh.mem (λb hb=>⟨.inl hb,hh.lt L (bT G) b hb⟩) rfl rfl rfl q
 have st:=g2.trans V;exact⟨⟨(s.β++[d]).set l L,s.M,s.w,s.own⟩,rfl,⟨r.size,r.defers.imp λ_ h1=>h1.mono st.ext,λu=>(r.slot u).mono st.ext hh.len⟩,S,st⟩
end
def uw:Nat->(Nat->List C)->Nat->List C
 |0,es=>es
 |o+1,es=>jK (o+1) es
def u7(o:Nat)(es:Nat->List C)(i:Nat):uw o es i=es (o+i):=by cases o <;> simp[uw,jK]
def Ac(l k n:Nat)(es:Nat->List C)(a:A):Option (A×List Prop):=match GN l a with
 |true=>aa (a,[])
 |false=>match a with
  |.bp l' (.sl g k' o m)=>match aG l' l,aG k' k with
   |true,ab=>aa (.c (.sl ae k m (uw o es)),[g=n,o+m<=n])
   |_,_=>af
  |_=>af
def Ad(l k n:Nat)(es:Nat->List C):List A->Option (List A×List Prop)
 |[]=>aa ([],[])
 |a::r=>match Ac l k n es a with
  |some (a',p)=>match Ad l k n es r with
   |some (r',q)=>aa (a'::r',kl p q)
   |none=>af
  |none=>af
def wx(l k n:Nat)(es:Nat->List C):E1->Option (E1×List Prop)
 |.one a=>match Ac l k n es a with|some (a,p)=>aa (.one a,p)|none=>af
 |.agg cs=>match Ad l k n es cs with|some (cs,p)=>aa (.agg cs,p)|none=>af
def ve(l k n:Nat)(es:Nat->List C):List E1->Option (List E1×List Prop)
 |[]=>aa ([],[])
 |a::r=>match wx l k n es a with
  |some (a',p)=>match ve l k n es r with
   |some (r',q)=>aa (a'::r',kl p q)
   |none=>af
  |none=>af
def wy(l k n:Nat)(es:Nat->List C):D->Option (D×List Prop)
 |.e x=>match wx l k n es x with|some (x,p)=>aa (.e x,p)|none=>af
 |.eJ xs=>match ve l k n es xs with|some (xs,p)=>aa (.eJ xs,p)|none=>af
 |.any=>aa (.any,[])
section
variable {σ1:List aV}{s s2:St}{E k n:Nat}{es:Nat->List C}
structure l0 (σ1:List aV)(E k n:Nat)(es:Nat->List C)(s s2:St):Prop where
 eL:∀ v a,gv (σ1++[.buf E k n es]) s v a->GN σ1.length a=ab->gv σ1 s2 v a
 Jm:∀ v k' o m,gv (σ1++[.buf E k n es]) s v (.bp σ1.length (.sl n k' o m))->k'=k->o+m<=n->Rd s2.M v (.sl ae k m (uw o es))
def l0.a(h:l0 σ1 E k n es s s2){v:ak}{a a':A}{ps:List Prop}(b:Ac σ1.length k n es a=aa (a',ps))(e:ag ps)(r:gv (σ1++[.buf E k n es]) s v a):gv σ1 s2 v a':=by
 unfold Ac at b;split at b
 .rename_i d;cases b;exact h.eL v a r d
 .split at b
  .rename_i l' g k' o m _
   split at b
   .rename_i e1 e2
    cases b;have e1:=bU e1;have e2:=bU e2;subst e1 e2;obtain⟨rfl,h2⟩:g=n/\o+m<=n:=e;exact h.Jm v _ _ _ r rfl h2
   grind
  grind
def l0.l(h:l0 σ1 E k n es s s2):∀ {vs:List ak}{cs ma:List A}{ps:List Prop},Ad σ1.length k n es cs=aa (ma,ps)->ag ps->dM (σ1++[.buf E k n es]) s vs cs->dM σ1 s2 vs ma
 |[],[],_,_,b,_,_=>by cases b;trivial
 |[],_::_,_,_,_,_,r=>r.elim
 |_::_,[],_,_,_,_,r=>r.elim
 |v::vs,c::cs,ma,ps,b,d,r=>by
  simp only[Ad] at b;split at b
  .rename_i a' p h1
   split at b
   .rename_i r' q h2
    cases b;rw[ag.cat] at d;exact⟨h.a h1 d.1 r.1,h.l h2 d.2 r.2⟩
   grind
  grind
def l0.e(h:l0 σ1 E k n es s s2){v:ak}{x f:E1}{ps:List Prop}(b:wx σ1.length k n es x=aa (f,ps))(d:ag ps)(r:mT (σ1++[.buf E k n es]) s v x):mT σ1 s2 v f:=by
 cases x with
 |one a =>
  simp only[wx] at b;split at b
  .rename_i a' p h1;cases b;exact h.a h1 d r
  grind
 |agg cs =>
  simp only[wx] at b;split at b
  .rename_i a' p h1;cases b
   obtain⟨vs,g,i⟩:=r;exact⟨vs,g,h.l h1 d i⟩
  grind
def l0.es'(h:l0 σ1 E k n es s s2):∀ {vs:List ak}{cs ma:List E1}{ps:List Prop},ve σ1.length k n es cs=aa (ma,ps)->ag ps->gI (σ1++[.buf E k n es]) s vs cs->gI σ1 s2 vs ma
 |[],[],_,_,a,_,_=>by cases a;trivial
 |[],_::_,_,_,_,_,r=>r.elim
 |_::_,[],_,_,_,_,r=>r.elim
 |v::vs,c::cs,ma,ps,a,b,r=>by
  simp only[ve] at a;split at a
  .rename_i a' p h1
   split at a
   .rename_i r' q h2
    cases a;rw[ag.cat] at b;exact⟨h.e h1 b.1 r.1,h.es' h2 b.2 r.2⟩
   grind
  grind
def l0.d(h:l0 σ1 E k n es s s2){v:ak}{x f:D}{ps:List Prop}(a:wy σ1.length k n es x=aa (f,ps))(b:ag ps)(r:c8 (σ1++[.buf E k n es]) s v x):c8 σ1 s2 v f:=by
 cases x with
 |e x =>
  simp only[wy] at a;split at a
  .rename_i a' p h1;cases a;exact h.e h1 b r
  grind
 |eJ xs =>
  simp only[wy] at a;split at a
  .rename_i a' p h1;cases a
   obtain⟨vs,g,i⟩:=r;exact⟨vs,g,h.es' h1 b i⟩
  grind
 |any=>cases a;trivial
def aJ.Jm(hh:aJ (σ1++[.buf E k n es]) s)(B:rI σ1.length σ1=ab) :
  ∃ s2:St,aJ σ1 s2/\eQ s s2/\l0 σ1 E k n es s s2/\∀ {σ0:List aV} {s0:St},cB σ0 s0 (σ1++[.buf E k n es]) s->σ0.length<=σ1.length->cB σ0 s0 σ1 s2:=by
 have D:(σ1++[aV.buf E k n es])[σ1.length]?=aa (.buf E k n es):=by simp
 have J:s.β.length=σ1.length+1:=by rw[hh.len];simp
 have z:s.β[σ1.length]?=aa s.β[σ1.length]:=br (by omega)
 generalize s.β[σ1.length]=L at z;have A:=hh.box _ _ L D z;obtain⟨M',Q,S,O,U⟩:∃ M':Mem,(∀ b o v,s.M b o=aa v->M' b o=aa v)/\(∀ b,b∉L.bs->∀ o,M' b o=s.M b o)/\(∀ b o v,M' b o=aa v->s.w.cell? ⟨b,o,af⟩=aa v) /\
   (∀ v k' o m,gv (σ1++[.buf E k n es]) s v (.bp σ1.length (.sl n k' o m))->k'=k->o+m<=n->Rd M' v (.sl ae k m (uw o es))):=by
  rcases A with⟨rfl,rfl⟩|⟨b,W,vs,zs,rfl,hw,Y,V,I2,R,hM⟩
  .refine⟨s.M,λ_ _ _ h=>h,λ_ _ _=>rfl,hh.mem,λv k' o m r e g=>?_⟩
   obtain⟨lv,⟨a,a0,cap,W,l,h1,h2,Z,q,h4⟩,_,H⟩:=r
   grind [Rd.jI]
  .let M':Mem:=λd o=>if d=b then vs[o]? else s.M d o
   have G:∀ d o v,s.M d o=aa v->M' d o=aa v:=λd o v l=>by
    grind
   refine⟨M',G,λd oG o=>?_,λd o v l=>?_,λv k' o m r e g=>?_⟩
   .grind
   .by_cases e:d=b
    .subst e;simp only[M',cq] at l;simp only[a9,hw]
     grind
    .simp only[M',e,b9] at l;exact hh.mem d o v l
   .subst e;obtain⟨lv,⟨a,a0,cap,c1,l,h1,h2,Z,q,h4⟩,_,H⟩:=r;obtain⟨L',f,y⟩:=(H _ _ _ _ D).2 rfl;rw[z] at f;cases f;rw[q] at y;cases y;rw[l];have t:∀ i,i<m->∀ j c,(uw o es i)[j]?=aa c->∃ u,vs[(o+i)*k'+j]?=aa u/\Rd s.M u c:=λi hi j c hj=>by
     rw[u7] at hj;exact R.rd (o+i) (by omega) j c hj
    refine .sl b (o*k') (λi j=>(vs[(o+i)*k'+j]?).getD aj) h1 (by omega) (by simp) (λi hi=>by rw[u7];exact R.width _ (by omega)) (λhm=>?_) (λi hi j c hj=>?_) (λi hi j c hj=>?_)
    .grind
    .grind
    .obtain⟨u,u1,T⟩:=t i hi j c hj;rw[u1];exact T.mono G
 have p:(σ1++[aV.buf E k n es]).set σ1.length .dead=σ1++[.dead]:=by simp
 obtain⟨I,F⟩:=hh.iO (M':=M') (w':=s.w) (B':=.dead) (L':=⟨L.v,[]⟩) D z av (bg _) (λ_ _ _=>rfl) (λb _ hb o=>S b hb o) Q O (by simp) rfl rfl rfl av
 rw[p] at I F;have q3:=I.drop (rest:=[.dead]) B;refine⟨_,q3,⟨rfl,Q,λb hb o=>S b (hb L (bT z)) o,O,λb hb=>?_⟩,⟨λv a r x=>?_,λv k' o m r e g=>U v k' o m r e g⟩,λ{σ0 s0} st hle=>(st.trans (F.ox hh)).drop (rest:=[.dead]) hle⟩
 .rcases hb with hb|⟨L',f,hb⟩
  .exact .inl hb
  .have:=iJ f
   grind
 .exact(r.mono F.ext hh.len).drop (rest:=[.dead]) x
end
def cK.iY{P:aq}{ι:Type}{X:Cx P}{f:aW}{args:List D}{σ:List aV}{res res':ι->D}{σ1:ι->List aV}{E k:Nat}{n:ι->Nat}{es:ι->Nat->List C}(h:cK X f args σ res (λi=>σ1 i++[.buf E k (n i) (es i)]))
  {ps:ι->List Prop} (e:∀ i,wy (σ1 i).length k (n i) (es i) (res i)=aa (res' i,ps i)) (g:∀ i,ag (ps i)) (b:∀ i,rI (σ1 i).length (σ1 i)=ab) (a:∀ i,σ.length<=(σ1 i).length):cK X f args σ res' σ1:=by
 refine⟨h.1,λs vs hr hh S cs hS=>h.2 s vs hr hh S cs λi fr v s' hl mL k9 st=>?_⟩
 obtain⟨s2,c1,c2,c3,c4⟩:=k9.Jm (b i);exact .ghost c2 (hS i fr v s2 (hl.mono c2.mem) (c3.d (e i) (g i) mL) c1 (c4 st (a i)))
def Ev.iY{P:aq}{X:Cx P}{f:aW}{args:List D}{σ:List aV}{res res':D}{σ1:List aV}{E k n:Nat}{es:Nat->List C}(h:Ev X f args σ res (σ1++[.buf E k n es]))
  {ps:List Prop} (d:wy σ1.length k n es res=aa (res',ps)) (e:ag ps) (b:rI σ1.length σ1=ab) (a:σ.length<=σ1.length):Ev X f args σ res' σ1 :=
 (cK.iY (ι:=Unit) h.Bc (λ_=>d) (λ_=>e) (λ_=>b) (λ_=>a)).uv
section
variable {P:aq}{T:List (Nat×TI)}{o:aw}{d:an->D}{σ:List aV}
def zD{x:an}{t:ar}(h:o.op=.call { callee:=.builtin .clear,args:=#[x],argTypes:=#[t] })(ρ:an->ak) :
  ay ρ o=(do pure (.value (<-Builtin.clear_ #[t] o.type #[ρ x]))):=by
 simp[ay,h,resolve,invoke,builtin]
def Jl{M:Mem}{z:ak}{f:List C}{m k:Nat}(p:z.cells.toList.map qg=f.map aa)(q:f.length=k):Flat M k m (λ_=>f) (Builtin.zeroCells z.cells m).toList:=by
 have b:z.cells.size=k:=by have:=dn List.length p;simp at this;omega
 have n:dM [] ⟨[],M,default,λ_=>False⟩ z.cells.toList (f.map A.c):=kH p
 refine⟨by simp[Builtin.zeroCells,b],λ_ _=>q,λi hi j c t=>?_⟩
 have u:j<k:=by grind
 obtain⟨v,v1,r⟩:=n.get (j:=j) (a:=A.c c) (by rw[nz,t];rfl)
 refine⟨v,?_,r⟩;have g:i*k+j<m*k:=by
  have:i*k+k<=m*k:=by rw[<-k8];exact et k hi
  omega
 have e:(i*k+j) % k=j:=by grind [Nat.add_comm,Nat.add_mul_mod_self_right,Nat.mod_eq_of_lt]
 have h:j<z.cells.size:=by omega
 have s:z.cells[j]=v:=by
  grind
 have l:z.cells[j]! = v:=by rw[getElem!_pos z.cells j h,s]
 simp[Builtin.zeroCells,b,g,e,l]
def bF.DI(Z:db P T){x:an}{t:ar}(h:o.op=.call { callee:=.builtin .clear,args:=#[x],argTypes:=#[t] }){i c:TI}{E:ar}(hi:bE T t=aa i)(hd:i.desc=.slice E)(hE:bE T E=aa c)
  {l n q m:Nat} {J:ar} {es:Nat->List C} (hx:d x=.e (.one (.bp l (.sl n c.size q m)))) (hl:σ[l]?=aa (.buf J c.size n es)) (F:q+m<=n) :
  bF P o d σ .any (σ.set l (.buf J c.size n (oQ q (q+m) c.zero es))):=by
 intro s ρ hh hr;have h1:=hr x;rw[hx] at h1
 change gv σ s (ρ x) (.bp l _) at h1
 obtain⟨lv,⟨a,a0,cap,c0,hv,VR,SP,Wm,U,W⟩,_,S⟩:=h1;obtain⟨L,X,A⟩:=(S _ _ _ _ hl).2 rfl;rw[U] at A;have f:=(Z t i hi).SW;rw[hd] at f;rw[zD h,hv]
 by_cases hm:m=0
 .subst hm;have hz:oQ q (q+0) c.zero es=es:=by
   funext j
   simp only[oQ];rw[aY (by omega)]
  have hs:σ.set l (.buf J c.size n es)=σ:=by
   apply iL
   grind
  rw[hz,hs];refine⟨.value (.tuple #[]),s,?_,av,hh,.refl _ _,?_⟩
  .cases a <;> simp[Builtin.clear_,run_underlying f]
  .intro Q p;cases a <;> simp[Builtin.clear_,run_underlying f,aO] at p
 .obtain⟨b,rfl,rfl⟩:=W (by omega)
  rcases hh.box l _ L hl X with⟨_,rfl⟩|⟨b',c1,vs,B,rfl,g,O,R,V,hF,hM⟩
  .cases A
  .cases A;obtain⟨inf,z,z1,z2,z3,z4,z5,z6,z7⟩:=(Z E c hE).info;have r:=Jl (M:=s.M) (m:=m) z5 z7;have hlen:(Builtin.zeroCells z.cells m).toList.length=m*c.size:=r.len;have Po:=hF.len;have hb:q*c.size+m*c.size<=n*c.size:=by rw[<-gQ];exact et _ F
   have q2:=hF.Tg r F;have he:(λi=>if q<=i/\i<q+m then (λ_=>c.zero) (i-q) else es i)=oQ q (q+m) c.zero es:=rfl
   rw[he] at q2;obtain⟨t1,t2⟩:=hh.ef hl X O R V g q2 (by grind) hM
   have k:∀ v∈(Builtin.zeroCells z.cells m).toList,v.oneCell'=ab:=r.cell;have y:=run_storeCells_at P b (q*c.size) J (Builtin.zeroCells z.cells m).toList 0 (vs++B).toArray s.w g (by grind) k
   have I:((vs++B).toArray.toList.take (q*c.size+0)++(Builtin.zeroCells z.cells m).toList++(vs++B).toArray.toList.drop (q*c.size+0+(Builtin.zeroCells z.cells m).toList.length))=vs.take (q*c.size)++(Builtin.zeroCells z.cells m).toList++vs.drop (q*c.size+(Builtin.zeroCells z.cells m).toList.length)++B:=by
    grind
   rw[I] at y;have G:∀ u,(zeroValue E).run P u=.ok z u:=λu=>by simp[zeroValue,typeInfo,z1,z4]
   have Y:∀ u es,(zeroValue E).events P u es=es:=λu es=>by simp[zeroValue,typeInfo,z1,z4,aO]
   obtain⟨K,rfl⟩:∃ K,m=K+1:=⟨m-1,by omega⟩
   refine⟨.value (.tuple #[]),_,?_,av,t1,t2,?_⟩
   .simp[Builtin.clear_,run_underlying f,G,y]
   .intro Q p;have H:Q∈(storeCells ⟨b,q*c.size,af⟩ (Builtin.zeroCells z.cells (K+1)).toList).events P s.w #[]:=by
     simp only[Builtin.clear_,aO,iI,kW] at p;simpa[run_underlying f,G,Y,y] using p
    rcases eE (Builtin.zeroCells z.cells (K+1)).toList 0 (vs++B).toArray s.w #[] g (by grind) k Q H with N|⟨j,_,_,rfl⟩
    .simp at N
    .exact mh (bT X) (by simp) (hM _)
end
section
variable {P:aq}{X:Cx P}{N:Nat}{Qf:Post}{K:List It}{φ:Fr}{σ:List aV}{all rest:List aw}{o:aw}
def AK.J1{e:Fr}{σ':List aV}(h:∀ s a,cv N σ s φ a->aJ σ s->∃ s':St,s'.w=s.w/\cv N σ' s' e a/\aJ σ' s'/\Step σ s σ' s')(k:AK X N Qf (.ops all rest::K) .normal e σ'):AK X N Qf (.ops all rest::K) .normal φ σ:=by
 intro s a i hh b kk cs S idx hb jG hQ;obtain⟨s',l,f,d,st⟩:=h s a i hh;have c:=st.ox hh;refine .ghost (.of hh d l c) ?_;exact k s' a f d b kk cs S idx hb jG λg σ2 s2 a2 q j h2 ot=>hQ g σ2 s2 a2 q j h2 (c.trans ot)
def AK.wh(t:Nat)(E k:Nat)(es':Nat->List C){k':Nat}{d:Nat->List C}(h:look φ t=.e (.one (.c (.sl ab k' 0 d))))
  (kk:AK X N Qf (.ops all rest::K) .normal ((t,.e (.one (.bp σ.length (.sl 0 k 0 0))))::φ) (σ++[.buf E k 0 es'])):AK X N Qf (.ops all rest::K) .normal φ σ:=by
 refine AK.J1 (λs a b hh=>?_) kk
 have f:=b.slot t;rw[h] at f;obtain⟨g,g2⟩:=hh.gR (B:=.buf E k 0 es') (L:=⟨.slice af 0 0,[]⟩) (.refl _ _) rfl hh (.inl ⟨rfl,rfl⟩) (by simp)
 refine⟨{ s with β:=s.β++[⟨.slice af 0 0,[]⟩] },rfl,⟨b.size,b.defers.imp λ_ h1=>h1.mono g2.ext,λu=>?_⟩,g,g2⟩
 simp only[look];cases hb:aG t u with
 |false=>exact(b.slot u).mono g2.ext hh.len
 |true =>
  have e:=bU hb;subst e;exact uW (E:=E) (es:=es') (fx f) (by simp) (by simp[<-hh.len])
def AK.BS{T:List (Nat×TI)}(B:db P T){t ty:ar}{x:an}{d j:Nat}(h:o.op=.binOp .eql t x (.const (.slice af d j)) ty){i:TI}{E:ar}(hi:bE T t=aa i)(F:i.desc=.slice E){tt:Bool}{k n:Nat}{es:Nat->List C}
  (z:bZ φ x=.e (.one (.c (.sl tt k n es)))) (D:o.guard=af) (I:gw N o.dst=ab)
  (kk:∀ b:Bool,(b=ab->n=0)->AK X N Qf (.ops all rest::K) .normal (lA o.dst (.e (.one (.c (.bool b)))) φ) σ):AK X N Qf (.ops all (o::rest)::K) .normal φ σ:=by
 refine AK.hand (ι:={ b:Bool // b=ab->n=0 }) (λb=>.e (.one (.c (.bool b.1)))) (λ_=>σ) D I (λs a v hh=>?_) λb=>kk b.1 b.2
 have m:=dN v x;rw[z] at m;obtain⟨ad,cap,vs,m,_,_,_,_,H⟩:=(fx m).flat;have g:=(B t i hi).SW;rw[F] at g;have q:=fx (by have:=dN v x;rw[z] at this;exact this)
 have r:ad.isNone=ab->n=0:=by
  intro hn;rw[m] at q;cases q with
  |sl b off f A hb ht hk ha H u =>
   grind
 refine⟨⟨ad.isNone,r⟩,.value (.bool ad.isNone),s,.bool ad.isNone,?_,.inl rfl,Rd.bool,hh,.refl _ _,?_⟩
 .have u:(binOp .eql t (.slice ad n cap) (.slice af d j)).run P s.w=.ok (.bool ad.isNone) s.w:=Go.Lib.run_eql_slice_nil s.w t E ad n cap d j g;have l:∀ y,eqGuard .eql t x y (.slice ad n cap) (.slice af d j)=pure ():=λy=>by simp[eqGuard]
  have e1:a.eval (.const (.slice af d j))=.slice af d j:=rfl;simp only[ay,h,m,e1,l];simp[u]
 .have G:∀ es,(Op.equal t (.slice ad n cap) (.slice af d j)).events P s.w es=es:=λes=>by
   show (Op.equalIn (9999+1) t _ _).events P s.w es=es;unfold Op.equalIn;cases ad <;> simp[underlying,g]
  have u:(Op.equal t (.slice ad n cap) (.slice af d j)).run P s.w=.ok ad.isNone s.w:=by
   show (Op.equalIn (9999+1) t _ _).run P s.w=_
   grind [Go.Lib.run_equalIn_slice_nil]
  have l:∀ y,eqGuard .eql t x y (.slice ad n cap) (.slice af d j)=pure ():=λy=>by simp[eqGuard]
  have e1:a.eval (.const (.slice af d j))=.slice af d j:=rfl;intro J p;exfalso;simp only[ay,h,m,e1,l,binOp] at p;simp[u,G,aO] at p
end
end
end Go.AM
namespace Go.AM.R1
section
open Go.Proofs
open Go.Sort (swp insInner insOuter ltInt)
variable {X:Cx ah}
def Mn(n:Int):Ev X 233 [dI n] [] (dB ae) []:=by
 refine Ev.bQ Tryz.func233 rfl λa=>?_
 refine aX [(5,ae)] 100 rfl (by simp[ag]) (AK.bm rfl ?_)
 simp[ag]
abbrev Vr:dh:=jX aI (λ_=>dB ae) λ_=>[]
def Y3:dG X 233 Vr:=.oi λn _=>Mn n
def O5(x y:Int):Ev X 212 [dI x,dI y] [] (dB (ltInt x y)) []:=by
 have a:bC X [(233,Vr)]:=.cons Y3 .nil;refine Ev.bQ Tryz.func212 rfl λb=>?_
 refine aD a [] 100 rfl (by simp[ag]) (AK.bm rfl ?_)
 simp[ag,ltInt]
abbrev um:dh:=p0 aI aI (λx y=>dB (ltInt x y)) λ_ _=>[]
def xk:dG X 212 um:=.tb λx y _=>O5 x y
def eI(d:Array Int)(j:Nat):List C:=[.int .i64 d[j]!]
abbrev kC(n:Nat):D:=.e (.one (.bp 0 (.sl n 1 0 n)))
abbrev bI(n:Nat)(d:Array Int):aV:=.buf 3 1 n (eI d)
def gZ:∀ j,j<1->([0]:List Nat)[j]?=aa j:=λj a=>by
 have:j=0:=by omega
 subst this;rfl
end
section
open Go.Proofs
open Go.Sort (swp insInner insOuter insertionSort ltInt)
variable {X:Cx ah}
def g7{d:Array Int}{i j n:Nat}(e:d.size=n)(hi:i<n)(h:j<n){f:Nat->List C}(b:aP n f (eI d)):aP n (m9 j [.int .i64 d[i]!] (m9 i [.int .i64 d[j]!] f)) (eI (swp d i j)):=by
 intro k c;have g:(swp d i j)[k]! = if k=j then d[i]! else if k=i then d[j]! else d[k]! := by
  unfold swp
  grind
 have a:=b k c;simp only[eI,m9] at a ⊢
 grind
theorem size_swp(d:Array Int)(i j:Nat):(swp d i j).size=d.size:=by simp[swp]
def A2{a j:Nat}{d:Array Int}(h:a<j)(b:ltInt d[j]! d[j-1]! = ab):insInner ltInt a j d=insInner ltInt a (j-1) (swp d j (j-1)):=by
 cases j with
 |zero=>omega
 |succ j =>
  simp only[pC] at b ⊢;rw[insInner,bc]
  grind
def sD{a j:Nat}{d:Array Int}(h:a<j->ltInt d[j]! d[j-1]! = ae):insInner ltInt a j d=d:=by
 cases j with
 |zero=>rfl
 |succ j =>
  simp only[pC] at h;rw[insInner,aY]
  grind
theorem SE(n:Nat)(d:Array Int)(a b:Nat)(q:d.size=n)(u:b<=n)(t:a<=n)(w:n<=4000000) :
  Ev X 206 [kC n,dI a,dI b] [bI n d] (.eJ []) [bI n (insertionSort ltInt d a b)]:=by
 have k:bC X [(212,um)]:=.cons xk .nil;refine Ev.bQ Tryz.func206 rfl λv=>?_
 refine bk rfl (by simp[ag,bu];omega) ?_
 refine AK.bO 1 (λs:Nat×Array Int=>s.2.size=n/\a+1<=s.1/\s.1<=n+1/\insOuter ltInt a b s.1 s.2=insertionSort ltInt d a b) (λs=>[(0,kC n),(1,dI a),(2,dI b),(6,dI s.1)]) (λs=>[bI n s.2]) (λs=>b-s.1) (a+1,d) rfl ?_ rfl ?_ rfl ⟨q,by omega,by simp only;omega,rfl⟩ ?_
 .simp[ag.cat,ag,aP]
 .simp[ag.cat,ag,aP]
 rintro⟨i,d1⟩ ⟨o,hi,l,e⟩;simp only at o hi l e
 by_cases h:i<b
 .refine aX [(12,ab)] 100 rfl (by simp[ag];omega) ?_
  refine AK.bO 1 (λs:Nat×Array Int=>s.2.size=n/\s.1<=i/\insInner ltInt a s.1 s.2=insInner ltInt a i d1) (λs=>[(0,kC n),(1,dI a),(2,dI b),(6,dI i),(7,dI s.1)]) (λs=>[bI n s.2]) (λs=>s.1) (i,d1) rfl ?_ rfl ?_ rfl ⟨o,by simp,rfl⟩ ?_
  .simp[ag.cat,ag,aP]
  .simp[ag.cat,ag,aP]
  rintro⟨j,d2⟩ ⟨f,r,c⟩;simp only at f r c
  by_cases p:a<j
  .have m:((j:Int)-1).toNat=j-1:=by omega
   by_cases g:ltInt d2[j]! d2[j-1]! = ab
   .refine aD k [(18,ab),(29,ab)] 100 rfl ?_ ?_
    .simp[ag,bu,m,g];omega
    refine AK.aQ (j-1,swp d2 j (j-1)) rfl ?_ ?_ ?_ ?_
    .simp[ag.cat,ag];omega
    .simp only[ag.cat,ag,m,bt,bz,aC,aF];exact g7 f (by omega) (by omega) (λ_ _=>rfl)
    .refine⟨by rw[size_swp];exact f,by omega,?_⟩
     rw[<-c,A2 p g]
    .simp;omega
   .refine aD k [(18,ab),(29,ae)] 100 rfl ?_ (AK.leaveD rfl rfl ?_)
    .simp[ag,bu,m,g];omega
    refine bk rfl ?_ (AK.aQ (i+1,d2) rfl ?_ ?_ ?_ ?_)
    .simp[ag,bu];omega
    .simp[ag.cat,ag]
    .simp[ag.cat,ag,aP]
    .refine⟨f,by omega,by simp only;omega,?_⟩
     simp only;rw[<-e,insOuter.eq_1 ltInt a b i,bc h,<-c,sD λ_=>by simpa using g]
    .simp;omega
  .refine aD k [(18,ae)] 100 rfl ?_ (AK.leaveD rfl rfl ?_)
   .simp[ag,bu];omega
   refine bk rfl ?_ (AK.aQ (i+1,d2) rfl ?_ ?_ ?_ ?_)
   .simp[ag,bu];omega
   .simp[ag.cat,ag]
   .simp[ag.cat,ag,aP]
   .refine⟨f,by omega,by simp only;omega,?_⟩
    simp only;rw[<-e,insOuter.eq_1 ltInt a b i,bc h,<-c,sD λx=>absurd x p]
   .simp;omega
 .refine aX [(12,ae)] 100 rfl (by simp[ag];omega) (AK.leaveD rfl rfl ?_)
  have:insertionSort ltInt d a b=d1:=by rw[<-e,insOuter,aY h]
  rw[this];exact b5.s9 [0] rfl av rfl rfl rfl gZ
end
section
open Go.Proofs
open Go.Sort (swp siftDown ltInt)
variable {X:Cx ah}
def Mx{hi first root:Nat}{d:Array Int}(h:¬2*root+1<hi):siftDown ltInt hi first root d=d:=by
 rw[siftDown,dif_pos (by omega)]
theorem My{hi first root:Nat}{d:Array Int}(h:2*root+1<hi)(a:2*root+1+1<hi->ltInt d[first+(2*root+1)]! d[first+(2*root+1)+1]! = ae)(b:ltInt d[first+root]! d[first+(2*root+1)]! = ab) :
  siftDown ltInt hi first root d=siftDown ltInt hi first (2*root+1) (swp d (first+root) (first+(2*root+1))):=by
 rw[siftDown.eq_1 ltInt hi first root d,dif_neg (by omega),aY (by grind),aY (by grind)]
theorem Gt{hi first root:Nat}{d:Array Int}(h:2*root+1<hi)(a:2*root+1+1<hi->ltInt d[first+(2*root+1)]! d[first+(2*root+1)+1]! = ae)(b:ltInt d[first+root]! d[first+(2*root+1)]! = ae) :
  siftDown ltInt hi first root d=d:=by
 rw[siftDown.eq_1 ltInt hi first root d,dif_neg (by omega),aY (by grind),bc (by grind)]
theorem SH{hi first root:Nat}{d:Array Int}(h:2*root+1+1<hi)(a:ltInt d[first+(2*root+1)]! d[first+(2*root+1+1)]! = ab)(b:ltInt d[first+root]! d[first+(2*root+1+1)]! = ab) :
  siftDown ltInt hi first root d=siftDown ltInt hi first (2*root+1+1) (swp d (first+root) (first+(2*root+1+1))):=by
 rw[siftDown.eq_1 ltInt hi first root d,dif_neg (by omega),bc (by grind),aY (by grind),dif_pos (by omega)]
theorem Pa{hi first root:Nat}{d:Array Int}(h:2*root+1+1<hi)(a:ltInt d[first+(2*root+1)]! d[first+(2*root+1+1)]! = ab)(b:ltInt d[first+root]! d[first+(2*root+1+1)]! = ae) :
  siftDown ltInt hi first root d=d:=by
 rw[siftDown.eq_1 ltInt hi first root d,dif_neg (by omega),bc (by grind),bc (by grind)]
def Pb(n:Nat)(d:Array Int)(lo hi first:Nat)(m:d.size=n)(p:first+hi<=n)(o:lo<=n)(t:n<=4000000) :
  Ev X 228 [kC n,dI lo,dI hi,dI first] [bI n d] (.eJ []) [bI n (siftDown ltInt hi first lo d)]:=by
 have g:bC X [(212,um)]:=.cons xk .nil;refine Ev.bQ Tryz.func228 rfl λq=>?_
 refine bk rfl av ?_;refine AK.bO 1 (λs:Nat×Array Int=>s.2.size=n/\s.1<=n/\siftDown ltInt hi first s.1 s.2=siftDown ltInt hi first lo d) (λs=>[(0,kC n),(1,dI lo),(2,dI hi),(3,dI first),(8,dI s.1)]) (λs=>[bI n s.2]) (λs=>hi-s.1) (lo,d) rfl ?_ rfl ?_ rfl ⟨m,o,rfl⟩ ?_
 .simp[ag.cat,ag,aP]
 .simp[ag.cat,ag,aP]
 rintro⟨root,d1⟩ ⟨j,l,f⟩;simp only at j l f
 by_cases h:2*root+1<hi
 .have e:((first:Int)+(2*(root:Int)+1)).toNat=first+(2*root+1):=by omega
  have c:((first:Int)+(2*(root:Int)+1)+1).toNat=first+(2*root+1+1):=by omega
  by_cases r:2*root+1+1<hi
  .by_cases i:ltInt d1[first+(2*root+1)]! d1[first+(2*root+1+1)]! = ab
   .have k:((first:Int)+(2*(root:Int)+1+1)).toNat=first+(2*root+1+1):=by omega
    have b:((first:Int)+(root:Int)).toNat=first+root:=by omega
    by_cases a:ltInt d1[first+root]! d1[first+(2*root+1+1)]! = ab
    .refine aD g [(16,ae),(20,ab),(35,ab),(51,ab)] 200 rfl ?_ (AK.aQ (2*root+1+1,swp d1 (first+root) (first+(2*root+1+1))) rfl ?_ ?_ ?_ ?_)
     .simp only[ag,bt,e,c,b,k,i,a,bu,ba,bJ,aF,aC];and_intros <;> omega
     .simp only[ag.cat,ag,aF,aC];grind
     .simp only[ag.cat,ag,bt,e,c,b,k,aC,aF];exact g7 j (by omega) (by omega) (λ_ _=>rfl)
     .grind [size_swp,SH]
     grind
    .rw[oL] at a;rw[show siftDown ltInt hi first lo d=d1 by grind [Pa]]
     refine aD g [(16,ae),(20,ab),(35,ab),(51,ae)] 200 rfl ?_ (AK.ei (b5.mk [0] rfl av rfl rfl rfl gZ));simp only[ag,bt,e,c,b,k,i,a,bu,ba,bJ,aF,aC];and_intros <;> omega
   .rw[oL] at i;have b:((first:Int)+(root:Int)).toNat=first+root:=by omega
    by_cases a:ltInt d1[first+root]! d1[first+(2*root+1)]! = ab
    .refine aD g [(16,ae),(20,ab),(35,ae),(51,ab)] 200 rfl ?_ (AK.aQ (2*root+1,swp d1 (first+root) (first+(2*root+1))) rfl ?_ ?_ ?_ ?_)
     .simp only[ag,bt,e,c,b,i,a,bu,ba,bJ,aF,aC];and_intros <;> omega
     .simp only[ag.cat,ag,aF,aC];grind
     .simp only[ag.cat,ag,bt,e,c,b,aC,aF];exact g7 j (by omega) (by omega) (λ_ _=>rfl)
     .grind [size_swp,My]
     grind
    .rw[oL] at a;rw[show siftDown ltInt hi first lo d=d1 by grind [Gt]]
     refine aD g [(16,ae),(20,ab),(35,ae),(51,ae)] 200 rfl ?_ (AK.ei (b5.mk [0] rfl av rfl rfl rfl gZ));simp only[ag,bt,e,c,b,i,a,bu,ba,bJ,aF,aC];and_intros <;> omega
  .have i:True:=av;have b:((first:Int)+(root:Int)).toNat=first+root:=by omega
   by_cases a:ltInt d1[first+root]! d1[first+(2*root+1)]! = ab
   .refine aD g [(16,ae),(20,ae),(51,ab)] 200 rfl ?_ (AK.aQ (2*root+1,swp d1 (first+root) (first+(2*root+1))) rfl ?_ ?_ ?_ ?_)
    .simp only[ag,bt,e,c,b,a,bu,ba,bJ,aF,aC];and_intros <;> omega
    .simp only[ag.cat,ag,aF,aC];grind
    .simp only[ag.cat,ag,bt,e,c,b,aC,aF];exact g7 j (by omega) (by omega) (λ_ _=>rfl)
    .grind [size_swp,My]
    grind
   .rw[oL] at a;rw[show siftDown ltInt hi first lo d=d1 by grind [Gt]]
    refine aD g [(16,ae),(20,ae),(51,ae)] 200 rfl ?_ (AK.ei (b5.mk [0] rfl av rfl rfl rfl gZ));simp only[ag,bt,e,c,b,a,bu,ba,bJ,aF,aC];and_intros <;> omega
 .refine aX [(16,ab)] 100 rfl (by simp only[ag,bu,ba,aF,aC];and_intros <;> omega) (AK.leaveD rfl rfl ?_)
  rw[<-f,Mx h];exact b5.s9 [0] rfl av rfl rfl rfl gZ
end
section
open Go.Proofs
open Go.Sort (swp order2 median medianAdjacent choosePivot Hint ltInt)
variable {X:Cx ah}
abbrev bN(k:Nat):aV:=.cells 3 [.c (.int .i64 k)]
abbrev Tb:D:=.e (.one (.ptr 1 0))
abbrev tII(a b:Nat):D:=.eJ [.one (.c (.int .i64 a)),.one (.c (.int .i64 b))]
def Gu:∀ j,j<2->([0,1]:List Nat)[j]?=aa j:=λj a=>by
 grind
def tC(n:Nat)(d:Array Int)(a b sw:Nat)(g:a<n)(i:b<n)(k:n<=4000000)(f:sw<=1000) :
  Ev X 242 [kC n,dI a,dI b,Tb] [bI n d,bN sw] (tII (order2 ltInt d a b sw).1 (order2 ltInt d a b sw).2.1) [bI n d,bN (order2 ltInt d a b sw).2.2]:=by
 have c:bC X [(212,um)]:=.cons xk .nil;refine Ev.bQ Tryz.func242 rfl λj=>?_
 by_cases h:ltInt d[b]! d[a]! = ab
 .have e:order2 ltInt d a b sw=(b,a,sw+1):=by simp[order2,h]
  rw[e];refine aD c [(18,ab)] 200 rfl ?_ (AK.dD [0,1] rfl ?_ rfl rfl rfl Gu)
  .simp only[ag,bt,bz,h,bu,aF,aC];and_intros <;> omega
  .simp[ag,ag.cat]
 .have e:order2 ltInt d a b sw=(a,b,sw):=by simp[order2,h]
  rw[e];rw[oL] at h;refine aD c [(18,ae)] 200 rfl ?_ (AK.dD [0,1] rfl ?_ rfl rfl rfl Gu)
  .simp only[ag,bt,bz,h,bu,aF,aC];and_intros <;> omega
  .simp[ag,ag.cat]
def nv{d:Array Int}{a b sw n:Nat}(c:a<n)(e:b<n):(order2 ltInt d a b sw).1<n/\(order2 ltInt d a b sw).2.1<n/\(order2 ltInt d a b sw).2.2<=sw+1:=by
 unfold order2;split <;> simp only <;> omega
def y8(n:Nat)(d:Array Int)(a b c sw:Nat)(g:a<n)(h:b<n)(i:c<n)(f:n<=4000000)(k:sw<=900) :
  Ev X 232 [kC n,dI a,dI b,dI c,Tb] [bI n d,bN sw] (dI (median ltInt d a b c sw).1) [bI n d,bN (median ltInt d a b c sw).2]:=by
 refine Ev.bQ Tryz.func232 rfl λl=>?_
 have e:=nv (d:=d) (sw:=sw) g h;have j:=nv (d:=d) (sw:=(order2 ltInt d a b sw).2.2) e.2.1 i;refine dO rfl av ?_;refine AK.cQ (tC n d a b sw g h f (by omega)) [0,1] rfl ?_
 refine dO rfl av ?_;refine AK.cQ (tC n d (order2 ltInt d a b sw).2.1 c (order2 ltInt d a b sw).2.2 e.2.1 i f (by omega)) [0,1] rfl ?_
 refine dO rfl av ?_;refine AK.cQ (tC n d (order2 ltInt d a b sw).1 (order2 ltInt d (order2 ltInt d a b sw).2.1 c (order2 ltInt d a b sw).2.2).1 (order2 ltInt d (order2 ltInt d a b sw).2.1 c (order2 ltInt d a b sw).2.2).2.2 e.1 j.1 f (by omega)) [0,1] rfl ?_
 refine dO rfl av (AK.dD [0,1] rfl ?_ rfl rfl rfl Gu);simp[ag,ag.cat,median]
def Is{d:Array Int}{a b c sw n:Nat}(f:a<n)(g:b<n)(i:c<n):(median ltInt d a b c sw).1<n/\(median ltInt d a b c sw).2<=sw+3:=by
 have e:=nv (d:=d) (sw:=sw) f g;have h:=nv (d:=d) (sw:=(order2 ltInt d a b sw).2.2) e.2.1 i;have j:=nv (d:=d) (sw:=(order2 ltInt d (order2 ltInt d a b sw).2.1 c (order2 ltInt d a b sw).2.2).2.2) e.1 h.1;unfold median;exact⟨j.2.1,by simp only;omega⟩
def A3(n:Nat)(d:Array Int)(a sw:Nat)(e:1<=a)(f:a+1<n)(c:n<=4000000)(b:sw<=900) :
  Ev X 231 [kC n,dI a,Tb] [bI n d,bN sw] (dI (medianAdjacent ltInt d a sw).1) [bI n d,bN (medianAdjacent ltInt d a sw).2]:=by
 refine Ev.bQ Tryz.func231 rfl λg=>?_
 obtain⟨a,rfl⟩:∃ a',a=a'+1:=⟨a-1,by omega⟩
 refine dO rfl (by simp only[ag,bu];and_intros <;> omega) ?_
 have key:∀ x y z:Int,x=(a:Int)->y=((a+1:Nat):Int)->z=((a+1+1:Nat):Int)->Ev X 232 [kC n,dI x,dI y,dI z,Tb] [bI n d,bN sw] (dI (median ltInt d a (a+1) (a+1+1) sw).1) [bI n d,bN (median ltInt d a (a+1) (a+1+1) sw).2]:=by
  rintro x y z rfl rfl rfl;exact y8 n d a (a+1) (a+1+1) sw (by omega) (by omega) (by omega) c b
 refine AK.cQ (key (((a+1:Nat):Int)-1) _ (((a+1:Nat):Int)+1) (by omega) rfl (by omega)) [0,1] rfl ?_
 refine dO rfl av (AK.dD [0,1] rfl ?_ rfl rfl rfl Gu);simp[ag,ag.cat,medianAdjacent]
end
end Go.AM.R1
namespace Go.AM
section
open Go.Conc (G)
section
variable {P:aq}{X:Cx P}{N:Nat}{Qf:Post}{φ:Fr}{σ:List aV}
def AK.Xz{c:Code}{K:List It}{a:Fr}{σ':List aV}(k:AK X N Qf (.code c::K) .normal a σ'){ps qs:List Prop}(h1:qD φ a=aa ps)(d:ag ps)(h2:sY σ σ'=aa qs)(b:ag qs):AK X N Qf (.code c::K) .normal φ σ :=
 AK.norm σ' h2 b (AW.le k (dc h1 d))
def tM:List It->List It
 |.blk _::K=>tM K
 |K=>K
def AK.tM:∀ {K:List It},AK X N Qf (tM K) .normal φ σ->AK X N Qf K .normal φ σ
 |[],h=>h
 |.blk _::K,h=>AK.tM (K:=K) h
 |.code _::_,h=>h
 |.ops _ _::_,h=>h
def AK.kN{S S2:Type}{c c2:Code}(id:Nat){K f i:List It}(h2:kM id K=aa f)(k:Go.AM.tM f=.code c2::i)(O:S2->Prop)(mU:S2->Fr)(a:S2->List aV)(n:Nat)(I:S->Prop)(fr:S->Fr)(st:S->List aV)(h:S->Nat)(x:S)
  {ps qs:List Prop} (e:qD φ (fr x)=aa ps) (d:ag ps) (g:sY σ (st x)=aa qs) (b:ag qs) (hn:σ.length=n) (l:I x)
  (round:(∀ (y:S2) {φ:Fr} {σ:List aV} {ps qs:List Prop},O y->qD φ (mU y)=aa ps->ag ps->sY σ (a y)=aa qs->ag qs->AK X N Qf f .normal φ σ) ->
   ∀ x,I x->AK X N (lX X N Qf K I fr st h n x) [.code c] .normal (fr x) (st x))
  (after:∀ y,O y->AK X N Qf (.code c2::i) .normal (mU y) (a y)):AK X N Qf (.code (.loop c)::K) .normal φ σ :=
 AK.bO n I fr st h x e d g b hn l (round λy _ _ _ _ j h1 d h2 b=>AK.tM (by rw[k];exact(after y j).Xz h1 d h2 b))
end
end
end Go.AM
namespace Go.AM.R1
section
open Go.Proofs
open Go.Sort (swp order2 median medianAdjacent choosePivot Hint ltInt)
variable {X:Cx ah}
def nu:Hint->Int|.unknown=>0|.increasing=>1|.decreasing=>2
def xn(n:Nat)(d:Array Int){a b c:Nat}(sw:Nat)(f:a<n)(g:b<n)(h:c<n)(k:n<=4000000)(e:sw<=900){x y z:Int}(l:x=a)(j:y=b)(i:z=c) :
  Ev X 232 [kC n,dI x,dI y,dI z,Tb] [bI n d,bN sw] (dI (median ltInt d a b c sw).1) [bI n d,bN (median ltInt d a b c sw).2]:=by
 subst l j i;exact y8 n d a b c sw f g h k e
def mS(n:Nat)(d:Array Int){a:Nat}(sw:Nat)(c:1<=a)(e:a+1<n)(f:n<=4000000)(b:sw<=900){x:Int}(g:x=a) :
  Ev X 231 [kC n,dI x,Tb] [bI n d,bN sw] (dI (medianAdjacent ltInt d a sw).1) [bI n d,bN (medianAdjacent ltInt d a sw).2]:=by
 subst g;exact A3 n d a sw c e f b
def oa{d:Array Int}{a sw n:Nat}(b:1<=a)(c:a+1<n):(medianAdjacent ltInt d a sw).1<n/\(medianAdjacent ltInt d a sw).2<=sw+3 :=
 Is (by omega) (by omega) (by omega)
abbrev pv(k:Nat):Hint:=if k=0 then .increasing else if k=12 then .decreasing else .unknown
def Mz{d:Array Int}{a l:Nat}(c:8<=l)(b:l<50):choosePivot ltInt d a (a+l)=((median ltInt d (a+l / 4*1) (a+l / 4*2) (a+l / 4*3) 0).1,pv (median ltInt d (a+l / 4*1) (a+l / 4*2) (a+l / 4*3) 0).2):=by
 unfold choosePivot
 grind
abbrev mA(d:Array Int)(a l:Nat):=medianAdjacent ltInt d (a+l / 4*1) 0
abbrev mB(d:Array Int)(a l:Nat):=medianAdjacent ltInt d (a+l / 4*2) (mA d a l).2
abbrev mC(d:Array Int)(a l:Nat):=medianAdjacent ltInt d (a+l / 4*3) (mB d a l).2
def MA{d:Array Int}{a l:Nat}(b:50<=l):choosePivot ltInt d a (a+l)=((median ltInt d (mA d a l).1 (mB d a l).1 (mC d a l).1 (mC d a l).2).1,pv (median ltInt d (mA d a l).1 (mB d a l).1 (mC d a l).1 (mC d a l).2).2):=by
 unfold choosePivot
 grind
def Iq(n:Nat)(d:Array Int)(a b:Nat)(j:a<=b)(k:b<=n)(i:8<=b-a)(g:n<=4000000) :
  Ev X 209 [kC n,dI a,dI b] [bI n d] (.eJ [.one (.c (.int .i64 (choosePivot ltInt d a b).1)),.one (.c (.int .i64 (nu (choosePivot ltInt d a b).2)))]) [bI n d]:=by
 refine Ev.bQ Tryz.func209 rfl λo=>?_
 obtain⟨l,rfl⟩:∃ l,b=a+l:=⟨b-a,by omega⟩
 rw[uK] at i
 by_cases h:l<50
 .refine aX [(32,ab),(34,ae)] 200 rfl ?_ ?_
  .simp only[ag,bu,ba,bJ,aF,aC];and_intros <;> omega
  refine AK.cQ (xn n d (a:=a+l / 4*1) (b:=a+l / 4*2) (c:=a+l / 4*3) 0 (by omega) (by omega) (by omega) g (by omega) (by omega) (by omega) (by omega)) [0,1] rfl ?_
  rw[Mz i h];generalize median ltInt d (a+l / 4*1) (a+l / 4*2) (a+l / 4*3) 0=r
  by_cases e:r.2=0
  .refine aX [(52,ab)] 200 rfl (by simp[ag,e]) (AK.dD [0] rfl ?_ rfl rfl rfl gZ)
   simp[ag,ag.cat,e,nu,pv]
  by_cases f:r.2=12
  .refine aX [(52,ae),(55,ab)] 200 rfl (by simp[ag,f]) (AK.dD [0] rfl ?_ rfl rfl rfl gZ)
   simp[ag,ag.cat,f,nu,pv]
  .refine aX [(52,ae),(55,ae)] 200 rfl (by simp[ag,e];omega) (AK.dD [0] rfl ?_ rfl rfl rfl gZ)
   simp[ag,ag.cat,e,f,nu,pv]
 .refine aX [(32,ab),(34,ab)] 200 rfl ?_ ?_
  .simp only[ag,bu,ba,bJ,aF,aC];and_intros <;> omega
  have q:(mA d a l).1<n/\(mA d a l).2<=0+3:=oa (d:=d) (a:=a+l / 4*1) (sw:=0) (n:=n) (by omega) (by omega)
  have p:(mB d a l).1<n/\(mB d a l).2<=(mA d a l).2+3:=oa (d:=d) (a:=a+l / 4*2) (sw:=(mA d a l).2) (n:=n) (by omega) (by omega)
  have m:(mC d a l).1<n/\(mC d a l).2<=(mB d a l).2+3:=oa (d:=d) (a:=a+l / 4*3) (sw:=(mB d a l).2) (n:=n) (by omega) (by omega)
  refine AK.cQ (mS n d (a:=a+l / 4*1) 0 (by omega) (by omega) g (by omega) (by omega)) [0,1] rfl ?_
  refine dO rfl av ?_;refine AK.cQ (mS n d (a:=a+l / 4*2) (mA d a l).2 (by omega) (by omega) g (by omega) (by omega)) [0,1] rfl ?_
  refine dO rfl av ?_;refine AK.cQ (mS n d (a:=a+l / 4*3) (mB d a l).2 (by omega) (by omega) g (by omega) (by omega)) [0,1] rfl ?_
  refine dO rfl av ?_;refine AK.cQ (xn n d (a:=(mA d a l).1) (b:=(mB d a l).1) (c:=(mC d a l).1) (mC d a l).2 (by omega) (by omega) (by omega) g (by omega) rfl rfl rfl) [0,1] rfl ?_
  rw[MA (by omega)]
  generalize median ltInt d (mA d a l).1 (mB d a l).1 (mC d a l).1 (mC d a l).2=r
  by_cases e:r.2=0
  .refine aX [(52,ab)] 200 rfl (by simp[ag,e]) (AK.dD [0] rfl ?_ rfl rfl rfl gZ)
   simp[ag,ag.cat,e,nu,pv]
  by_cases f:r.2=12
  .refine aX [(52,ae),(55,ab)] 200 rfl (by simp[ag,f]) (AK.dD [0] rfl ?_ rfl rfl rfl gZ)
   simp[ag,ag.cat,f,nu,pv]
  .refine aX [(52,ae),(55,ae)] 200 rfl (by simp[ag,e];omega) (AK.dD [0] rfl ?_ rfl rfl rfl gZ)
   simp[ag,ag.cat,e,f,nu,pv]
end
section
open Go.Proofs
open Go.Sort (swp reverseLoop reverseRange siftDown heapBuild heapPop heapSort ltInt)
variable {X:Cx ah}
def SG(n:Nat)(d:Array Int)(a b:Nat)(g:d.size=n)(p:1<=b)(l:a<=n)(m:b<=n)(q:n<=4000000):Ev X 210 [kC n,dI a,dI b] [bI n d] (.eJ []) [bI n (reverseRange d a b)]:=by
 refine Ev.bQ Tryz.func210 rfl λo=>?_
 refine bk rfl (by simp[ag,bu];omega) ?_
 refine AK.bO 1 (λs:Nat×Nat×Array Int=>s.2.2.size=n/\s.1<=n/\s.2.1<n+1/\s.2.1<n/\reverseLoop s.1 s.2.1 s.2.2=reverseRange d a b) (λs=>[(0,kC n),(6,dI s.1),(7,dI s.2.1)]) (λs=>[bI n s.2.2]) (λs=>s.2.1-s.1) (a,b-1,d) rfl ?_ rfl ?_ rfl ⟨g,by simp only;omega,by simp only;omega,by simp only;omega,rfl⟩ ?_
 .simp[ag.cat,ag];omega
 .simp[ag.cat,ag,aP]
 rintro⟨i,j,d1⟩ ⟨f,hi,_,k,c⟩;simp only at f hi k c
 by_cases h:i<j
 .refine aX [(13,ab)] 200 rfl ?_ (AK.aQ (i+1,j-1,swp d1 i j) rfl ?_ ?_ ?_ ?_)
  .simp only[ag,bt,bz,bu,ba,aF,aC];and_intros <;> omega
  .simp only[ag.cat,ag,aF,aC];and_intros <;> omega
  .simp only[ag.cat,ag,bt,bz,aC,aF];exact g7 f (by omega) (by omega) (λ_ _=>rfl)
  .refine⟨by rw[size_swp];exact f,by simp only;omega,by simp only;omega,by simp only;omega,?_⟩
   rw[<-c,reverseLoop.eq_1 i j d1,bc h]
  .simp only;omega
 .have e:reverseRange d a b=d1:=by rw[<-c,reverseLoop,aY h]
  rw[e];refine aX [(13,ae)] 100 rfl (by simp[ag];omega) (AK.leaveD rfl rfl ?_)
  exact b5.s9 [0] rfl av rfl rfl rfl gZ
def C4(n:Nat)(d:Array Int){lo hi first:Nat}(b:d.size=n)(a:first+hi<=n)(c:lo<=n)(g:n<=4000000){x y z:Int}(h:x=lo)(f:y=hi)(e:z=first) :
  Ev X 228 [kC n,dI x,dI y,dI z] [bI n d] (.eJ []) [bI n (siftDown ltInt hi first lo d)]:=by
 subst h f e;exact Pb n d lo hi first b a c g
def y9(hi first:Nat):∀ (m root:Nat)(d:Array Int),hi-root<=m->(siftDown ltInt hi first root d).size=d.size:=by
 intro m
 induction m with
 |zero=>intro root d h;rw[siftDown,dif_pos (by omega)]
 |succ m a =>
  intro root d h;rw[siftDown];split
  .rfl
  split
  .split
   .rfl
   split
   .rw[a _ _ (by omega),size_swp]
   .rfl
  .split
   .rfl
   .rw[a _ _ (by omega),size_swp]
theorem O8(n:Nat)(d:Array Int)(a b:Nat)(q:d.size=n)(r:a<=b)(t:1<=b-a)(p:b<=n)(o:n<=4000000):Ev X 207 [kC n,dI a,dI b] [bI n d] (.eJ []) [bI n (heapSort ltInt d a b)]:=by
 refine Ev.bQ Tryz.func207 rfl λu=>?_
 obtain⟨l,rfl⟩:∃ l,b=a+l:=⟨b-a,by omega⟩
 rw[uK] at t;refine dO rfl (by simp only[ag,bu,aF,aC];and_intros <;> omega) ?_
 refine AK.kN (S2:=Array Int) 0 rfl rfl (λd2=>d2.size=n/\d2=heapBuild ltInt l a ((l-1) / 2+1) d) (λ_=>[(0,kC n),(6,dI a),(7,dI 0),(8,dI l)]) (λd2=>[bI n d2]) 1 (λs:Nat×Array Int=>s.2.size=n/\s.1<=(l-1) / 2+1/\heapBuild ltInt l a s.1 s.2=heapBuild ltInt l a ((l-1) / 2+1) d) (λs=>[(0,kC n),(6,dI a),(7,dI 0),(8,dI l),(9,dI ((s.1:Int)-1))]) (λs=>[bI n s.2]) (λs=>s.1) ((l-1) / 2+1,d) rfl ?_ rfl ?_ rfl ⟨q,bg _,rfl⟩ ?_ ?_
 .simp[ag.cat,ag];omega
 .simp[ag.cat,ag,aP]
 .rintro out ⟨k,d1⟩ ⟨e,j,c⟩;simp only at e j c;cases k with
  |zero =>
   refine aX [(19,ae)] 100 rfl (by simp[ag]) (AK.leaveD rfl rfl ?_)
   exact out d1 ⟨e,c⟩ rfl (by simp[ag,ag.cat]) rfl (by simp[ag,ag.cat,aP])
  |succ k =>
   refine aX [(19,ab)] 100 rfl (by simp only[ag,ba];omega) ?_
   refine AK.cQ (C4 n d1 (lo:=k) (hi:=l) (first:=a) e p (by omega) o (by omega) rfl rfl) [0] rfl ?_
   refine dO rfl ?_ (AK.aQ (k,siftDown ltInt l a k d1) rfl ?_ ?_ ?_ ?_)
   .simp only[ag,bu];omega
   .simp only[ag.cat,ag,aF,aC];omega
   .simp[ag.cat,ag,aP]
   .exact⟨by rw[y9 _ _ _ _ _ (bg _)];exact e,by simp only;omega,c⟩
   .simp
 rintro i ⟨g,h⟩;refine dO rfl (by simp only[ag,bu];omega) ?_
 have f:heapSort ltInt d a (a+l)=heapPop ltInt a l i:=by
  unfold heapSort;rw[uK,<-h]
 rw[f];refine AK.bO 1 (λs:Nat×Array Int=>s.2.size=n/\s.1<=l/\heapPop ltInt a s.1 s.2=heapPop ltInt a l i) (λs=>[(0,kC n),(6,dI a),(7,dI 0),(8,dI l),(10,dI ((s.1:Int)-1))]) (λs=>[bI n s.2]) (λs=>s.1) (l,i) rfl ?_ rfl ?_ rfl ⟨g,bg _,rfl⟩ ?_
 .simp[ag.cat,ag]
 .simp[ag.cat,ag,aP]
 rintro⟨k,d1⟩ ⟨e,j,c⟩;simp only at e j c;cases k with
 |zero =>
  rw[<-c];refine aX [(30,ae)] 100 rfl (by simp[ag]) (AK.leaveD rfl rfl ?_)
  exact b5.s9 [0] rfl av rfl rfl rfl gZ
 |succ k =>
  have m:((a:Int)+(((k+1:Nat):Int)-1)).toNat=a+k:=by omega
  refine aX [(30,ab),(1000011,ab)] 200 rfl ?_ ?_
  .simp only[ag,bt,bz,m,bu,ba,aF,aC];and_intros <;> omega
  refine AK.norm [bI n (swp d1 a (a+k))] rfl ?_ ?_
  .simp only[ag.cat,ag,bt,bz,m,aC,aF];exact g7 e (by omega) (by omega) (λ_ _=>rfl)
  refine dO rfl av ?_;refine AK.cQ (C4 n (swp d1 a (a+k)) (lo:=0) (hi:=k) (first:=a) (by rw[size_swp];exact e) (by omega) (by omega) o rfl (by omega) rfl) [0] rfl ?_
  refine dO rfl ?_ (AK.aQ (k,siftDown ltInt k a 0 (swp d1 a (a+k))) rfl ?_ ?_ ?_ ?_)
  .simp only[ag,bu];omega
  .simp only[ag.cat,ag,aF,aC];omega
  .simp[ag.cat,ag,aP]
  .exact⟨by rw[y9 _ _ _ _ _ (bg _),size_swp];exact e,by simp only;omega,c⟩
  .simp
end
def kP{p:Bs}(h:b7 p=ab):∀ b∈p,97<=b.toNat/\b.toNat<=122:=by
 intro b a;have:=List.all_eq_true.1 h b a;simpa[eG] using this
def wB:∀ (p:Bs) (n m:Int)(k:Nat),(∀ b∈p,97<=b.toNat/\b.toNat<=122)->0<=n->n<m->1<=m ->
  0<=p.foldl (λn b=>27*n+((b.toNat:Int)-97) % 256+1) n/\p.foldl (λn b=>27*n+((b.toNat:Int)-97) % 256+1) n<m*27 ^ p.length
 |[],n,m,_,_,d,c,_=>by simpa using⟨d,c⟩
 |b::p,n,m,k,a,d,c,h=>by
  obtain⟨f,g⟩:=a b (by simp)
  have:=wB p (27*n+((b.toNat:Int)-97) % 256+1) (m*27) k (λx e=>a x (by simp[e])) (by omega) (by omega) (by omega)
  simp only[jl,eZ];rw[Int.pow_succ,Int.mul_comm (27 ^ p.length) 27,<-Int.mul_assoc];exact this
def PW:∀ {n:Nat},n<=8->(27:Int) ^ n<=282429536481:=by
 intro n a
 match n,a with
 |0,_|1,_|2,_|3,_|4,_|5,_|6,_|7,_|8,_=>decide
def yw{p:Bs}(h:bH p=ab):0<=codeOf p/\codeOf p<282429536481:=by
 simp only[bH,bL,ba] at h;obtain⟨b,a⟩:=wB p 0 1 0 (kP h.2) (by omega) (by omega) (by omega)
 have:=PW h.1.2;rw[Int.one_mul] at a;exact⟨b,Int.lt_of_lt_of_le a this⟩
section
open Go.Proofs
variable {X:Cx ah}
def Kw(k:Int):Ev X 41 [dI k] [] (dB (ck k)) []:=by
 refine Ev.bQ Tryz.func41 rfl λc=>?_
 by_cases a:1<=k
 .by_cases b:k<=99
  .refine aX [(4,ab),(7,ab)] 100 rfl ?_ (AK.bm rfl ?_)
   .simp[ag,a,b]
   .simp[ag,ck,a,b]
  .refine aX [(4,ab),(7,ae)] 100 rfl ?_ (AK.bm rfl ?_)
   .simp[ag,a];omega
   .simp[ag,ck,a,b]
 .refine aX [(4,ae)] 100 rfl ?_ (AK.bm rfl ?_)
  .simp[ag];omega
  .simp[ag,ck,a]
def t41:dG X 41 (jX aI (λk=>dB (ck k)) λ_=>[]):=.oi λk _=>Kw k
def Af{s:Bs}{i:Nat}(h:i<s.length):b7 (s.take (i+1))=(b7 (s.take i)&&eG (s.getD i 0)):=by
 unfold b7
 grind [List.take_add_one]
def pd{b:UInt8}:eG b=ab↔97<=(b.toNat:Int)/\(b.toNat:Int)<=122:=by simp[eG];omega
def wz{s:Bs}{i:Nat}(h:i<s.length)(b:eG (s.getD i 0)=ae):b7 s=ae:=by
 cases a:b7 s with
 |false=>rfl
 |true =>
  have:=List.all_eq_true.1 a (s.getD i 0) (by grind)
  grind
def B6(s:Bs):Ev X 146 [dS s] [] (dB (b7 s)) []:=by
 refine Ev.bQ Tryz.func146 rfl λg=>?_
 have f:=g.str 0 rfl;refine bk rfl av ?_;refine AK.wc (λi=>i<=s.length/\b7 (s.take i)=ab) (λi:Nat=>[(0,dS s),(5,dI s.length),(6,dI i)]) (λ_=>[]) (λi=>s.length-i) 0 rfl (by simp[ag.cat,ag]) ⟨by omega,by simp[b7]⟩ rfl ?_
 rintro i ⟨hi,a⟩
 by_cases h:i<s.length
 .by_cases b:cz s i<97
  .refine aX [(7,ab),(12,ab)] 100 rfl ?_ (AK.gJ (b5.zero rfl ?_))
   .simp[-ai,ag,h,cy,b]
   .have:eG (s.getD i 0)=ae:=by
     cases c:eG (s.getD i 0) with
     |false=>rfl
     |true=>have:=pd.1 c;unfold cz at b;omega
    simp[ag.cat,ag,wz h this]
  .by_cases d:cz s i<=122
   .refine aX [(7,ab),(12,ae),(17,ae)] 100 rfl ?_ (AK.again (i+1) rfl ?_ ?_ ?_ rfl)
    .simp[-ai,ag,h,cy,b,d,bu]
     grind
    .simp[ag.cat,ag]
    .refine⟨by omega,?_⟩
     rw[Af h,a,dJ];exact pd.2 (by unfold cz at b d;omega)
    .omega
   .refine aX [(7,ab),(12,ae),(17,ab)] 100 rfl ?_ (AK.gJ (b5.zero rfl ?_))
    .simp[-ai,ag,h,cy,b]
     grind
    .have:eG (s.getD i 0)=ae:=by
      cases c:eG (s.getD i 0) with
      |false=>rfl
      |true=>have:=pd.1 c;unfold cz at d;omega
     simp[ag.cat,ag,wz h this]
 .have e:i=s.length:=by omega
  subst e;refine aX [(7,ae)] 100 rfl (by simp[ag]) (AK.leave rfl rfl ?_)
  refine bk rfl av (AK.bm rfl ?_);rw[b6] at a;simp[ag.cat,ag,a]
def Us:dG X 146 (jX aS (λs=>dB (b7 s)) λ_=>[]):=.oi λk _=>B6 k
abbrev tb1:List (Nat×dh):=[(41,jX aI (λk=>dB (ck k)) λ_=>[]),(146,jX aS (λs=>dB (b7 s)) λ_=>[])]
def XO:bC X tb1:=.cons t41 (.cons Us .nil)
def B7(p:Bs):Ev X 218 [dS p] [] (dB (bH p)) []:=by
 refine Ev.bQ Tryz.func218 rfl λc=>?_
 by_cases a:1<=p.length
 .by_cases b:p.length<=8
  .refine aD XO [(5,ab),(9,ab),(11,ab)] 100 rfl ?_ (AK.bm rfl ?_)
   .simp[ag];omega
   .simp[ag,bH,a,b]
  .refine aD XO [(5,ab),(9,ae),(11,ae)] 100 rfl ?_ (AK.bm rfl ?_)
   .simp[ag];omega
   .simp[ag,bH,a,b]
 .refine aD XO [(5,ae),(11,ae)] 100 rfl ?_ (AK.bm rfl ?_)
  .simp[ag];omega
  .simp[ag,bH,a]
def t218:dG X 218 (jX aS (λs=>dB (bH s)) λ_=>[]):=.oi λk _=>B7 k
def B8(n:Nat)(h:n<=4000000):Ev X 239 [dI n] [] (dI (cD n)) []:=by
 refine Ev.bQ Tryz.func239 rfl λd=>?_
 by_cases c:n<1
 .refine aX [(5,ab),(9,ab)] 100 rfl ?_ (AK.bm rfl ?_)
  .simp[ag];omega
  .simp[ag,cD,c]
 .by_cases b:8<n
  .refine aX [(5,ae),(8,ab)] 100 rfl ?_ (AK.bm rfl ?_)
   .simp[ag];omega
   .simp[ag,cD,b]
  .refine aX [(5,ae),(8,ae)] 100 rfl ?_ ?_
   .simp[ag];omega
   have e:cD n=2∨cD n=4∨cD n=8:=by unfold cD;grind
   refine AK.wc (λi:Nat=>(i=2∨i=4∨i=8)/\i<=cD n) (λi:Nat=>[(0,dI n),(3,dI i)]) (λ_=>[]) (λi=>8-i) 2 rfl (by simp[ag.cat,ag]) ⟨by simp,by omega⟩ rfl ?_
   rintro i ⟨hi,a⟩
   by_cases h:i<n
   .refine aX [(12,ab)] 100 rfl ?_ (AK.again (2*i) rfl ?_ ?_ ?_ rfl)
    .simp[ag,bu];omega
    .simp[ag.cat,ag];omega
    .unfold cD at a ⊢
     grind
    .omega
   .refine aX [(12,ae)] 100 rfl (by simp[ag];omega) (AK.leave rfl rfl ?_)
    refine bk rfl av (AK.bm rfl ?_);have:i=cD n:=by
     unfold cD at a ⊢
     grind
    simp[ag.cat,ag,this]
theorem Eb(s:Bs)(b:UInt8):strip (s++[b])=if b=46 then strip s else s++[b]:=by
 unfold strip
 grind [List.dropWhile_cons]
def wA{s:Bs}{n:Nat}(h:n<s.length):strip (s.take (n+1))=if s.getD n 0=46 then strip (s.take n) else s.take (n+1):=by
 grind [List.take_add_one,Eb]
theorem B9(s:Bs):Ev X 234 [dS s,dU 46] [] (dS (strip s)) []:=by
 refine Ev.bQ Tryz.func234 rfl λi=>?_
 have h:=i.str 0 rfl;refine bk rfl av ?_;refine AK.wc (λn=>n<=s.length/\strip (s.take n)=strip s) (λn:Nat=>[(0,dS (s.take n)),(1,dU 46)]) (λ_=>[]) (λn=>n) s.length rfl (by simp[ag.cat,ag]) ⟨by omega,by simp⟩ rfl ?_
 rintro n ⟨k,a⟩;cases n with
 |zero =>
  refine aX [(7,ae),(16,ae)] 100 rfl ?_ (AK.leave rfl rfl ?_)
  .simp[ag]
  refine bk rfl av (AK.bm rfl ?_);have:strip s=[]:=by rw[<-a];rfl
  simp[ag.cat,ag,this]
 |succ n =>
  have g:(s.take (n+1)).length=n+1:=by grind
  have f:cz (s.take (n+1)) n=cz s n:=by simp[cz,ai,gO]
  have j:=wA (s:=s) (n:=n) (by omega)
  have b:((n:Int)+1-1).toNat=n:=by omega
  by_cases d:s.getD n 0=46
  .refine aX [(7,ab),(15,ab),(16,ab)] 100 rfl ?_ (AK.again n rfl ?_ ?_ ?_ rfl)
   .have c:cz s n=46:=by unfold cz;rw[d];rfl
    simp[-ai,-List.length_take,ag,g,cy,b,f,c,bu];omega
   .simp[ag.cat,ag];show (s.take (n+1)).take _=_
    grind
   .grind
   .omega
  .refine aX [(7,ab),(15,ae),(16,ae)] 100 rfl ?_ (AK.leave rfl rfl ?_)
   .have c:cz s n≠46:=by
     unfold cz;intro e;exact d (pG.1 (by grind))
    simp[-ai,-List.length_take,ag,g,cy,b,f,c,bu];omega
   refine bk rfl av (AK.bm rfl ?_);rw[j,aY d] at a;simp[ag.cat,ag,a]
def Ut:dh:=λargs σ=>match args,σ with
 |[.e (.one (.c (.str s))),.e (.one (.c (.int .u8 46)))],[]=>aa (dS (strip s),[],[])
 |_,_=>af
def t234:dG X 234 Ut:=by
 intro args σ res σ' obs h _;unfold Ut at h
 grind [B9]
theorem N5(s:Bs):Ev X 217 [dS s,dS [46]] [] (dS (strip s)) []:=by
 refine Ev.bQ Tryz.func217 rfl λb=>?_
 by_cases h:s=[]
 .subst h;refine aD (bC.cons t234 .nil) [(8,ab),(12,ab)] 100 rfl ?_ (AK.bm rfl ?_)
  .simp[ag]
  .simp[ag,strip]
 .refine aD (bC.cons t234 .nil) [(8,ae),(11,ae),(12,ae),(16,ab),(20,ab),(21,ab)] 100 rfl ?_ (AK.bm rfl ?_)
  .cases s with
   |nil=>grind
   |cons a r=>simp[ag];decide
  .simp[ag]
def Rr:dh:=λargs σ=>match args,σ with
 |[.e (.one (.c (.str s))),.e (.one (.c (.str [46])))],[]=>aa (dS (strip s),[],[])
 |_,_=>af
def t217:dG X 217 Rr:=by
 intro args σ res σ' obs h _;unfold Rr at h
 grind [N5]
end
end Go.AM.R1
