/- Part 2. No condition. -/
import Derived.Test.YtemefbgdmkionaaGreatDoorA1
import Derived.Test.YtemefbgdmkionaaGreatDoorProg
import Derived.MapKept
import Derived.Maps.RangeRun
import Derived.Laws.MakeOwn
import Derived.Lib.SliceRun
import Derived.Sort.AssemblyPlain
set_option linter.all false
set_option maxHeartbeats 8000000
open Go renaming Value → ak
open Option renaming some → aa
open Go renaming Program → aq
open Go renaming TypeId → ar
open Bool renaming true → ab
open Go renaming Goroutine → au
open Go renaming Frame → aO
open Go renaming Oper → aw
open Go renaming FuncId → aV
open Go.Region renaming wanted → bj
open Go renaming execOp → ay
open Go renaming Operand → an
open Option renaming none → af
open Bool renaming false → ae
open Go renaming undef → aj
open Go.World renaming cell? → aZ
open List renaming getD_eq_getElem?_getD → ai
open Go.Sem renaming events_bind → aP
open Go.Result renaming evThen_ok → aU
open Go renaming World → az
open List renaming range → bh
open Nat renaming beq → aA
open Nat renaming ble → bq
open Go.Op renaming bytesLess → bk
open Go.Proofs.Tryz renaming prog → ah
open Go.TypeDesc renaming struct → bn
namespace Go.AM
section
open Go.Conc (G)
section drop
variable {σ1 rest:List aW}{s:St}
def St.cut(s:St)(n:Nat):St:={ s with β:=s.β.take n }
def gu.drop{v:ak}{a:A}(r:gu (σ1++rest) s v a)(d:GG σ1.length a=ab):gu σ1 (s.cut σ1.length) v a:=by
 have lt:∀ {l:Nat},bq (l+1) σ1.length=ab->l<σ1.length:=λh=>c7 h
 cases a with
 |c x=>exact r
 |any=>exact r
 |ptr l o =>
  have hl:=lt d;obtain⟨g,L,b,i,f⟩:=r;refine⟨λB m=>g B (by grind),L,b,?_,f⟩
  simp only[St.cut,gQ,hl,cj];exact i
 |ref l =>
  have hl:=lt d;obtain⟨g,L,i,f⟩:=r;refine⟨λB m=>g B (by grind),L,?_,f⟩
  simp only[St.cut,gQ,hl,cj];exact i
 |bp l w =>
  have hl:=lt d;obtain⟨lv,g,_,f⟩:=r;refine⟨lv,g,hl,λE k' n' es' m=>?_⟩
  obtain⟨h1,h2⟩:=f E k' n' es' (by grind)
  refine⟨h1,λe=>?_⟩
  obtain⟨L,p,j⟩:=h2 e;refine⟨L,?_,j⟩;simp only[St.cut,gQ,hl,cj];exact p
 |vec l k n es =>
  have hl:=lt d;obtain⟨g,_,f⟩:=r;refine⟨g,hl,λE k' n' es' m=>?_⟩
  obtain⟨h1,h2⟩:=f E k' n' es' (by grind)
  refine⟨h1,λe=>?_⟩
  obtain⟨L,p,j⟩:=h2 e;refine⟨L,?_,j⟩;simp only[St.cut,gQ,hl,cj];exact p
def dG.xE:∀ {vs:List ak}{cs:List A},dG (σ1++rest) s vs cs->GH σ1.length cs=ab->dG σ1 (s.cut σ1.length) vs cs
 |[],[],_,_=>trivial
 |[],_::_,r,_=>r.elim
 |_::_,[],r,_=>r.elim
 |v::vs,c::cs,r,h=>by
  simp only[GH] at h;cases a:GG σ1.length c with
  |false=>simp[a] at h
  |true=>simp only[a] at h;exact⟨r.1.drop a,dG.xE r.2 h⟩
def ma.xE{v:ak}{e:E1}(r:ma (σ1++rest) s v e)(h:Je σ1.length e=ab):ma σ1 (s.cut σ1.length) v e:=by
 cases e with
 |one a=>exact gu.drop r h
 |agg cs=>obtain⟨vs,h1,h2⟩:=r;exact⟨vs,h1,dG.xE h2 h⟩
def gD.xE:∀ {vs:List ak}{cs:List E1},gD (σ1++rest) s vs cs->xx σ1.length cs=ab->gD σ1 (s.cut σ1.length) vs cs
 |[],[],_,_=>trivial
 |[],_::_,r,_=>r.elim
 |_::_,[],r,_=>r.elim
 |v::vs,c::cs,r,h=>by
  simp only[xx] at h;cases a:Je σ1.length c with
  |false=>simp[a] at h
  |true=>simp only[a] at h;exact⟨ma.xE r.1 a,gD.xE r.2 h⟩
def c8.drop{v:ak}{d:D}(r:c8 (σ1++rest) s v d)(h:uw σ1.length d=ab):c8 σ1 (s.cut σ1.length) v d:=by
 cases d with
 |e x=>exact ma.xE r h
 |eN xs=>obtain⟨vs,h1,h2⟩:=r;exact⟨vs,h1,gD.xE h2 h⟩
 |any=>trivial
def cw.drop{σ0:List aW}{s0:St}(st:cw σ0 s0 (σ1++rest) s)(c:σ0.length<=σ1.length):cw σ0 s0 σ1 (s.cut σ1.length):=by
 refine⟨st.size,st.eB,st.mem,st.jk,λL a b hb=>st.uo L (iI a) b hb,?_,st.os,st.tape,st.output,st.own⟩
 intro l B L d a;obtain⟨B',L',h1,h2,e⟩:=st.box l B L d a;have hl:l<σ1.length:=cC (cg.1 d).1 c;rw[jf hl] at h1;exact⟨B',L',h1,by simp only[St.cut,gQ,hl,cj];exact h2,e⟩
def gu.rO{σ:List aW}{v:ak}{a:A}(hl:s.β.length=σ.length)(r:gu σ s v a):GG σ.length a=ab:=by
 have ok:∀ {l:Nat},l<σ.length->bq (l+1) σ.length=ab:=λh=>qU h
 have lt:∀ {l:Nat} {L:Loc},s.β[l]?=aa L->l<σ.length:=λh=>by grind
 cases a with
 |c x=>rfl
 |any=>rfl
 |ptr l o=>obtain⟨_,L,b,d,_⟩:=r;exact ok (lt d)
 |ref l=>obtain⟨_,L,d,_⟩:=r;exact ok (lt d)
 |bp l w=>obtain⟨lv,_,h,_⟩:=r;exact ok h
 |vec l k n es=>exact ok r.2.1
def dG.rO{σ:List aW}(hl:s.β.length=σ.length):∀ {vs:List ak}{cs:List A},dG σ s vs cs->GH σ.length cs=ab
 |[],[],_=>rfl
 |[],_::_,r=>r.elim
 |_::_,[],r=>r.elim
 |v::vs,c::cs,r=>by simp only[GH,r.1.rO hl];exact dG.rO hl r.2
def ma.rO{σ:List aW}(hl:s.β.length=σ.length){v:ak}{e:E1}(r:ma σ s v e):Je σ.length e=ab:=by
 cases e with
 |one a=>exact gu.rO hl r
 |agg cs=>obtain⟨vs,_,h⟩:=r;exact dG.rO hl h
def gD.rO{σ:List aW}(hl:s.β.length=σ.length):∀ {vs:List ak}{cs:List E1},gD σ s vs cs->xx σ.length cs=ab
 |[],[],_=>rfl
 |[],_::_,r=>r.elim
 |_::_,[],r=>r.elim
 |v::vs,c::cs,r=>by simp only[xx,ma.rO hl r.1];exact gD.rO hl r.2
def c8.rO{σ:List aW}(hl:s.β.length=σ.length){v:ak}{d:D}(r:c8 σ s v d):uw σ.length d=ab:=by
 cases d with
 |e x=>exact ma.rO hl r
 |eN xs=>obtain⟨vs,_,h⟩:=r;exact gD.rO hl h
 |any=>rfl
def aJ.T1{s0:St}(i:aJ σ1 s0)(h:aJ (σ1++rest) s):aJ σ1 (s.cut σ1.length):=by
 have hl:σ1.length<=s.β.length:=by rw[h.len];simp
 refine⟨h.mem,by simp[St.cut,hl],?_,?_,?_,λb hb=>⟨(h.own b hb).1,λL c=>(h.own b hb).2 L (iI c)⟩⟩
 .intro l B L p c;have f:l<σ1.length:=(cg.1 p).1;simp only[St.cut,gQ,f,cj] at c;have a:=h.box l B L (by grind) c
  have e:∃ m,s0.β[l]?=aa m:=⟨_,bl (by rw[i.len];exact f)⟩
  obtain⟨m,e⟩:=e;have g:=i.box l B m p e;cases B with
  |cells E cs =>
   obtain⟨b,vs,h1,h2,o,j⟩:=a;obtain⟨_,_,_,_,g3,_⟩:=g;exact⟨b,vs,h1,h2,dG.xE o (g3.rO i.len),j⟩
  |vec E k n es=>exact a
  |dz H=>exact a
  |dead=>trivial
  |loop N φ r =>
   obtain⟨l',tmps,fn,q,h1,h2,o,j,u⟩:=a;obtain⟨_,_,_,_,_,_,_,g4,_⟩:=g;exact⟨l',tmps,fn,q,h1,h2,o,λt=>(j t).drop ((g4 t).rO i.len),u⟩
  |rq=>exact a
  |buf E k n es=>exact a
 .intro l l' L L' c d b hb rl;simp only[St.cut,gQ] at c d;split at c <;> split at d <;> first|exact h.fT l l' L L' c d b hb rl|(cases c;done)|(cases d;done)
 .intro L c b hb;exact h.lt L (iI c) b hb
def OA.Bq{P:aq}{X:Cx P}{N:Nat}{all:List aw}{o:aw}{φ:Fr}{σ:List aW}{E:ar}{k n:Nat}{es:Nat->List C}(h:OA X N all o φ σ (.e (.one (.vec σ.length k n es))) (σ++[.vec E k n es])):OA X N all o φ σ (.e (.one (.c (.sl ae k n es)))) σ:=by
 intro s a f hh b kk cs S i rest hb hi hK;refine h s a f hh b kk cs S i rest hb hi λv s' hv ld st=>?_
 have d:eK s' (s'.cut σ.length):=⟨rfl,λ_ _ _ h=>h,λ_ _ _=>rfl,ld.mem,λb hb=>hb.imp id λ⟨L,g,hb⟩=>⟨L,iI g,hb⟩⟩
 exact .ghost d (hK v (s'.cut σ.length) hv.1 (hh.T1 ld) (st.drop (bc _)))
end drop
end
section force
variable {p:Type}
def vN:C->(C->Option p)->Option p
 |.int k n,q=>q (.int k n)
 |.bool b,q=>q (.bool b)
 |.str s,q=>q (.str s)
 |.sl ab k n es,q=>q (.sl ab k n es)
 |.sl ae k n es,q=>q (.sl ae k n es)
 |.rp cs,q=>dc cs λcs=>q (.rp cs)
 |.Ji t cs,q=>dc cs λcs=>q (.Ji t cs)
 |.fn f a b,q=>dc a λa=>dc b λb=>q (.fn f a b)
 |c,q=>q c
def GI(c:C)(q:C->Option p):vN c q=q c:=by
 cases c with
 |sl t=>cases t <;> rfl
 |rp cs=>simp[vN,cR]
 |Ji t cs=>simp[vN,cR]
 |fn f a b=>simp[vN,cR]
 |_=>rfl
def vO:A->(A->Option p)->Option p
 |.c x,q=>vN x λx=>q (.c x)
 |.ptr l o,q=>q (.ptr l o)
 |.vec l k n es,q=>q (.vec l k n es)
 |.ref l,q=>q (.ref l)
 |.bp l (.sl g k o n),q=>q (.bp l (.sl g k o n))
 |.bp l (.el g k i f),q=>q (.bp l (.el g k i f))
 |.any,q=>q .any
def yd(a:A)(q:A->Option p):vO a q=q a:=by
 cases a with
 |bp l w=>cases w <;> simp[vO]
 |_=>simp[vO,GI]
def u7:List A->(List A->Option p)->Option p
 |[],q=>q []
 |a::r,q=>vO a λa=>u7 r λr=>q (a::r)
def DJ(l:List A)(q:List A->Option p):u7 l q=q l:=by
 induction l generalizing q with
 |nil=>rfl
 |cons a r b=>simp[u7,yd,b]
def zD:E1->(E1->Option p)->Option p
 |.one a,q=>vO a λa=>q (.one a)
 |.agg cs,q=>u7 cs λcs=>q (.agg cs)
def ye(a:E1)(q:E1->Option p):zD a q=q a:=by cases a <;> simp[zD,yd,DJ]
def u9:List E1->(List E1->Option p)->Option p
 |[],q=>q []
 |a::r,q=>zD a λa=>u9 r λr=>q (a::r)
def DK(l:List E1)(q:List E1->Option p):u9 l q=q l:=by
 induction l generalizing q with
 |nil=>rfl
 |cons a r b=>simp[u9,ye,b]
def nZ:D->(D->Option p)->Option p
 |.e x,q=>zD x λx=>q (.e x)
 |.eN xs,q=>u9 xs λxs=>q (.eN xs)
 |.any,q=>q .any
def nb(a:D)(q:D->Option p):nZ a q=q a:=by cases a <;> simp[nZ,ye,DK]
end force
def xF:D->Option (Bool×Nat×Nat×(Nat->List C))
 |.e (.one (.c (.sl t k n es)))=>aa (t,k,n,es)
 |.e (.one (.vec _ k n es))=>aa (ae,k,n,es)
 |_=>af
def my{d:D}{t:Bool}{k n:Nat}{es:Nat->List C}(h:xF d=aa (t,k,n,es))(σ:List aW)(s:St)(v:ak)(r:c8 σ s v d):Rd s.M v (.sl t k n es):=by
 unfold xF at h;split at h
 .cases h;exact r
 .cases h;exact r.1
 .cases h
def iO(l:List UInt8) (j:Int):UInt8:=l.getD j.toNat 0
def Qp(T:List (Nat×TI))(t:ar)(d:D):Option D :=
 match bA T t with
 |none=>af
 |some i=>match i.desc with
  |.slice _=>match xF d with
   |some (_,_,n,_)=>aa (.e (.one (.c (.int .i64 n))))
   |none=>af
  |.string=>match d with
   |.e (.one (.c (.str s)))=>aa (.e (.one (.c (.int .i64 s.length))))
   |_=>af
  |_=>af
def Jv(T:List (Nat×TI))(a b:ar)(d:D):Option (D×List Prop) :=
 match bA T a with
 |none=>af
 |some i1=>match bA T b with
  |none=>af
  |some i2=>match i2.desc with
   |.int k'=>match d with
    |.e (.one (.c (.int _ j)))=>aa (.e (.one (.c (.int k' j))),[bx k' j])
    |_=>af
   |.string=>match d with
    |.e (.one (.c (.str s)))=>aa (.e (.one (.c (.str s))),[])
    |d=>match i1.desc with
     |.slice E=>match bA T E with
      |some ie=>match ie.desc with
       |.int .u8=>match xF d with
        |some (_,k,n,es)=>match aA k 1 with
         |true=>match vP es 0 n with
          |some r=>aa (.e (.one (.c (.str r))),[])
          |none=>af
         |false=>af
        |none=>af
       |_=>af
      |none=>af
     |_=>af
   |_=>af
def DL(T:List (Nat×TI))(a:an->D)(t:ar)(x:an)(lo hi:Option an):Option (D×List Prop) :=
 match bA T t with
 |none=>af
 |some i=>match uA a lo with
  |none=>af
  |some l=>match uA a hi with
   |none=>af
   |some u=>match i.desc with
    |.string=>match a x with
     |.e (.one (.c (.str s)))=>aa (.e (.one (.c (.str (rP s l u)))),iN s.length l u)
     |_=>af
    |.slice E=>match bA T E with
     |none=>af
     |some ie=>match xF (a x) with
      |some (tt,k,n,es)=>match aA k ie.size with
       |true=>aa (.e (.one (.c (.sl (Nf tt u) ie.size (cn n u-cn 0 l) (jJ (cn 0 l) es)))),iN n l u)
       |false=>af
      |none=>af
    |_=>af
def yf(op:BinOp)(k:IntKind) (a:Int)(k':IntKind) (b:Int):Option (D×List Prop) :=
 match Bd op k a k' b with
 |some (c,obs)=>aa (.e (.one (.c (.int k c))),obs)
 |none=>af
def rQ{op:BinOp}{k k':IntKind}{a b:Int}{d:D}{obs:List Prop}(h:yf op k a k' b=aa (d,obs)):∃ c,d=.e (.one (.c (.int k c)))/\Bd op k a k' b=aa (c,obs):=by
 unfold yf at h
 grind
def Po(T:List (Nat×TI))(op:BinOp)(t:ar)(x y:D):Option (D×List Prop) :=
 match x,y with
 |.e (.one (.c (.bool a))),.e (.one (.c (.bool b)))=>match bA T t with
  |some i=>match i.desc with
   |.bool=>match lP op (a==b) with
    |some c=>aa (.e (.one (.c (.bool c))),[])
    |none=>af
   |_=>af
  |none=>af
 |.e (.one (.c a)),.e (.one (.c b))=>match op with
  |.xor=>match a,b with
   |.int .i64 a,.int .i64 b=>aa (.e (.one (.c (.int .i64 ((a.toNat ^^^ b.toNat:Nat):Int)))),[0<=a,0<=b])
   |.int .u64 a,.int k' b=>yf .xor .u64 a k' b
   |_,_=>af
  |.shl=>match a,b with
   |.int k a,.int k' b=>yf .shl k a k' b
   |_,_=>af
  |.shr=>match a,b with
   |.int k a,.int k' b=>yf .shr k a k' b
   |_,_=>af
  |.and=>match a,b with
   |.int k a,.int k' b=>yf .and k a k' b
   |_,_=>af
  |_=>match Ng op a b with
   |some (c,obs)=>aa (.e (.one (.c c)),obs)
   |none=>af
 |.e (.agg cs),.e (.agg es)=>match bA T t with
  |some i=>match i.eq with
   |[]=>af
   |d::ds=>match Pp (d::ds) cs es with
    |some b=>match lP op b with
     |some c=>aa (.e (.one (.c (.bool c))),[])
     |none=>af
    |none=>af
  |none=>af
 |_,_=>af
def V8(T:List (Nat×TI))(CT:List (Nat×dg))(φ:Fr)(o:aw):Option (D×List Prop) :=
 match o.op with
 |.move x|.assign x=>aa (bX φ x,[])
 |.index t x y=>match bA T t with
  |some i=>match i.desc with
   |.string=>match bX φ x,bX φ y with
    |.e (.one (.c (.str l))),.e (.one (.c (.int _ j)))=>aa (.e (.one (.c (.int .u8 (iO l j).toNat))),[0<=j,j<l.length])
    |_,_=>af
   |_=>af
  |none=>af
 |.indexAddr t x y=>match bA T t with
  |some i=>match i.desc with
   |.slice E=>match bA T E with
    |some ie=>match xF (bX φ x),bX φ y with
     |some (_,k,n,es),.e (.one (.c (.int _ j)))=>match aA k ie.size with
      |true=>aa (.e (.one (.c (.rp (es j.toNat)))),[0<=j,j<n])
      |false=>af
     |_,_=>af
    |none=>af
   |_=>af
  |none=>af
 |.slice t x lo hi af=>DL T (bX φ) t x lo hi
 |.convert src dst x=>Jv T src dst (bX φ x)
 |.call c=>match c.callee with
  |.builtin .len=>match c.args.toList,c.argTypes[0]? with
   |[x],aa t=>match Qp T t (bX φ x) with
    |some d=>aa (d,[])
    |none=>af
   |_,_=>af
  |.value fo=>Bu CT φ fo c.args.toList
  |_=>af
 |.pick c a b=>match bX φ c with
  |.e (.one (.c (.bool ab)))=>aa (bX φ a,[])
  |.e (.one (.c (.bool ae)))=>aa (bX φ b,[])
  |_=>af
 |.binOp op t x y _=>Po T op t (bX φ x) (bX φ y)
 |.unOp op _ x=>match bX φ x with
  |.e (.one (.c a))=>match V9 op a with
   |some c=>aa (.e (.one (.c c)),[])
   |none=>af
  |_=>af
 |.extract x j=>match bX φ x with
  |.eN xs=>match fA j xs with
   |some e=>aa (.e e,[])
   |none=>af
  |_=>af
 |.fieldAddr t x f=>match jK T t f with
  |some (k,_)=>match bX φ x with
   |.e (.one (.ptr l off))=>aa (.e (.one (.ptr l (off+k))),[])
   |.e (.one (.c (.rp cs)))=>aa (.e (.one (.c (.rp (hX k cs)))),[])
   |_=>af
  |none=>af
 |.field t x f=>match jK T t f with
  |some (k,j)=>match bX φ x with
   |.e (.agg cs)=>match m9 j (hX k cs) with
    |some e=>aa (.e e,[])
    |none=>af
   |_=>af
  |none=>af
 |.nilCheck x=>match bX φ x with
  |.e (.one (.ptr l off))=>aa (.e (.one (.ptr l off)),[])
  |.e (.one (.c (.rp cs)))=>aa (.e (.one (.c (.rp cs))),[])
  |_=>af
 |.build t parts=>match zE T (bX φ) t parts.toList with
  |some cs=>aa (.e (.agg cs),[])
  |none=>af
 |.buildSlice t n parts=>match Dv T (bX φ) t n parts.toList with
  |some (k,es)=>aa (.e (.one (.c (.sl ab k n λi=>es.getD i []))),[])
  |none=>af
 |.makeFunc fn a b=>match vQ (bX φ) a.toList with
  |some ca=>match vQ (bX φ) b.toList with
   |some cb=>aa (.e (.one (.c (.fn fn ca cb))),[])
   |none=>af
  |none=>af
 |.makeInterface t x=>match bA T t with
  |some i=>match rR i.desc with
   |false=>match va t (bX φ x) with
    |some c=>aa (.e (.one (.c c)),[])
    |none=>af
   |true=>af
  |none=>af
 |.typeAssert x _ t ab=>match bA T t with
  |some i=>match rR i.desc with
   |false=>match bX φ x with
    |.e (.one (.c c))=>match pR t i c with
     |some (e,b)=>aa (.eN [e,.one (.c (.bool b))],[])
     |none=>af
    |_=>af
   |true=>af
  |none=>af
 |_=>af
def Jn(T:List (Nat×TI))(φ:Fr)(σ:List aW)(t:ar)(x:an):Option D :=
 match bA T t with
 |some i=>match bX φ x with
  |.e (.one (.ptr l off))=>match fA l σ with
   |some (.cells _ cs)=>match m9 i (hX off cs) with
    |some e=>aa (.e e)
    |none=>af
   |_=>af
  |.e (.one (.c (.rp cs)))=>match m9 i (cs.map A.c) with
   |some e=>aa (.e e)
   |none=>af
  |_=>af
 |none=>af
def Xk(T:List (Nat×TI))(φ:Fr)(o:aw):Option (D×List Prop) :=
 match o.op with
 |.indexAddr t x y=>match bA T t with
  |some i=>match i.desc with
   |.slice E=>match bA T E with
    |some ie=>match bX φ x,bX φ y with
     |.e (.one (.bp l (.sl g k q m))),.e (.one (.c (.int _ j)))=>match aA k ie.size with
      |true=>aa (.e (.one (.bp l (.el g ie.size (q+j.toNat) 0))),[0<=j,j<m])
      |false=>af
     |.e (.one (.c (.val (.slice (aa ⟨b,off,af⟩) n _)))),.e (.one (.c (.int _ j)))=>aa (.e (.one (.c (.val (.pointer (aa ⟨b,off+j.toNat*ie.size,af⟩))))),[0<=j,j<n])
     |_,_=>af
    |none=>af
   |_=>af
  |none=>af
 |.fieldAddr t x f=>match jK T t f with
  |some (k,_)=>match bX φ x with
   |.e (.one (.bp l (.el g a i q)))=>aa (.e (.one (.bp l (.el g a i (q+k)))),[])
   |.e (.one (.c (.val (.pointer (aa ⟨b,off,af⟩)))))=>aa (.e (.one (.c (.val (.pointer (aa ⟨b,off+k,af⟩))))),[])
   |_=>af
  |none=>af
 |.nilCheck x=>match bX φ x with
  |.e (.one (.bp l (.el g a i q)))=>aa (.e (.one (.bp l (.el g a i q))),[])
  |_=>af
 |.slice t x lo hi af=>match bA T t with
  |none=>af
  |some i=>match uA (bX φ) lo with
   |none=>af
   |some lw=>match uA (bX φ) hi with
    |none=>af
    |some u=>match i.desc with
     |.slice E=>match bA T E with
      |none=>af
      |some ie=>match bX φ x with
       |.e (.one (.bp l (.sl g k q m)))=>match aA k ie.size with
        |true=>aa (.e (.one (.bp l (.sl g ie.size (q+cn 0 lw) (cn m u-cn 0 lw)))),iN m lw u)
        |false=>af
       |_=>af
     |_=>af
 |.slice t x af (aa y) (aa z)=>match bA T t with
  |none=>af
  |some i=>match i.desc with
   |.slice E=>match bA T E with
    |none=>af
    |some _=>match xF (bX φ x),bX φ y,bX φ z with
     |some (_,k,n,es),.e (.one (.c (.int _ j))),.e (.one (.c (.int _ m)))=>aa (.e (.one (.c (.sl ae k j.toNat es))),[0<=j,j<=m,m<=n])
     |_,_,_=>af
   |_=>af
 |.slice t x (aa w) (aa y) (aa z)=>match bA T t with
  |none=>af
  |some i=>match i.desc with
   |.slice E=>match bA T E with
    |none=>af
    |some _=>match bX φ x,bX φ w,bX φ y,bX φ z with
     |.e (.one (.bp _ (.sl _ _ _ n))),.e (.one (.c (.int _ i))),.e (.one (.c (.int _ j))),.e (.one (.c (.int _ m)))=>aa (.e (.one .any),[0<=i,i<=j,j<=m,m<=n])
     |_,_,_,_=>af
   |_=>af
 |.call c=>match c.callee with
  |.builtin .len=>match c.args.toList,c.argTypes[0]? with
   |[x],aa t=>match bA T t with
    |some i=>match i.desc with
     |.slice _=>match bX φ x with
      |.e (.one (.bp _ (.sl _ _ _ m)))=>aa (.e (.one (.c (.int .i64 m))),[])
      |.e (.one (.c (.val (.slice _ n _))))=>aa (.e (.one (.c (.int .i64 n))),[n<=9223372036854775807])
      |_=>af
     |_=>af
    |none=>af
   |_,_=>af
  |_=>af
 |_=>af
def zA(T:List (Nat×TI))(φ:Fr)(σ:List aW)(t:ar)(x:an):Option (D×List Prop) :=
 match bA T t with
 |some it=>match bX φ x with
  |.e (.one (.bp l (.el g k i f)))=>match fA l σ with
   |some (.buf _ k' n es)=>match aA k' k with
    |true=>match m9 it ((hX f (es i)).map A.c) with
     |some e=>aa (.e e,[g=n,i<n])
     |none=>af
    |false=>af
   |_=>af
  |_=>af
 |none=>af
def Jw:Nat->List C->Nat->Bool
 |0,cc,k=>aA cc.length k
 |_+1,_,_=>ae
def zF(T:List (Nat×TI))(φ:Fr)(σ:List aW)(t:ar)(x y:an):Option (D×List aW×List Prop) :=
 match bA T t with
 |some it=>match bX φ x with
  |.e (.one (.bp l (.el g k i f)))=>match fA l σ with
   |some (.buf E k' n es)=>match aA k' k with
    |true=>match mU (bX φ y) with
     |some new=>match aA new.length it.size with
      |true=>match gC new with
       |some cc=>match Jw f cc k with
        |true=>dc (dZ.sM l (.buf E k' n (ni i cc es)) σ) λσ'=>aa (.any,σ',[g=n,i<n])
        |false=>match eR f cc (es i) with
         |some ci=>dc (dZ.sM l (.buf E k' n (ni i ci es)) σ) λσ'=>aa (.any,σ',[g=n,i<n])
         |none=>af
       |none=>af
      |false=>af
     |none=>af
    |false=>af
   |_=>af
  |_=>af
 |none=>af
def Nb(T:List (Nat×TI))(CT:List (Nat×dg))(φ:Fr)(σ:List aW)(o:aw):Option (D×List Prop) :=
 match o.op with
 |.load t x=>match Jn T φ σ t x with
  |some d=>aa (d,[])
  |none=>zA T φ σ t x
 |_=>match V8 T CT φ o with
  |some r=>aa r
  |none=>Xk T φ o
def Qq(T:List (Nat×TI))(a:an->D)(σ:List aW)(x y:an)(t b:ar):Option (D×List aW×List Prop) :=
 match bA T t with
 |none=>af
 |some i=>match bA T b with
  |none=>af
  |some i2=>match i.desc with
   |.slice E=>match i2.desc with
    |.slice E2=>match aA E2 E with
     |false=>af
     |true=>match bA T E with
      |none=>af
      |some ie=>match bq 1 ie.bytes,bq 1 ie.size with
       |true,ab=>match xF (a y) with
        |none=>af
        |some (_,k',m,es')=>match aA k' ie.size with
         |false=>af
         |true=>match a x with
          |.e (.one (.c (.sl ab k n es)))=>match aA k ie.size with
           |true=>dc (σ++[.vec E ie.size (n+m) (cJ n es es')]) λσ'=>aa (.e (.one (.vec σ.length ie.size (n+m) (cJ n es es'))),σ',[(n+m)*ie.bytes<=140737488355328,n=0∨0<m])
           |false=>match aA n 0 with
            |true=>dc (σ++[.vec E ie.size (n+m) (cJ n es es')]) λσ'=>aa (.e (.one (.vec σ.length ie.size (n+m) (cJ n es es'))),σ',[(n+m)*ie.bytes<=140737488355328,n=0∨0<m])
            |false=>af
          |.e (.one (.vec l k n es))=>match fA l σ with
           |some (.vec E' k2 n2 P4)=>match aA E' E,aA k ie.size,aA k2 ie.size with
            |true,ab,ab=>dc (dZ.sM l (.vec E ie.size (n+m) (cJ n es es')) σ) λσ'=>aa (.e (.one (.vec l ie.size (n+m) (cJ n es es'))),σ',[n2=n,P4=es,(n+m)*ie.bytes<=140737488355328])
            |_,_,_=>af
           |_=>af
          |.e (.one (.bp l (.sl g k 0 n)))=>match fA l σ with
           |some (.buf E' k2 n2 P4)=>match aA E' E,aA k ie.size,aA k2 ie.size with
            |true,ab,ab=>dc (dZ.sM l (.buf E ie.size (n2+m) (cJ n2 P4 es')) σ) λσ'=>aa (.e (.one (.bp l (.sl (n2+m) ie.size 0 (n2+m)))),σ',[g=n2,n=n2,(n2+m)*ie.bytes<=140737488355328])
            |_,_,_=>af
           |_=>af
          |_=>af
       |_,_=>af
    |_=>af
   |_=>af
def Xl(T:List (Nat×TI))(CT:List (Nat×dg))(φ:Fr)(σ:List aW)(o:aw):Option (D×List aW×List Prop) :=
 match o.op with
 |.alloc _|.box _ _=>Wa T φ σ o
 |.store t x y=>match Wa T φ σ o with
  |some r=>aa r
  |none=>zF T φ σ t x y
 |.call c=>match c.callee with
  |.builtin .append=>match c.args.toList,c.argTypes.toList with
   |[x,y],[t,a]=>Qq T (bX φ) σ x y t a
   |_,_=>af
  |.value fo=>Jx CT φ σ fo c.args.toList
  |_=>af
 |_=>af
def Qs(T:List (Nat×TI))(a:an->D)(x y:an)(t b:ar):Option (D×List Prop) :=
 match bA T t with
 |none=>af
 |some i=>match bA T b with
  |none=>af
  |some i2=>match i.desc with
   |.slice E=>match i2.desc with
    |.slice E2=>match aA E2 E with
     |false=>af
     |true=>match bA T E with
      |none=>af
      |some ie=>match bq 1 ie.bytes,bq 1 ie.size with
       |true,ab=>match xF (a y) with
        |none=>af
        |some (_,k',m,es')=>match aA k' ie.size with
         |false=>af
         |true=>match a x with
          |.e (.one (.c (.sl ab k n es)))=>match aA n 0 with
           |true=>aa (.e (.one (.c (.sl ae ie.size (n+m) (cJ n es es')))),[(n+m)*ie.bytes<=140737488355328,n=0∨0<m])
           |false=>af
          |_=>af
       |_,_=>af
    |_=>af
   |_=>af
def Xm(T:List (Nat×TI))(φ:Fr)(o:aw):Option (D×List Prop) :=
 match o.op with
 |.call c=>match c.callee with
  |.builtin .append=>match c.args.toList,c.argTypes.toList with
   |[x,y],[t,a]=>Qs T (bX φ) x y t a
   |_,_=>af
  |_=>af
 |_=>af
def Bv:List (Nat×Bool)->Nat->Option Bool
 |[],_=>af
 |(i,b)::r,t=>match aA i t with|true=>aa b|false=>Bv r t
def W7(ds:List (Nat×Bool)):Option Nat->Bool
 |none=>ae
 |some t=>match Bv ds (2000000+t) with
  |some ab=>ab
  |_=>ae
def isW(ds:List (Nat×Bool)):Option Nat->Bool
 |none=>ae
 |some t=>match Bv ds (3000000+t) with
  |some ab=>ab
  |_=>ae
def appW(w:Bool)(T:List (Nat×TI))(a:an->D)(σ:List aW)(x y:an)(t b:ar):Option (D×List aW×List Prop) :=
 match bA T t with
 |none=>af
 |some i=>match bA T b with
  |none=>af
  |some i2=>match i.desc with
   |.slice E=>match i2.desc with
    |.slice E2=>match aA E2 E with
     |false=>af
     |true=>match bA T E with
      |none=>af
      |some ie=>match bq 1 ie.bytes,bq 1 ie.size with
       |true,ab=>match w with
        |true=>match xF (a y) with
         |none=>af
         |some (_,k',m,es')=>match aA k' ie.size with
          |false=>af
          |true=>match a x with
           |.e (.one (.c (.sl ab k n es)))=>match aA n 0 with
            |true=>dc (σ++[.buf E ie.size (0+m) (cJ 0 es es')]) λσ'=>aa (.e (.one (.bp σ.length (.sl (0+m) ie.size 0 (0+m)))),σ',[(0+m)*ie.bytes<=140737488355328])
            |false=>af
           |_=>af
        |false=>match a x,a y with
         |.e (.one (.bp l (.sl g k 0 i))),.e (.one (.bp l' (.sl g' k' j m)))=>match aA l' l with
          |false=>af
          |true=>match fA l σ with
           |some (.buf E' k2 n es)=>match aA E' E,aA k ie.size,aA k' ie.size,aA k2 ie.size with
            |true,ab,ab,ab=>dc (dZ.sM l (.buf E ie.size n (Gz i j m es)) σ) λσ'=>aa (.e (.one (.bp l (.sl n ie.size 0 (i+m)))),σ',[g=n,g'=n,i+m<=n,j+m<=n])
            |_,_,_,_=>af
           |_=>af
         |_,_=>af
       |_,_=>af
    |_=>af
   |_=>af
def Wb(w:Bool)(T:List (Nat×TI))(φ:Fr)(σ:List aW)(o:aw):Option (D×List aW×List Prop) :=
 match o.op with
 |.call c=>match c.callee with
  |.builtin .append=>match c.args.toList,c.argTypes.toList with
   |[x,y],[t,a]=>appW w T (bX φ) σ x y t a
   |_,_=>af
  |_=>af
 |_=>af
def TR(ds:List (Nat×Bool))(T:List (Nat×TI))(CT:List (Nat×dg))(φ:Fr)(σ:List aW)(o:aw):Option (D×List aW×List Prop) :=
 match isW ds o.dst with
 |true=>Wb ab T φ σ o
 |false=>match Xl T CT φ σ o with
  |some r=>aa r
  |none=>Wb ae T φ σ o
def Jt(ds:List (Nat×Bool))(d:Option Nat)(x:D)(obs:List Prop):Option (D×List Prop) :=
 match d with
 |none=>aa (x,obs)
 |some t=>match Bv ds t with
  |none=>aa (x,obs)
  |some b=>match x with
   |.e (.one (.c (.bool e)))=>aa (.e (.one (.c (.bool b))),kh obs [e=b])
   |_=>af
def Nh{ds:List (Nat×Bool)}{d:Option Nat}{x y:D}{obs DM:List Prop}(h:Jt ds d x obs=aa (y,DM))(a:ag DM):y=x/\ag obs:=by
 unfold Jt at h;split at h
 .grind
 .split at h
  .grind
  .split at h
   .cases h;rw[ag.cat] at a;have:_=_:=a.2
    grind
   .cases h
def Fw(T:List (Nat×TI))(CT:List (Nat×dg))(ds:List (Nat×Bool))(all:List aw)(φ:Fr)(σ:List aW)(o:aw):Option (D×Option (List aW)×List Prop) :=
 let go:Option (D×Option (List aW)×List Prop):=match Nb T CT φ σ o with
  |some (x,obs)=>match Jt ds o.dst x obs with
   |some (y,a)=>nZ y λy=>aa (y,af,a)
   |none=>af
  |none=>match W7 ds o.dst with
   |true=>match Xm T φ o with
    |some (x,obs)=>nZ x λx=>aa (x,af,obs)
    |none=>af
   |false=>match TR ds T CT φ σ o with
    |some (x,σ',obs)=>nZ x λx=>aa (x,aa σ',obs)
    |none=>af
 match o.guard with
 |none=>go
 |some (j,b)=>match zG φ all j with
  |some (aa b')=>match b,b' with
   |true,ab=>go
   |false,ae=>go
   |_,_=>aa (.eN [],af,[])
  |some af=>aa (.eN [],af,[])
  |none=>af
section
variable {P:aq}{X:Cx P}{T:List (Nat×TI)}{CT:List (Nat×dg)}{N:Nat}{all:List aw}{φ:Fr}{σ:List aW}{o:aw}
def Ni(u:db P T)(F:∀ σ s a,cp N σ s φ a->bj o (yielded all.toArray a.tmps)=ab){x y:an}{t e:ar}{d:D}{obs:List Prop}(z:o.op=.call { callee:=.builtin .append,args:=#[x,y],argTypes:=#[t,e] })
  (h:Qs T (bX φ) x y t e=aa (d,obs)) (b:ag obs):OA X N all o φ σ d σ:=by
 unfold Qs at h;split at h
 .cases h
 rename_i i hi
 split at h
 .cases h
 rename_i i2 Dp
 split at h
 case h_2=>cases h
 rename_i E A
 split at h
 case h_2=>cases h
 rename_i B w
 split at h
 .cases h
 rename_i g
 have I:=bT g;subst I;split at h
 .cases h
 rename_i C f
 split at h
 case h_2=>cases h
 rename_i l j
 have c:mj P o x y B C:=⟨⟨t,e,i,i2,z,u t i hi,A,u e i2 Dp,w⟩,u _ _ f,by have:=c7 l;omega,by have:=c7 j;omega⟩
 split at h
 .cases h
 rename_i tx k' m es' hy
 split at h
 .cases h
 rename_i r
 have G:=bT r;subst G;have q:=λs v=>my hy σ s v
 split at h
 .rename_i k n es hx
  split at h
  .rename_i H
   cases h;exact(OA.lF F (bF.oR c hx (.inr (bT H)) q b.1 b.2)).Bq
  .cases h
 .cases h
def Nj(L:db P T){Q:an->D}{x y:an}{t j:ar}{d:D}{σ':List aW}{obs:List Prop}(R:o.op=.call { callee:=.builtin .append,args:=#[x,y],argTypes:=#[t,j] })
  (h:Qq T Q σ x y t j=aa (d,σ',obs)) (a:ag obs):bF P o Q σ d σ':=by
 unfold Qq at h;split at h
 .cases h
 rename_i i hi
 split at h
 .cases h
 rename_i i2 Dp
 split at h
 case h_2=>cases h
 rename_i E S
 split at h
 case h_2=>cases h
 rename_i U O
 split at h
 .cases h
 rename_i u
 have eE:=bT u;subst eE;split at h
 .cases h
 rename_i Y r
 split at h
 case h_2=>cases h
 rename_i z w
 have b:mj P o x y U Y:=⟨⟨t,j,i,i2,R,L t i hi,S,L j i2 Dp,O⟩,L _ _ r,by have:=c7 z;omega,by have:=c7 w;omega⟩
 split at h
 .cases h
 rename_i tx k' m es' hy
 split at h
 .cases h
 rename_i K
 have ek:=bT K;subst ek;have c:=λs v=>my hy σ s v
 split at h
 .rename_i k n es hx
  split at h
  .rename_i V
   rw[cR] at h;cases h;exact bF.oR b hx (.inl (bT V)) c a.1 a.2
  .split at h
   .rename_i hn
    rw[cR] at h;cases h;exact bF.oR b hx (.inr (bT hn)) c a.1 a.2
   .cases h
 .rename_i l k n es hx
  split at h
  .rename_i W Z f e G
   split at h
   .rename_i C F H
    rw[cR,lx] at h;cases h;obtain⟨M,B,I⟩:f=n/\e=es/\_:=a;subst M;subst B;have A:=bT C;subst A;have q:=bT F;have J:=bT H;subst J;subst q;exact bF.GB b hx (dw G) c I
   .cases h
  .cases h
 .rename_i l g k n hx
  split at h
  .rename_i W Z f e G
   split at h
   .rename_i C F H
    rw[cR,lx] at h;cases h;obtain⟨M,B,I⟩:g=f/\n=f/\_:=a;subst M;subst B;have A:=bT C;subst A;have q:=bT F;have J:=bT H;subst J;subst q;exact bF.Nk b hx (dw G) c I
   .cases h
  .cases h
 .cases h
def Nl(f:db P T){c:an->D}{x:an}{a:Array ar}{t:ar}{d:D}(g:o.op=.call { callee:=.builtin .len,args:=#[x],argTypes:=a })(e:a[0]?=aa t)(h:Qp T t (c x)=aa d):bF P o c σ d σ:=by
 unfold Qp at h;split at h
 .cases h
 rename_i i hi
 split at h
 .rename_i E b
  split at h
  .rename_i tt k n es hs
   cases h;exact bF.T3 f g e hi b (λs v=>my hs σ s v)
  .cases h
 .rename_i b
  split at h
  .rename_i s hs
   cases h;exact bF.Qt f g e hi b hs
  .cases h
 .cases h
def Jy(l:db P T){t:an->D}{b a:ar}{x:an}{d:D}{obs:List Prop}(m:o.op=.convert b a x)(h:Jv T b a (t x)=aa (d,obs))(c:ag obs):bF P o t σ d σ:=by
 unfold Jv at h;split at h
 .cases h
 rename_i i hi
 split at h
 .cases h
 rename_i i2 Dp
 split at h
 .rename_i k' hd
  split at h
  .rename_i k j g
   cases h;exact bF.Nm l m hi Dp hd g c
  .cases h
 .rename_i hd
  split at h
  .rename_i s g
   cases h;exact bF.Nn l m hi Dp hd g
  .split at h
   .rename_i E q
    split at h
    .rename_i z y
     split at h
     .rename_i f
      split at h
      .rename_i tt k n es hs
       split at h
       .rename_i w
        have e:=bT w;subst e;split at h
        .rename_i r u
         cases h;exact bF.GJ l m hi Dp q hd y f (λs v=>my hs σ s v) u
        .cases h
       .cases h
      .cases h
     .cases h
    .cases h
   .cases h
 .cases h
def GK(j:db P T){g:an->D}{t:ar}{x:an}{lo hi:Option an}{d:D}{obs:List Prop}(m:o.op=.slice t x lo hi af)(h:DL T g t x lo hi=aa (d,obs))(a:ag obs):bF P o g σ d σ:=by
 unfold DL at h;split at h
 .cases h
 rename_i i b
 split at h
 .cases h
 rename_i l q
 split at h
 .cases h
 rename_i u f
 split at h
 .rename_i c
  split at h
  .rename_i s r
   cases h;exact bF.Jz j m b c r q f a
  .cases h
 .rename_i E c
  split at h
  .cases h
  rename_i z y
  split at h
  .rename_i tt k n es hs
   split at h
   .rename_i w
    cases h;have e:=bT w;subst e;exact bF.No j m b c y (λs v=>my hs σ s v) q f a
   .cases h
  .cases h
 .cases h
def vR{α:Type}{xs:Array α}{x:α}(h:xs.toList=[x]):xs=#[x]:=hO h
def nj{α:Type}{xs:Array α}{x y:α}(h:xs.toList=[x,y]):xs=#[x,y]:=hO h
def Qu(C:db P T)(O:bD X CT){d:D}{obs:List Prop}(h:V8 T CT φ o=aa (d,obs))(g:ag obs)(r:∀ σ s a,cp N σ s φ a->bj o (yielded all.toArray a.tmps)=ab):OA X N all o φ σ d σ:=by
 unfold V8 at h;split at h
 .rename_i x B;cases h;exact OA.lF r (bF.move B)
 .rename_i x B;cases h;exact OA.lF r (bF.assign B)
 .rename_i t x y B
  split at h
  .rename_i i hi
   split at h
   .rename_i G
    split at h
    .rename_i l k j w I
     cases h;obtain⟨S,V⟩:0<=j/\j<(l.length:Int):=g;have:=bF.JA (σ:=σ) (m:=j.toNat) C B hi G w I (by omega) (by omega)
     have e:iO l j=l[j.toNat]'(by omega):=by simp[iO,ai,bl (by omega:j.toNat<l.length)]
     rw[e];exact OA.lF r this
    .cases h
   .cases h
  .cases h
 .rename_i t x y B
  split at h
  .rename_i i hi
   split at h
   .rename_i E G
    split at h
    .rename_i ie M
     split at h
     .rename_i tt k n es k2 j w I
      split at h
      .rename_i Q
       cases h;obtain⟨S,V⟩:0<=j/\j<(n:Int):=g;have e:=bT Q;subst e;exact OA.lF r (bF.indexAddr (m:=j.toNat) C B hi G M (λs v=>my w σ s v) I (by omega) (by omega))
      .cases h
     .cases h
    .cases h
   .cases h
  .cases h
 .rename_i t x lo hi B
  exact OA.lF r (GK C B h g)
 .rename_i src dst x B
  exact OA.lF r (Jy C B h g)
 .rename_i c B
  obtain⟨L,args,Z⟩:=c;simp only at h;split at h
  .split at h
   .rename_i x t w R
    split at h
    .rename_i d' Y
     cases h;have:=vR w;subst this;exact OA.lF r (Nl C B R Y)
    .cases h
   .cases h
  .exact OA.Bu O r B h g
  .cases h
 .rename_i c a b q
  split at h
  .rename_i u;cases h;exact OA.lF r (bF.pick q u)
  .rename_i u;cases h;exact OA.lF r (bF.pick q u)
  .cases h
 .rename_i op t y z ty q
  unfold Po at h;split at h
  .rename_i a b A F
   split at h
   .rename_i i hi
    split at h
    .rename_i G
     split at h
     .rename_i c u;cases h;exact OA.lF r (bF.Qv C q hi G A F u)
     .cases h
    .cases h
   .cases h
  .rename_i a b _ A F
   split at h
   .split at h
    .rename_i _ _ a' b' _ _
     cases h;exact OA.lF r (bF.T4 q A F g.1 g.2)
    .obtain⟨c,rfl,u⟩:=rQ h;exact OA.lF r (bF.bits q A F u g)
    .cases h
   .split at h
    .obtain⟨c,rfl,u⟩:=rQ h;exact OA.lF r (bF.bits q A F u g)
    .cases h
   .split at h
    .obtain⟨c,rfl,u⟩:=rQ h;exact OA.lF r (bF.bits q A F u g)
    .cases h
   .split at h
    .obtain⟨c,rfl,u⟩:=rQ h;exact OA.lF r (bF.bits q A F u g)
    .cases h
   .split at h
    .rename_i c K u;cases h;exact OA.lF r (bF.binOp q A F u g)
    .cases h
  .rename_i cs es A F
   split at h
   .rename_i i hi
    split at h
    .cases h
    .rename_i d ds ZZ
     split at h
     .rename_i b J
      split at h
      .rename_i c u;cases h;exact OA.lF r (bF.structEq C q hi (by rw[ZZ];simp) A F (by rw[ZZ];exact J) u)
      .cases h
     .cases h
   .cases h
  .cases h
 .rename_i op t y q
  split at h
  .rename_i a A
   split at h
   .rename_i c u;cases h;exact OA.lF r (bF.unOp q A u)
   .cases h
  .cases h
 .rename_i y j q
  split at h
  .rename_i xs w
   split at h
   .rename_i e U;cases h;exact OA.lF r (bF.extract q w (dw U))
   .cases h
  .cases h
 .rename_i t y f q
  split at h
  .rename_i k j H
   split at h
   .rename_i l off w;cases h;exact OA.lF r (bF.rS C q w H)
   .rename_i cs w;cases h;exact OA.lF r (bF.tJ C q w H)
   .cases h
  .cases h
 .rename_i t y f q
  split at h
  .rename_i k j H
   split at h
   .rename_i cs w
    split at h
    .rename_i e W;cases h;exact OA.lF r (bF.field C q w H W)
    .cases h
   .cases h
  .cases h
 .rename_i y q
  split at h
  .rename_i l off w;cases h;exact OA.lF r (bF.tK q w)
  .rename_i cs w;cases h;exact OA.lF r (bF.vS q w)
  .cases h
 .rename_i t parts q
  split at h
  .rename_i cs u;cases h;exact OA.lF r (bF.build C q u)
  .cases h
 .rename_i t n parts q
  split at h
  .rename_i k es u;cases h;exact OA.lF r (bF.buildSlice C q u)
  .cases h
 .rename_i fn a b q
  split at h
  .rename_i ca A
   split at h
   .rename_i cb F;cases h;exact OA.lF r (bF.makeFunc q A F)
   .cases h
  .cases h
 .rename_i t x q
  split at h
  .rename_i i hi
   split at h
   .rename_i G
    split at h
    .rename_i c u;cases h;exact OA.lF r (bF.makeInterface C q hi G u)
    .cases h
   .cases h
  .cases h
 .rename_i x xt t q
  split at h
  .rename_i i hi
   split at h
   .rename_i G
    split at h
    .rename_i c w
     split at h
     .rename_i e b A;cases h;exact OA.lF r (bF.typeAssert C q hi G w A)
     .cases h
    .cases h
   .cases h
  .cases h
 .cases h
def Qw(G:db P T){d:D}{obs:List Prop}(h:Xk T φ o=aa (d,obs))(r:ag obs):bF P o (bX φ) σ d σ:=by
 unfold Xk at h;split at h
 .rename_i t x y B
  split at h
  .rename_i i hi
   split at h
   .rename_i E F
    split at h
    .rename_i O H
     split at h
     .rename_i l g k q m kk j A I
      split at h
      .rename_i M
       cases h;obtain⟨J,L⟩:0<=j/\j<(m:Int):=r;have e:=bT M;subst e;exact bF.Xn G B hi F H A I J L
      .cases h
     .rename_i b off n cap kk j A I
      cases h;obtain⟨J,L⟩:0<=j/\j<(n:Int):=r;exact bF.Bw G B hi F H A I J L
     .cases h
    .cases h
   .cases h
  .cases h
 .rename_i t x f B
  split at h
  .rename_i k j S
   split at h
   .rename_i l g k0 i q A
    cases h;exact bF.Qx G B A S
   .rename_i b off A
    cases h;exact bF.Qy G B A S
   .cases h
  .cases h
 .rename_i x B
  split at h
  .rename_i l g k0 i q A
   cases h;exact bF.Xo B A
  .cases h
 .rename_i t x lo hi B
  split at h
  .cases h
  rename_i i C
  split at h
  .cases h
  rename_i lw Z
  split at h
  .cases h
  rename_i u W
  split at h
  .rename_i E F
   split at h
   .cases h
   rename_i O H
   split at h
   .rename_i l g k q m A
    split at h
    .rename_i M
     cases h;have e:=bT M;subst e;exact bF.sliceB G B C F H A Z W r
    .cases h
   .cases h
  .cases h
 .rename_i t x y z B
  split at h
  .cases h
  rename_i i C
  split at h
  .rename_i E F
   split at h
   .cases h
   rename_i O H
   split at h
   .rename_i tt k n es kj j km m A I Q
    cases h;obtain⟨J,L,R⟩:0<=j/\j<=m/\m<=(n:Int):=r;exact bF.slice3 G B C F H (λs v=>my A σ s v) I Q J L R
   .cases h
  .cases h
 .rename_i t x w y z B
  split at h
  .cases h
  rename_i i C
  split at h
  .rename_i E F
   split at h
   .cases h
   rename_i O H
   split at h
   .rename_i l g k q n kw i kj j km m A Y I Q
    cases h;obtain⟨J,L,R,h4⟩:0<=i/\i<=j/\j<=m/\m<=(n:Int):=r;exact bF.slice3B G B C F H A Y I Q J L R h4
   .cases h
  .cases h
 .rename_i c B
  obtain⟨V,args,ZE⟩:=c;simp only at h;split at h
  .split at h
   .rename_i x t A U
    split at h
    .rename_i i hi
     split at h
     .rename_i E F
      split at h
      .rename_i l g k q m K
       cases h;have:=vR A;subst this;exact bF.Xp G B U hi F K
      .rename_i a n cap K
       cases h;have:=vR A;subst this;exact bF.Xq G B U hi F K r
      .cases h
     .cases h
    .cases h
   .cases h
  .cases h
 .cases h
def GL(j:db P T){t:ar}{x:an}(m:o.op=.load t x){d:D}{obs:List Prop}(h:zA T φ σ t x=aa (d,obs))(a:ag obs):bF P o (bX φ) σ d σ:=by
 unfold zA at h;split at h
 .rename_i r hi
  split at h
  .rename_i l g k i f b
   split at h
   .rename_i E k' n es hB
    split at h
    .rename_i c
     have e:=bT c;subst e;split at h
     .rename_i e q
      cases h;exact bF.Bx j m b a.1 (dw hB) hi q a.2
     .cases h
    .cases h
   .cases h
  .cases h
 .cases h
def DN(j:db P T){t:ar}{x y:an}(m:o.op=.store t x y){d:D}{σ':List aW}{obs:List Prop}(h:zF T φ σ t x y=aa (d,σ',obs))(a:ag obs):bF P o (bX φ) σ d σ':=by
 unfold zF at h;split at h
 .rename_i v hi
  split at h
  .rename_i l g k i f c
   split at h
   .rename_i E k' n es hB
    split at h
    .rename_i s
     have e:=bT s;subst e;split at h
     .rename_i new hy
      split at h
      .rename_i r
       split at h
       .rename_i cc O9
        split at h
        .rename_i q
         rw[cR,lx] at h;cases h;have b:f=0/\cc.length=k':=by
          cases f with
          |zero=>exact⟨rfl,bT q⟩
          |succ f=>simp[Jw] at q
         obtain⟨rfl,b⟩:=b;exact bF.JB j m c a.1 (dw hB) hi hy (bT r) O9 (λu=>rT (by rw[u,b])) a.2
        .split at h
         .rename_i ci Xr
          rw[cR,lx] at h;cases h;exact bF.JB j m c a.1 (dw hB) hi hy (bT r) O9 (λ_=>Xr) a.2
         .cases h
       .cases h
      .cases h
     .cases h
    .cases h
   .cases h
  .cases h
 .cases h
def Qz(g:db P T)(m:bD X CT){d:D}{obs:List Prop}(h:Nb T CT φ σ o=aa (d,obs))(c:ag obs)(f:∀ σ s a,cp N σ s φ a->bj o (yielded all.toArray a.tmps)=ab):OA X N all o φ σ d σ:=by
 unfold Nb at h;split at h
 .rename_i t y k
  split at h
  .rename_i q b
   cases h;unfold Jn at b;split at b
   .rename_i i hi
    split at b
    .rename_i l off hx
     split at b
     .rename_i E cs hB
      split at b
      .rename_i e j;cases b;exact OA.lF f (bF.FC g k hx (dw hB) hi j)
      .cases b
     .cases b
    .rename_i cs hx
     split at b
     .rename_i e j;cases b;exact OA.lF f (bF.JC g k hx hi j)
     .cases b
    .cases b
   .cases b
  .exact OA.lF f (GL g k h c)
 .split at h
  .rename_i r n
   cases h;exact Qu g m n c f
  .exact OA.lF f (Qw g h c)
def QA(f:db P T)(i:bD X CT){d:D}{σ':List aW}{obs:List Prop}(h:Xl T CT φ σ o=aa (d,σ',obs))(b:ag obs)(e:∀ σ s a,cp N σ s φ a->bj o (yielded all.toArray a.tmps)=ab):OA X N all o φ σ d σ':=by
 unfold Xl at h;split at h
 .exact OA.lF e (DO f h b)
 .exact OA.lF e (DO f h b)
 .rename_i t x y n
  split at h
  .rename_i r q
   cases h;exact OA.lF e (DO f q b)
  .exact OA.lF e (DN f n h b)
 .rename_i c g
  obtain⟨k,args,j⟩:=c;simp only at h;split at h
  .split at h
   .rename_i x y t u l m
    have:=nj l;subst this;have:=nj m;subst this;exact OA.lF e (Nj f g h b)
   .cases h
  .exact OA.call i e g h b
  .cases h
 .cases h
def Np(A:db P T){w:Bool}{C:an->D}{x y:an}{t c:ar}{d:D}{σ':List aW}{obs:List Prop}(G:o.op=.call { callee:=.builtin .append,args:=#[x,y],argTypes:=#[t,c] })
  (h:appW w T C σ x y t c=aa (d,σ',obs)) (a:ag obs):bF P o C σ d σ':=by
 unfold appW at h;split at h
 .cases h
 rename_i i hi
 split at h
 .cases h
 rename_i i2 Dp
 split at h
 case h_2=>cases h
 rename_i E H
 split at h
 case h_2=>cases h
 rename_i J B
 split at h
 .cases h
 rename_i f
 have eE:=bT f;subst eE;split at h
 .cases h
 rename_i Q e
 split at h
 case h_2=>cases h
 rename_i r q
 have b:mj P o x y J Q:=⟨⟨t,c,i,i2,G,A t i hi,H,A c i2 Dp,B⟩,A _ _ e,by have:=c7 r;omega,by have:=c7 q;omega⟩
 split at h
 .split at h
  .cases h
  rename_i tx k' m es' hy
  split at h
  .cases h
  rename_i z
  have Y:=bT z;subst Y;split at h
  .rename_i k n es hx
   split at h
   .rename_i hn
    have U:=bT hn;subst U;rw[cR] at h;cases h;exact bF.Gy b hx (λs v=>my hy _ s v) a
   .cases h
  .cases h
 .split at h
  .rename_i l g k i l' g' k' j m hx hy
   split at h
   .cases h
   rename_i u
   have el:=bT u;subst el;split at h
   .rename_i E' k2 n es hl
    split at h
    .rename_i O W V I
     have Z:=bT O;have S:=bT W;have R:=bT V;have F:=bT I;rw[cR] at h;cases h;obtain⟨K,L,M,o4⟩:=a;subst K L Z S R F;have:=bF.IW (σ:=σ) b hx hy (dw hl) M o4;rw[<-lx] at this;exact this
    .cases h
   .cases h
  .cases h
def QB(f:db P T)(g:bD X CT){ds:List (Nat×Bool)}{d:D}{σ':List aW}{obs:List Prop}(h:TR ds T CT φ σ o=aa (d,σ',obs))(b:ag obs)(e:∀ σ s a,cp N σ s φ a->bj o (yielded all.toArray a.tmps)=ab):OA X N all o φ σ d σ':=by
 have key:∀ w,Wb w T φ σ o=aa (d,σ',obs)->OA X N all o φ σ d σ':=by
  intro w h;unfold Wb at h;split at h
  .rename_i c m
   obtain⟨j,args,i⟩:=c;simp only at h;split at h
   .split at h
    .rename_i x y t q k l
     have:=nj k;subst this;have:=nj l;subst this;exact OA.lF e (Np f m h b)
    .cases h
   .cases h
  .cases h
 unfold TR at h;split at h
 .exact key _ h
 .split at h
  .rename_i r n
   cases h;exact QA f g n b e
  .exact key _ h
def fW(q:db P T)(u:bD X CT){ds:List (Nat×Bool)}{d:D}{σ':Option (List aW)}{obs:List Prop}(h:Fw T CT ds all φ σ o=aa (d,σ',obs))(e:ag obs):OA X N all o φ σ d (σ'.getD σ):=by
 have go:(∀ σ s a,cp N σ s φ a->bj o (yielded all.toArray a.tmps)=ab)->(match Nb T CT φ σ o with
  |some (x,obs)=>match Jt ds o.dst x obs with
   |some (y,m)=>nZ y λy=>aa (y,af,m)
   |none=>af
  |none=>match W7 ds o.dst with
   |true=>match Xm T φ o with
    |some (x,obs)=>nZ x λx=>aa (x,af,obs)
    |none=>af
   |false=>match TR ds T CT φ σ o with
    |some (x,σ',obs)=>nZ x λx=>aa (x,aa σ',obs)
    |none=>af)=aa (d,σ',obs)->OA X N all o φ σ d (σ'.getD σ):=by
  intro n h;split at h
  .rename_i x k H
   split at h
   .rename_i y v E
    rw[nb] at h;cases h;obtain⟨rfl,C⟩:=Nh E e;exact Qz q u H C n
   .cases h
  .split at h
   .split at h
    .rename_i x k g
     rw[nb] at h;cases h;unfold Xm at g;split at g
     .rename_i c A
      obtain⟨w,args,G⟩:=c;simp only at g;split at g
      .split at g
       .rename_i x y t I z B
        have:=nj z;subst this;have:=nj B;subst this;exact Ni q n A g e
       .cases g
      .cases g
     .cases g
    .cases h
   .split at h
    .rename_i x σ1 k g
     rw[nb] at h;cases h;exact QB q u g e n
    .cases h
 unfold Fw at h;simp only at h;split at h
 .rename_i i
  exact go (λ_ _ _ _=>dq i) h
 .rename_i j b i
  split at h
  .rename_i r l
   have F:∀ σ s a,cp N σ s φ a->bj o (yielded all.toArray a.tmps)=(aa r==aa b):=λσ s a f=>by simp only[bj,i,pS l f]
   split at h
   .grind
   .grind
   .cases h;refine OA.pass (λσ s a f=>(F σ s a f).trans ?_)
    cases b <;> cases r <;> simp_all
  .rename_i l
   cases h;exact OA.pass (λσ s a f=>by simp only[bj,i,pS l f];rfl)
  .cases h
end
def II(φ:Fr)(o:aw):Bool:=match o.op with
 |.load _ x=>match bX φ x with
  |.e (.one (.c (.rp _)))=>ae
  |_=>ab
 |_=>ae
def Jm{T:List (Nat×TI)}{CT:List (Nat×dg)}{φ:Fr}{σ σ2:List aW}{o:aw}(h:II φ o=ae):Nb T CT φ σ o=Nb T CT φ σ2 o:=by
 unfold Nb;split
 .rename_i t x a
  simp only[II,a] at h;split at h
  .rename_i cs hx
   simp only[Jn,zA,hx]
  .cases h
 .rfl
def Jo{T:List (Nat×TI)}{CT:List (Nat×dg)}{ds:List (Nat×Bool)}{all:List aw}{φ:Fr}{σ:List aW}{o:aw}{d:D}{obs:List Prop}(h:II φ o=ae)(a:Fw T CT ds all φ σ o=aa (d,af,obs))(σ2:List aW) :
  Fw T CT ds all φ σ2 o=aa (d,af,obs):=by
 unfold Fw at a ⊢;simp only at a ⊢;rw[Jm (σ2:=σ) h];cases f:Nb T CT φ σ o with
 |some r=>simp only[f] at a ⊢;exact a
 |none =>
  simp only[f] at a ⊢;cases c:W7 ds o.dst with
  |true=>simp only[c] at a ⊢;exact a
  |false =>
   simp only[c] at a ⊢;have key:∀ {y:Option (D×Option (List aW)×List Prop)},(match TR ds T CT φ σ o with|some (x,σ',obs)=>nZ x λx=>aa (x,aa σ',obs)|none=>af)=y->y≠aa (d,af,obs):=by
    intro y b e;subst e;split at b
    .rw[nb] at b;cases b
    .cases b
   split at a
   .exact absurd rfl (key a)
   grind
def oY(t:Nat):List aw->Bool
 |[]=>ae
 |o::r=>match o.dst with
  |some d=>match aA d t with|true=>ab|false=>oY t r
  |none=>oY t r
def rL{t:Nat}:∀ {l:List aw}{i:Nat}{o:aw},l[i]?=aa o->o.dst=aa t->oY t l=ab
 |[],_,_,h,_=>by simp at h
 |p::r,0,o,h,a=>by
  simp at h;subst h;simp[oY,a,iL]
 |p::r,i+1,o,h,a=>by
  have:=rL (l:=r) (by simpa using h) a
  simp only[oY]
  grind
def pP{t:Nat}:∀ {l:List aw},oY t l=ab->∃ (i:Nat)(o:aw),l[i]?=aa o/\o.dst=aa t
 |[],h=>by cases h
 |p::r,h=>by
  simp only[oY] at h;split at h
  .rename_i d c
   split at h
   .rename_i e
    exact⟨0,p,rfl,by rw[c,bT e]⟩
   .obtain⟨i,o,b,a⟩:=pP h;exact⟨i+1,o,by simpa using b,a⟩
  .obtain⟨i,o,b,a⟩:=pP h;exact⟨i+1,o,by simpa using b,a⟩
def mv:List aw->Bool
 |[]=>ab
 |o::r=>match o.dst with
  |some d=>match oY d r with|true=>ae|false=>mv r
  |none=>mv r
def sQ{t:Nat}:∀ {l:List aw}{i j:Nat}{o p:aw},mv l=ab->l[i]?=aa o->l[j]?=aa p->o.dst=aa t->p.dst=aa t->i=j
 |[],_,_,_,_,_,h,_,_,_=>by simp at h
 |q::r,0,0,_,_,_,_,_,_,_=>rfl
 |q::r,0,j+1,o,p,a,b,c,d1,d2=>by
  simp at b;subst b;simp only[mv,d1] at a;rw[rL (l:=r) (by simpa using c) d2] at a
  cases a
 |q::r,i+1,0,o,p,a,b,c,d1,d2=>by
  simp at c;subst c;simp only[mv,d2] at a;rw[rL (l:=r) (by simpa using b) d1] at a
  cases a
 |q::r,i+1,j+1,o,p,a,b,c,d1,d2=>by
  have:mv r=ab:=by
   simp only[mv] at a
   grind
  have d:r[i]?=aa o:=by simpa using b
  have f:r[j]?=aa p:=by simpa using c
  have e:=sQ this d f d1 d2;omega
def uz(all:List aw):Fr->Fr
 |[]=>[]
 |(t,d)::r=>match oY t all with|true=>uz all r|false=>(t,d)::uz all r
def lE{all:List aw}{t:Nat}:∀ {φ:Fr},look (uz all φ) t=if oY t all=ab then .any else look φ t
 |[]=>by simp[uz,look]
 |(u,d)::r=>by
  simp only[uz]
  by_cases c:aA u t=ab
  .have e:=bT c;subst e;cases b:oY u all with
   |true=>simp only;rw[lE];simp[b]
   |false=>simp[look]
  .have a:aA u t=ae:=by grind
   cases b:oY u all with
   |true=>simp only;rw[lE];simp[look,a]
   |false=>simp only[look,a,cond];rw[lE]
def bP:List Edge->List Nat
 |[]=>[]
 |e::r=>match e.ground with
  |.textOnly _=>bP r
  |.gcOnly _=>bP r
  |_=>e.on::bP r
def eC{j:Nat}:∀ {l:List Edge},j∈bP l↔∃ e∈l,cZ e=ab/\e.on=j
 |[]=>by simp[bP]
 |e::r=>by
  have c:=eC (j:=j) (l:=r);have yes:bP (e::r)=e.on::bP r->cZ e=ab->(j∈bP (e::r)↔∃ b∈e::r,cZ b=ab/\b.on=j):=by
   grind
  have no:bP (e::r)=bP r->cZ e=ae->(j∈bP (e::r)↔∃ b∈e::r,cZ b=ab/\b.on=j):=by
   grind
  cases a:e.ground with
  |textOnly w=>exact no (by simp only[bP,a]) (by unfold cZ Region.binds;rw[a];rfl)
  |gcOnly w=>exact no (by simp only[bP,a]) (by unfold cZ Region.binds;rw[a];rfl)
  |_=>exact yes (by simp only[bP,a]) (by unfold cZ Region.binds;rw[a])
def vL(i t:Nat):List aw->Bool
 |[]=>ae
 |o::r=>match o.dst with
  |some d=>match aA d t with
   |true=>match fI i (bP o.after.toList) with
    |true=>vL i t r
    |false=>ab
   |false=>vL i t r
  |none=>vL i t r
def vM{i t:Nat}:∀ {l:List aw},vL i t l=ae->∀ (j:Nat)(o:aw),l[j]?=aa o->o.dst=aa t->fI i (bP o.after.toList)=ab
 |[],_,j,o,h,_=>by simp at h
 |p::r,h,0,o,a,b=>by
  simp at a;subst a;simp only[vL,b,iL] at h
  grind
 |p::r,h,j+1,o,a,b=>by
  have:vL i t r=ae:=by
   simp only[vL] at h
   grind
  exact vM this j o (by simpa using a) b
def oZ(all:List aw):Fr->List (Nat×D×Bool)
 |[]=>[]
 |(t,d)::r=>match oY t all with
  |true=>(t,d,ab)::oZ all r
  |false=>(t,d,ae)::oZ all r
def kJ(i:Nat)(all:List aw):List (Nat×D×Bool)->Fr
 |[]=>[]
 |(t,d,b)::r=>match b with
  |false=>(t,d)::kJ i all r
  |true=>match vL i t all with
   |true=>kJ i all r
   |false=>(t,d)::kJ i all r
def yc{i:Nat}{all:List aw}{t:Nat}:∀ {φ:Fr},look (kJ i all (oZ all φ)) t=if oY t all=ab/\vL i t all=ab then .any else look φ t
 |[]=>by simp[oZ,kJ,look]
 |(u,d)::r=>by
  have h:=yc (i:=i) (all:=all) (t:=t) (φ:=r);have c:look ((u,d)::kJ i all (oZ all r)) t=if aA u t=ab then d else look (kJ i all (oZ all r)) t:=by
   simp only[look];cases aA u t <;> rfl
  have a:look ((u,d)::r) t=if aA u t=ab then d else look r t:=by simp only[look];cases aA u t <;> rfl
  cases f:oY u all with
  |false =>
   simp only[oZ,f,kJ];rw[c,a,h]
   by_cases b:aA u t=ab
   .have e:=bT b;subst e;simp[f]
   .simp[b]
  |true =>
   cases g:vL i u all with
   |true =>
    simp only[oZ,f,kJ,g];rw[a,h]
    by_cases b:aA u t=ab
    .have e:=bT b;subst e;simp[f,g]
    .simp[b]
   |false =>
    simp only[oZ,f,kJ,g];rw[c,a,h]
    by_cases b:aA u t=ab
    .have e:=bT b;subst e;simp[g]
    .simp[b]
def jo(m:Nat->Bool):Nat->List (Option Nat×D)->Fr->Fr
 |_,[],φ=>φ
 |i,(d,x)::r,φ=>match m i with
  |true=>match d with
   |some t=>(t,x)::jo m (i+1) r φ
   |none=>jo m (i+1) r φ
  |false=>jo m (i+1) r φ
def nc{m:Nat->Bool}{φ:Fr}{t:Nat}:∀ {l:List (Option Nat×D)}{i:Nat},(∃ j x,l[j]?=aa (aa t,x)/\m (i+j)=ab/\look (jo m i l φ) t=x)∨look (jo m i l φ) t=look φ t
 |[],i=>.inr rfl
 |(d,x)::r,i=>by
  have n:=nc (m:=m) (φ:=φ) (t:=t) (l:=r) (i:=i+1);have step:look (jo m i ((d,x)::r) φ) t=look (jo m (i+1) r φ) t->((∃ j b,((d,x)::r)[j]?=aa (aa t,b)/\m (i+j)=ab/\look (jo m i ((d,x)::r) φ) t=b)∨look (jo m i ((d,x)::r) φ) t=look φ t):=by
   intro e;rw[e];rcases n with⟨j,b,f,o,k⟩|h
   .exact .inl ⟨j+1,b,by simpa using f,by grind,k⟩
   .exact .inr h
  cases a:m i with
  |false=>exact step (by simp[jo,a])
  |true =>
   cases d with
   |none=>exact step (by simp[jo,a])
   |some u =>
    by_cases g:aA u t=ab
    .have e:=bT g;subst e;exact .inl ⟨0,x,rfl,by simpa using a,by simp[jo,a,look]⟩
    .have c:aA u t=ae:=by grind
     exact step (by simp[jo,a,look,c])
structure Dh where
 i:Nat
 pre:List (Option Nat×D)
 σ:List aW
 cls:List (List Bool)
 zB:List Bool
 Nc:List Bool
 obs:List Prop
def S0(i:Nat):List Nat->Bool
 |[]=>ab
 |k::r=>match Nat.blt k i with|true=>S0 i r|false=>ae
def DI{i:Nat}:∀ {l:List Nat},S0 i l=ab->∀ k∈l,k<i
 |[],_,k,h=>by simp at h
 |x::r,h,k,b=>by
  simp only[S0] at h;cases a:Nat.blt x i with
  |false=>simp[a] at h
  |true =>
   simp only[a] at h;rcases eY.1 b with rfl|b
   .exact c7 a
   .exact DI h k b
def bit:List Bool->Nat->Bool
 |[],_=>ae
 |b::_,0=>b
 |_::r,n+1=>bit r n
def xB:List Bool->List Bool->List Bool
 |[],b=>b
 |true::a,[]=>ab::a
 |false::a,[]=>ae::a
 |true::a,_::b=>ab::xB a b
 |false::a,ab::b=>ab::xB a b
 |false::a,ae::b=>ae::xB a b
def mx:∀ {a b:List Bool}{j:Nat},bit (xB a b) j=(bit a j||bit b j)
 |[],b,j=>by simp[xB,bit]
 |true::a,[],j=>by simp[xB,bit]
 |false::a,[],j=>by simp[xB,bit]
 |true::a,c::b,0=>by simp[xB,bit]
 |true::a,c::b,j+1=>by simp only[xB,bit];exact mx
 |false::a,ab::b,0=>by simp[xB,bit]
 |false::a,ab::b,j+1=>by simp only[xB,bit];exact mx
 |false::a,ae::b,0=>by simp[xB,bit]
 |false::a,ae::b,j+1=>by simp only[xB,bit];exact mx
def sR:Nat->List Bool
 |0=>[ab]
 |n+1=>ae::sR n
def rM:∀ {n j:Nat},bit (sR n) j=decide (n=j)
 |0,0=>rfl
 |0,j+1=>by simp[sR,bit]
 |n+1,0=>by simp[sR,bit]
 |n+1,j+1=>by simp only[sR,bit,rM];simp
def Fx(a:List (List Bool)):List Nat->List Bool
 |[]=>[]
 |e::r=>match fA e a with
  |some c=>xB (xB c (sR e)) (Fx a r)
  |none=>xB (sR e) (Fx a r)
def zC{b:List (List Bool)}{j:Nat}:∀ {l:List Nat},bit (Fx b l) j=ab->∃ e∈l,e=j∨∃ c,b[e]?=aa c/\bit c j=ab
 |[],h=>by simp[Fx,bit] at h
 |e::r,h=>by
  simp only[Fx,eW] at h;have two:∀ {a:Nat},bit (sR e) a=ab->e=a:=by
   intro a h;rw[rM] at h;simpa using h
  have rest:bit (Fx b r) j=ab->∃ d∈e::r,d=j∨∃ c,b[d]?=aa c/\bit c j=ab:=by
   intro h;obtain⟨d,f,g⟩:=zC h
   grind
  split at h
  .rename_i c i
   rw[mx,mx,mP,mP] at h
   grind
  .rw[mx,mP] at h
   grind
def sS:List Bool->List Bool->Bool
 |[],_=>ab
 |true::a,ab::b=>sS a b
 |true::_,_=>ae
 |false::a,_::b=>sS a b
 |false::a,[]=>sS a []
def pQ:∀ {a b:List Bool}{j:Nat},sS a b=ab->bit a j=ab->bit b j=ab
 |[],b,j,_,d=>by simp[bit] at d
 |true::a,ab::b,0,_,_=>rfl
 |true::a,ab::b,j+1,h,d=>by simp only[bit] at d ⊢;exact pQ (by simpa[sS] using h) d
 |true::a,ae::b,j,h,_=>by simp[sS] at h
 |true::a,[],j,h,_=>by simp[sS] at h
 |false::a,c::b,0,_,d=>by simp[bit] at d
 |false::a,c::b,j+1,h,d=>by simp only[bit] at d ⊢;exact pQ (by simpa[sS] using h) d
 |false::a,[],0,_,d=>by simp[bit] at d
 |false::a,[],j+1,h,d=>by
  simp only[bit] at d;have:=pQ (j:=j) (by simpa[sS] using h) d
  simp[bit] at this
def rN(T:List (Nat×TI))(CT:List (Nat×dg))(N:Nat)(ds:List (Nat×Bool))(all:List aw)(φm:List (Nat×D×Bool))(st:Dh)(o:aw):Option Dh :=
 match gv N o.dst with
 |false=>af
 |true =>
  dc (bP o.after.toList) λes =>
  match S0 st.i es with
  |false=>af
  |true=>match Fw T CT ds all (jo (λj=>fI j es) 0 st.pre (kJ st.i all φm)) st.σ o with
   |none=>af
   |some (x,σ',obs) =>
    dc (Fx st.cls es) λa =>
    match σ',II (jo (λj=>fI j es) 0 st.pre (kJ st.i all φm)) o with
    |none,ae=>dc (st.pre++[(o.dst,x)]) λpre=>dc (st.cls++[a]) λcls=>dc (kh obs st.obs) λobs=>aa ⟨st.i+1,pre,st.σ,cls,st.zB,st.Nc,obs⟩
    |none,ab=>match sS st.zB a with
     |true=>dc (st.pre++[(o.dst,x)]) λpre=>dc (st.cls++[a]) λcls=>dc (kh obs st.obs) λobs=>dc (xB st.Nc (sR st.i)) λb=>aa ⟨st.i+1,pre,st.σ,cls,st.zB,b,obs⟩
     |false=>af
    |some σ',_=>match sS st.Nc a with
     |true=>dc (st.pre++[(o.dst,x)]) λpre=>dc (st.cls++[a]) λcls=>dc (kh obs st.obs) λobs=>dc (xB st.Nc (sR st.i)) λb=>dc (xB st.zB (sR st.i)) λc=>aa ⟨st.i+1,pre,σ',cls,c,b,obs⟩
     |false=>af
def Nd(T:List (Nat×TI))(CT:List (Nat×dg))(N:Nat)(ds:List (Nat×Bool))(all:List aw)(φm:List (Nat×D×Bool)):List aw->Dh->Option Dh
 |[],st=>aa st
 |o::r,st=>match rN T CT N ds all φm st o with
  |some qd=>Nd T CT N ds all φm r qd
  |none=>af
def Fy(T:List (Nat×TI))(CT:List (Nat×dg))(N:Nat)(ds:List (Nat×Bool))(all:List aw)(φ:Fr)(σ:List aW):Option (Fr×List aW×List Prop) :=
 match mv all with
 |false=>af
 |true=>dc (oZ all φ) λφm=>match Nd T CT N ds all φm all ⟨0,[],σ,[],[],[],[]⟩ with
  |some st=>dc (jo (λ_=>ab) 0 st.pre (uz all φ)) λa=>aa (a,st.σ,st.obs)
  |none=>af
section
open Go.Conc (G)
def fV:aw:=⟨af,.move (.tmp 0),0,"",#[],af⟩
section
variable (T:List (Nat×TI))(CT:List (Nat×dg))(N:Nat)(ds:List (Nat×Bool))(all:List aw)(φm:List (Nat×D×Bool))
def xC(st:Dh):Nat->Dh
 |0=>st
 |i+1=>(rN T CT N ds all φm (xC st i) (all.getD i fV)).getD (xC st i)
def Pj(st:Dh)(i:Nat):Fr:=jo (λj=>fI j (bP (all.getD i fV).after.toList)) 0 (xC T CT N ds all φm st i).pre (kJ (xC T CT N ds all φm st i).i all φm)
def Fz(st:Dh)(i:Nat):Option (D×Option (List aW)×List Prop):=Fw T CT ds all (Pj T CT N ds all φm st i) (xC T CT N ds all φm st i).σ (all.getD i fV)
def xD(st:Dh)(i:Nat):D:=match Fz T CT N ds all φm st i with|some (x,_,_)=>x|none=>.any
def oF(st:Dh)(i:Nat):Bool:=match Fz T CT N ds all φm st i with|some (_,aa _,_)=>ab|_=>ae
def tI(st:Dh)(i:Nat):Bool:=!II (Pj T CT N ds all φm st i) (all.getD i fV)&&!oF T CT N ds all φm st i
def Pk(st:Dh)(i:Nat):List Bool:=Fx (xC T CT N ds all φm st i).cls (bP (all.getD i fV).after.toList)
end
section
variable {T:List (Nat×TI)}{CT:List (Nat×dg)}{N:Nat}{ds:List (Nat×Bool)}{all:List aw}{φm:List (Nat×D×Bool)}
structure Jp (T:List (Nat×TI))(CT:List (Nat×dg))(N:Nat)(ds:List (Nat×Bool))(all:List aw)(φm:List (Nat×D×Bool))(st qd:Dh)(o:aw)(x:D)(σ':Option (List aW))(obs:List Prop):Prop where
 dst:gv N o.dst=ab
 lt:S0 st.i (bP o.after.toList)=ab
 op:Fw T CT ds all (jo (λj=>fI j (bP o.after.toList)) 0 st.pre (kJ st.i all φm)) st.σ o=aa (x,σ',obs)
 i:qd.i=st.i+1
 pre:qd.pre=st.pre++[(o.dst,x)]
 cls:qd.cls=st.cls++[Fx st.cls (bP o.after.toList)]
 σ:qd.σ=σ'.getD st.σ
 obs:qd.obs=kh obs st.obs
 eff:qd.zB=if σ'.isSome=ab then xB st.zB (sR st.i) else st.zB
 nf:qd.Nc=if (II (jo (λj=>fI j (bP o.after.toList)) 0 st.pre (kJ st.i all φm)) o||σ'.isSome)=ab then xB st.Nc (sR st.i) else st.Nc
 load:II (jo (λj=>fI j (bP o.after.toList)) 0 st.pre (kJ st.i all φm)) o=ab->σ'.isSome=ae->sS st.zB (Fx st.cls (bP o.after.toList))=ab
 k5:σ'.isSome=ab->sS st.Nc (Fx st.cls (bP o.after.toList))=ab
def Br{st qd:Dh}{o:aw}(h:rN T CT N ds all φm st o=aa qd):∃ x σ' obs,Jp T CT N ds all φm st qd o x σ' obs:=by
 unfold rN at h;split at h
 .cases h
 rename_i c
 simp only[cR] at h;split at h
 .cases h
 rename_i a
 split at h
 .cases h
 rename_i x σ' obs iQ
 refine⟨x,σ',obs,?_⟩;cases σ' with
 |none =>
  cases b:II (jo (λj=>fI j (bP o.after.toList)) 0 st.pre (kJ st.i all φm)) o with
  |false =>
   simp only[b,cR] at h;cases h;exact⟨c,a,iQ,rfl,rfl,rfl,rfl,rfl,by simp,by simp[b],by simp[b],by simp⟩
  |true =>
   simp only[b,cR] at h;split at h
   .rename_i d
    cases h;exact⟨c,a,iQ,rfl,rfl,rfl,rfl,rfl,by simp,by simp[b],λ_ _=>d,by simp⟩
   .cases h
 |some σ' =>
  simp only[cR] at h;split at h
  .rename_i d
   cases h;exact⟨c,a,iQ,rfl,rfl,rfl,rfl,rfl,by simp,by simp,by simp,λ_=>d⟩
  .cases h
def FB{st sf:Dh}:∀ {rest:List aw}{k:Nat},(∀ i,rest[i]?=all[k+i]?)->Nd T CT N ds all φm rest (xC T CT N ds all φm st k)=aa sf ->
  (∀ i o,rest[i]?=aa o->rN T CT N ds all φm (xC T CT N ds all φm st (k+i)) o=aa (xC T CT N ds all φm st (k+i+1)))/\xC T CT N ds all φm st (k+rest.length)=sf
 |[],k,_,h=>by
  cases h;exact⟨by simp,rfl⟩
 |p::r,k,c,h=>by
  simp only[Nd] at h;have d:all[k]?=aa p:=by have:=c 0;simpa using this.symm
  split at h
  .rename_i b a
   have e:xC T CT N ds all φm st (k+1)=b:=by
    simp only[xC,ai,d,fG,a]
   rw[<-e] at h;obtain⟨f,g⟩:=FB (rest:=r) (k:=k+1) (λi=>by have:=c (i+1);grind) h
   grind
  .cases h
def Bt{j:Nat}:∀ {l:List Nat},fI j l=ab->j∈l:=by
 intro l
 induction l with
 |nil=>intro h;cases h
 |cons a r c =>
  intro h;simp only[fI] at h;cases b:aA j a with
  |true=>rw[bT b];exact uR
  |false=>grind
def Jq{P:aq}{X:Cx P}(hf:P.follows Departure.mixedOrders=ab)(hT:db P T)(hC:bD X CT){ops:Array aw}{φ φ':Fr}{σ σ':List aW}{obs:List Prop}(h:Fy T CT N ds ops.toList φ σ=aa (φ',σ',obs))(ab0:ag obs){Q:Post}(hQ:Q .normal φ' σ')(id:Nat) :
  AW X N (.region id ops ab) Q φ σ:=by
 unfold Fy at h;split at h
 .cases h
 rename_i TS
 rw[cR] at h;split at h
 case h_2=>cases h
 rename_i sf rD
 rw[cR] at h;cases h;generalize Jr:ops.toList=all at *;generalize W8:oZ all φ=φm at *;have I:∀ i:Nat,ops[i]?=all[i]?:=λi=>by rw[<-Jr,uM]
 have IG:ops.size=all.length:=by rw[<-Jr];simp
 let g:Dh:=⟨0,[],σ,[],[],[],[]⟩
 obtain⟨R,G⟩:=FB (T:=T) (CT:=CT) (N:=N) (ds:=ds) (φm:=φm) (st:=g) (rest:=all) (k:=0) (λi=>by simp) rD
 simp only[br] at R G
 let F:=xC T CT N ds all φm g
 have q:∀ i o,all[i]?=aa o->all.getD i fV=o:=λi o h=>by simp[ai,h]
 have ZT:∀ i o,all[i]?=aa o->Pj T CT N ds all φm g i=(jo (λj=>fI j (bP (o).after.toList)) 0 (F i).pre (kJ (F i).i all φm)):=λi o h=>by
  unfold Pj;rw[q i o h]
 have facts:∀ i o,all[i]?=aa o->∃ S,Jp T CT N ds all φm (F i) (F (i+1)) o (xD T CT N ds all φm g i) (if oF T CT N ds all φm g i=ab then aa (F (i+1)).σ else af) S:=by
  intro i o u;obtain⟨x,σ1,S,n⟩:=Br (R i o u);have C:=n.op;have hR:Fz T CT N ds all φm g i=aa (x,σ1,S):=by
   unfold Fz Pj;rw[q i o u];exact C
  have hx:xD T CT N ds all φm g i=x:=by unfold xD;rw[hR]
  cases σ1 with
  |none =>
   have z:oF T CT N ds all φm g i=ae:=by unfold oF;rw[hR]
   grind
  |some σ2 =>
   have z:oF T CT N ds all φm g i=ab:=by unfold oF;rw[hR]
   have W9:(F (i+1)).σ=σ2:=n.σ
   grind
 have W:∀ i,i<=all.length->(F i).i=i:=by
  intro i
  induction i with
  |zero=>intro _;rfl
  |succ i M =>
   intro hi;obtain⟨_,n⟩:=facts i _ (bl (by omega))
   rw[n.i,M (by omega)]
 have TT:∀ i,i<=all.length->∀ j,(F i).pre[j]?=if j<i then (all[j]?).map (λo=>(o.dst,xD T CT N ds all φm g j)) else af:=by
  intro i
  induction i with
  |zero=>intro _ j;simp[F,xC,g]
  |succ i M =>
   intro hi j;obtain⟨_,n⟩:=facts i _ (bl (by omega))
   have hlen:(F i).pre.length=i:=by
    apply Nat.le_antisymm
    .grind
    grind
   rw[n.pre]
   grind
 have Xa:∀ i,i<=all.length->∀ j,(F i).cls[j]?=if j<i then aa (Pk T CT N ds all φm g j) else af:=by
  intro i
  induction i with
  |zero=>intro _ j;simp[F,xC,g]
  |succ i M =>
   intro hi j;obtain⟨_,n⟩:=facts i _ (bl (by omega))
   have hlen:(F i).cls.length=i:=by
    apply Nat.le_antisymm
    .apply Nat.le_of_not_lt
     intro A;have:=M (by omega) i
     grind
    grind
   rw[n.cls]
   by_cases Xb:j<i
   .grind
   .rw[gg (by omega)]
    by_cases e:j=i
    .subst e;rw[bg (by omega),hlen,pG]
     simp only[kV,Pk,q j _ (bl (by omega:j<all.length))]
     rfl
    grind
 have ab1:∀ i,i<=all.length->∀ j,bit (F i).zB j=(decide (j<i)&&oF T CT N ds all φm g j):=by
  intro i
  induction i with
  |zero=>intro _ j;simp[F,xC,g,bit]
  |succ i M =>
   intro hi j;obtain⟨_,n⟩:=facts i _ (bl (by omega))
   rw[n.eff];cases z:oF T CT N ds all φm g i with
   |false =>
    grind
   |true =>
    simp only[cj,Option.isSome_some];rw[mx,M (by omega) j,rM,W i (by omega)]
    by_cases e:j=i
    .subst e;simp[z]
    grind
 have nfI:∀ i,i<=all.length->∀ j,bit (F i).Nc j=(decide (j<i)&&!tI T CT N ds all φm g j):=by
  intro i
  induction i with
  |zero=>intro _ j;simp[F,xC,g,bit]
  |succ i M =>
   intro hi j;obtain⟨_,n⟩:=facts i _ (bl (by omega))
   have TU:(if oF T CT N ds all φm g i=ab then aa (F (i+1)).σ else af).isSome=oF T CT N ds all φm g i:=by cases oF T CT N ds all φm g i <;> rfl
   have M4:tI T CT N ds all φm g i=!(II (jo (λj=>fI j (bP (all[i]'(by omega)).after.toList)) 0 (F i).pre (kJ (F i).i all φm)) (all[i]'(by omega))||oF T CT N ds all φm g i):=by
    unfold tI;rw[ZT i _ (bl (by omega)),q i _ (bl (by omega))]
    simp
   rw[n.nf,TU];cases z:(II (jo (λj=>fI j (bP (all[i]'(by omega)).after.toList)) 0 (F i).pre (kJ (F i).i all φm)) (all[i]'(by omega))||oF T CT N ds all φm g i) with
   |false =>
    grind
   |true =>
    simp only[cj];rw[mx,M (by omega) j,rM,W i (by omega)]
    by_cases e:j=i
    .subst e;simp[M4,z]
    grind
 have TV:∀ i,i<=all.length->ag (F i).obs:=by
  have back:∀ k i,i+k=all.length->ag (F i).obs:=by
   intro k
   induction k with
   |zero =>
    grind
   |succ k M =>
    intro i hi;obtain⟨_,n⟩:=facts i _ (bl (by omega))
    have:=M (i+1) (by omega)
    rw[n.obs,ag.cat] at this;exact this.2
  intro i hi;exact back (all.length-i) i (by omega)
 have oaI:∀ i o,all[i]?=aa o->OA X N all o (Pj T CT N ds all φm g i) (F i).σ (xD T CT N ds all φm g i) (F (i+1)).σ:=by
  intro i o u;have hi:i<all.length:=(cg.1 u).1;obtain⟨_,n⟩:=facts i o u;have Pl:=TV (i+1) (by omega)
  rw[n.obs,ag.cat] at Pl;have:=fW (P:=P) (N:=N) hT hC n.op Pl.1;rw[n.σ]
  grind
 let idx:Nat->Option Nat:=λt=>(bh all.length).find? (λi=>decide ((all.getD i fV).dst=aa t))
 have y:∀ t j,idx t=aa j->∃ o,all[j]?=aa o/\o.dst=aa t:=by
  grind
 have E:∀ i o d,all[i]?=aa o->o.dst=aa d->idx d=aa i:=by
  intro i o d u hd;have hi:i<all.length:=(cg.1 u).1;cases hx:idx d with
  |none =>
   grind
  |some j =>
   obtain⟨p,TX,TY⟩:=y d j hx;rw[sQ TS TX u TY hd]
 have Js:∀ t,oY t all=ab↔∃ j,idx t=aa j:=by
  intro t
  constructor
  .intro h;obtain⟨i,o,B,K⟩:=pP h;exact⟨i,E i o t B K⟩
  .rintro⟨j,hj⟩;obtain⟨o,B,K⟩:=y t j hj;exact rL B K
 have Qm:∀ i o,all[i]?=aa o->∀ e∈o.after,cZ e=ab->e.on<i:=by
  intro i o u e z Z;have hi:i<all.length:=(cg.1 u).1;obtain⟨_,n⟩:=facts i o u;have:=DI n.lt e.on (eC.2 ⟨e,by simpa using z,Z,rfl⟩)
  grind
 have ZU:=Qm;have hd:vJ X N ops φ (λi=>(F i).σ) (xD T CT N ds all φm g) (Pj T CT N ds all φm g) (tI T CT N ds all φm g) (λi=>decide (i<all.length)&&oF T CT N ds all φm g i) (λi j=>i<all.length/\bit (Pk T CT N ds all φm g i) j=ab) idx (jo (λ_=>ab) 0 sf.pre (uz all φ)):=by
  refine⟨hf,?_,?_,?_,?_,?_,?_,?_,?_,?_,?_⟩
  .grind
  .intro i o d u hd;rw[I] at u;obtain⟨_,n⟩:=facts i o u;exact⟨E i o d u hd,ir n.dst d hd⟩
  .grind
  .intro i z;rcases cx i all.length with hi|hi
   .obtain⟨_,n⟩:=facts i _ (bl hi);have:oF T CT N ds all φm g i=ae:=by simpa[hi] using z
    have hσ:=n.σ
    grind
   .have h0:all.getD i fV=fV:=by grind
    show (F (i+1)).σ=(F i).σ;have:rN T CT N ds all φm (F i) fV=af∨∃ s',rN T CT N ds all φm (F i) fV=aa s':=by
     cases rN T CT N ds all φm (F i) fV with
     |none=>exact .inl rfl
     |some s'=>exact .inr ⟨s',rfl⟩
    show ((rN T CT N ds all φm (F i) (all.getD i fV)).getD (F i)).σ=(F i).σ;rw[h0];rcases this with h|⟨s',h⟩
    .rw[h];rfl
    .rw[h];obtain⟨x,σ1,ob,n⟩:=Br h;have C:=n.op;have:σ1=af:=by
      unfold Fw at C;simp only[fV,Nb,V8,Jt,nb] at C;cases C;rfl
     rw[fG,n.σ,this];rfl
  .grind
  .intro i o u ya;rw[I] at u;have hi:i<all.length:=(cg.1 u).1;have r:II (jo (λj=>fI j (bP (o).after.toList)) 0 (F i).pre (kJ (F i).i all φm)) o=ae/\oF T CT N ds all φm g i=ae:=by
    unfold tI at ya
    grind
   refine⟨by simp[r.2],λk=>?_⟩
   obtain⟨ob,n⟩:=facts i o u;have C:=n.op;rw[r.2] at C;have Xc:=Jo r.1 (by simpa using C) (F k).σ
   have Pl:=TV (i+1) (by omega)
   rw[n.obs,ag.cat] at Pl;have:=fW (P:=P) (N:=N) hT hC Xc Pl.1
   grind
  .intro L hL i j ⟨hi,Z⟩;have ga:∀ i,i<all.length->L i->∀ e,e∈bP (all.getD i fV).after.toList->L e:=by
    intro i hi ZV e z;rw[q i _ (bl hi)] at z;obtain⟨e',B,K,rfl⟩:=eC.1 z
    grind
   have key:∀ i,i<all.length->∀ j,bit (Pk T CT N ds all φm g i) j=ab->(∀ e∈bP (all.getD i fV).after.toList,L e)->L j:=by
    intro i
    induction i using Nat.strongRecOn with
    |_ i M =>
     intro hi j Z Pm;obtain⟨e,z,h⟩:=zC Z;have A:e<i:=by
      have O:=z;rw[q i _ (bl hi)] at O;obtain⟨e',B,K,rfl⟩:=eC.1 O
      grind
     rcases h with rfl|⟨c,hc,IF⟩
     .exact Pm _ z
     .have:=Xa i (by omega) e
      rw[bg A] at this;have WJ:(F i).cls[e]?=aa c:=hc;rw[WJ] at this;cases this;exact M e A (by omega) j IF (ga e (by omega) (Pm e z))
   refine⟨λZV=>key i hi j Z (ga i hi ZV),all[i],by grind,λTP=>key i hi j Z ?_⟩
   intro e z;rw[q i _ (bl hi)] at z;obtain⟨e',B,K,rfl⟩:=eC.1 z;exact TP e' (by simpa using B) K
  .intro i f hi TZ z Dg Xd;rw[IG] at hi TZ;have O:oF T CT N ds all φm g f=ab:=by simpa[TZ] using z
   rcases cx f i with A|Pb
   .refine .inl ⟨A,hi,?_⟩;obtain⟨_,n⟩:=facts i _ (bl hi);have Ds:Pk T CT N ds all φm g i=Fx (F i).cls (bP (all[i]).after.toList):=by unfold Pk;grind
    rw[Ds];cases Xe:oF T CT N ds all φm g i with
    |true =>
     have B:=n.k5 (by rw[Xe];rfl)
     refine pQ B ?_;rw[nfI i (by omega) f]
     have:tI T CT N ds all φm g f=ae:=by unfold tI;simp[O]
     simp[A,this]
    |false =>
     have Qn:II (jo (λj=>fI j (bP (all[i]).after.toList)) 0 (F i).pre (kJ (F i).i all φm)) all[i]=ab:=by
      unfold tI at Xd;rw[ZT i _ (bl hi),q i _ (bl hi),Xe] at Xd;simpa using Xd
     have B:=n.load Qn (by rw[Xe];rfl)
     refine pQ B ?_
     grind
   .have A:i<f:=by omega
    refine .inr ⟨A,TZ,?_⟩;obtain⟨_,n⟩:=facts f _ (bl TZ);have Ds:Pk T CT N ds all φm g f=Fx (F f).cls (bP (all[f]).after.toList):=by unfold Pk;grind
    rw[Ds];have B:=n.k5 (by rw[O];rfl)
    refine pQ B ?_
    grind
  .intro i o u t σ s v V;rw[I] at u;have hi:i<all.length:=(cg.1 u).1;unfold Pj;rw[q i o u];rcases nc (m:=λj=>fI j (bP o.after.toList)) (φ:=kJ (F i).i all φm) (t:=t) (l:=(F i).pre) (i:=0) with⟨j,x,B,K,h3⟩|h3
   .have Xf:look (jo (λj=>fI j (bP o.after.toList)) 0 (xC T CT N ds all φm g i).pre (kJ (xC T CT N ds all φm g i).i all φm)) t=x:=h3
    rw[Xf];have hp:=TT i (by omega) j
    rw[B] at hp;have Xb:j<i:=by
     grind
    rw[bg Xb,bl (by omega:j<all.length)] at hp
    simp only[j4,de,kZ] at hp;obtain⟨TX,TY⟩:=hp;have H:=E j _ t (bl (by omega:j<all.length)) TX.symm
    rw[H] at V;simp only at V;rw[bg] at V
    .rw[TY];exact V
    .have Xg:j∈bP o.after.toList:=by
      simp only[br] at K;exact Bt K
     obtain⟨e,a,b,c⟩:=eC.1 Xg;exact⟨e,by simpa using a,b,c⟩
   .have Xf:look (jo (λj=>fI j (bP o.after.toList)) 0 (xC T CT N ds all φm g i).pre (kJ (xC T CT N ds all φm g i).i all φm)) t=look (kJ (F i).i all φm) t:=h3
    rw[Xf,W i (by omega),<-W8,yc]
    split
    .trivial
    .rename_i ZW
     cases H:idx t with
     |some j =>
      have hD:=(Js t).2 ⟨j,H⟩;have hN:vL i t all=ae:=by
       grind
      obtain⟨oj,V7,TQ⟩:=y t j H;have hm:=Bt (vM hN j oj V7 TQ);obtain⟨e,z,Z,heq⟩:=eC.1 hm;rw[H] at V;simp only at V;split at V
      ·
       rename_i hex
       obtain⟨e2,Tn,ZX,ab3⟩:=hex
       grind
      .rw[bg ⟨oj,by rw[I];exact V7,e,by simpa using z,Z,heq⟩] at V
       exact V
     |none=>simpa[H] using V
  .intro t σ s v V;have hF:F all.length=sf:=G;rcases nc (m:=λ_=>ab) (φ:=uz all φ) (t:=t) (l:=sf.pre) (i:=0) with⟨j,x,B,_,h3⟩|h3
   .rw[h3];have hp:=TT all.length (bc _) j;rw[hF,B] at hp;have Xb:j<all.length:=by
     grind
    grind
   .rw[h3,lE];split
    .trivial
    grind
 intro s a M4 hh b kk cs SS Z Xh;have MH:F ops.size=sf:=by rw[IG];exact G
 refine .next rfl λJ U=>?_
 have U:=X.iq U;have Y:=hh.rely U;have Xi:=M4.rely U hh;have Qo:Step σ J σ { J with w:={ J.w with drawn:=J.w.drawn+1 } }:=Step.same rfl rfl rfl rfl;have Ba:aJ σ { J with w:={ J.w with drawn:=J.w.drawn+1 } }:=Y.same rfl;have Xj:=U.stepW.trans (Qo.oo Y);refine⟨_,{ J with w:={ J.w with drawn:=J.w.drawn+1 } },#[],lK,⟨⟨σ,σ,Y,Ba,Qo⟩,.nil⟩,?_⟩;simp only[Region.schedule,hf,Bool.true_or,cj];refine hd.arr Z (s0:={ J with w:={ J.w with drawn:=J.w.drawn+1 } }) (λs2 a2 f2 K oz=>?_) ops.size _ (by simp) ?_ ?_ 0 _ a (by omega) ?_ ?_ Ba (.refl _ _) _
 .simp only[MH] at f2 K oz;exact Xh .normal _ _ s2 a2 hQ f2 K (Xj.trans oz)
 .simp
 .intro i o u hi;simp[dn,mM] at hi;split at hi <;> simp at hi
 .intro f TZ ZY;simp[dn,mM];split <;> simp
 .have r:=Xi.mono (Qo.oo Y) Y.len;refine⟨r.size,r.defers,λt=>?_⟩
  unfold fY;cases H:idx t with
  |none=>exact r.slot t
  |some j =>
   simp only;rw[aY]
   .exact r.slot t
   .simp[dn,mM];split <;> simp
end
end
section
variable {P:aq}{X:Cx P}{N:Nat}{Qf:Post}{K:List It}{φ:Fr}{σ:List aW}
def AK.draw{T:List (Nat×TI)}{CT:List (Nat×dg)}(d:P.follows Departure.mixedOrders=ab)(c:db P T)(hC:bD X CT){ds:List (Nat×Bool)}{ops:Array aw}{b:Fr}{σ':List aW}{obs:List Prop}{id:Nat}
  (h:Fy T CT N ds ops.toList φ σ=aa (b,σ',obs)) (a:ag obs) (k:AK X N Qf K .normal b σ'):AK X N Qf (.code (.region id ops ab)::K) .normal φ σ :=
 Jq d c hC h a k id
end
def vH(T:List (Nat×TI))(CT:List (Nat×dg))(ds:List (Nat×Bool))(N:Nat)(K:List It)(φ:Fr)(σ:List aW):Option (List It×Fr×List aW×List Prop) :=
 match K with
 |[]=>af
 |.blk _::K=>aa (K,φ,σ,[])
 |.ops _ []::K=>aa (K,φ,σ,[])
 |.ops all (o::rest)::K=>match gv N o.dst with
  |true=>match Fw T CT ds all φ σ o with
   |some (x,af,obs)=>dc (lr o.dst x φ) λφ=>aa (.ops all rest::K,φ,σ,obs)
   |some (x,aa σ',obs)=>dc (lr o.dst x φ) λφ=>aa (.ops all rest::K,φ,σ',obs)
   |none=>af
  |false=>af
 |.code c::K=>match c with
  |.skip=>aa (K,φ,σ,[])
  |.seq x y=>aa (.code x::.code y::K,φ,σ,[])
  |.block id c=>aa (.code c::.blk id::K,φ,σ,[])
  |.region id ops d=>match Bv ds (id+1000000) with
   |some _=>af
   |none=>match d with
    |false=>aa (.ops ops.toList ops.toList::K,φ,σ,[])
    |true=>match Fy T CT N ds ops.toList φ σ with
     |some (a,σ',obs)=>aa (K,a,σ',obs)
     |none=>af
  |.exit id=>match kL id K with
   |some K'=>aa (K',φ,σ,[])
   |none=>af
  |.cond (.tmp t) x y=>match look φ t with
   |.e (.one (.c (.bool ab)))=>aa (.code x::K,φ,σ,[])
   |.e (.one (.c (.bool ae)))=>aa (.code y::K,φ,σ,[])
   |_=>af
  |_=>af
def Kc{P:aq}{X:Cx P}(q:P.follows Departure.mixedOrders=ab){T:List (Nat×TI)}(g:db P T){CT:List (Nat×dg)}(f:bD X CT){ds:List (Nat×Bool)}{N:Nat}{Qf:Post}{K m:List It}{φ d:Fr}{σ σ':List aW}{obs:List Prop}
  (h:vH T CT ds N K φ σ=aa (m,d,σ',obs)) (i:ag obs) (k:AK X N Qf m .normal d σ'):AK X N Qf K .normal φ σ:=by
 unfold vH at h;split at h
 .cases h
 .cases h;exact AK.Q8 k
 .cases h;exact AK.Q9 k
 .rename_i all o rest K0
  cases b:gv N o.dst with
  |false=>simp[b] at h
  |true =>
   simp only[b] at h;have n:=ir b;split at h
   .rename_i x a j
    rw[cR] at h;cases h;exact jA.sY (fW g f j i) n k
   .rename_i x σ1 a j
    rw[cR] at h;cases h;exact jA.sY (fW g f j i) n k
   .cases h
 .rename_i c K0
  split at h
  .cases h;exact AK.skip k
  .cases h;exact AK.seq k
  .cases h;exact AK.block k
  .split at h
   .cases h
   .split at h
    .cases h;exact AK.region k
    .split at h
     .rename_i r σ1 a b
      cases h;exact AK.draw q g f b i k
     .cases h
  .split at h
   .rename_i s p;cases h;exact AK.exit p k
   .cases h
  .rename_i t x y
   split at h
   .rename_i l;cases h;exact AK.cond rfl l (λ_=>k) (λe=>by cases e)
   .rename_i l;cases h;exact AK.cond rfl l (λe=>by cases e) (λ_=>k)
   .cases h
  .cases h
def eT(T:List (Nat×TI))(CT:List (Nat×dg))(ds:List (Nat×Bool))(N:Nat):Nat->List It->Fr->List aW->List Prop->Option (List It×Fr×List aW×List Prop)
 |0,K,φ,σ,obs=>dc obs λobs=>aa (K,φ,σ,obs)
 |n+1,K,φ,σ,obs=>match vH T CT ds N K φ σ with
  |some (b,a,σ',o)=>eT T CT ds N n b a σ' (kh o obs)
  |none=>dc obs λobs=>aa (K,φ,σ,obs)
def FT{P:aq}{X:Cx P}(g:P.follows Departure.mixedOrders=ab){T:List (Nat×TI)}(i:db P T){CT:List (Nat×dg)}(f:bD X CT){ds:List (Nat×Bool)}{N:Nat}{Qf:Post}:∀ {n:Nat}{K b:List It}{φ a:Fr}{σ σ':List aW}{obs DM:List Prop},
  eT T CT ds N n K φ σ obs=aa (b,a,σ',DM)->ag DM->AK X N Qf b .normal a σ'->AK X N Qf K .normal φ σ/\ag obs
 |0,K,b,φ,a,σ,σ',obs,DM,h,c,k=>by
  simp only[eT,cR] at h;cases h;exact⟨k,c⟩
 |n+1,K,b,φ,a,σ,σ',obs,DM,h,c,k=>by
  simp only[eT] at h;cases e:vH T CT ds N K φ σ with
  |none =>
   simp only[e,cR] at h;cases h;exact⟨k,c⟩
  |some r =>
   obtain⟨o,l,σ1,m⟩:=r;simp only[e] at h;obtain⟨j,d⟩:=FT g i f h c k;rw[ag.cat] at d;exact⟨Kc g i f e d.1 j,d.2⟩
def AK.eT{P:aq}{X:Cx P}(d:P.follows Departure.mixedOrders=ab){T:List (Nat×TI)}(e:db P T){CT:List (Nat×dg)}(hC:bD X CT)(ds:List (Nat×Bool)){N:Nat}{Qf:Post}(n:Nat){K c:List It}{φ b:Fr}{σ σ':List aW}{a:List Prop}
  (h:AM.eT T CT ds N n K φ σ []=aa (c,b,σ',a)) (f:ag a) (k:AK X N Qf c .normal b σ'):AK X N Qf K .normal φ σ:=(FT d e hC h f k).1
section
variable {P:aq}{X:Cx P}{N:Nat}{Qf:Post}{K:List It}{φ:Fr}{σ:List aW}
def zy(rs:List ResultVar)(ks:List Nat)(φ:Fr)(res:D):Option (List Prop) :=
 match xz φ rs with
 |some ds=>match rH ds with
  |some d=>match uw ks.length res with
   |true=>Bo d (jm ks res)
   |false=>af
  |none=>af
 |none=>af
def AK.dA{fn:Func}{a:Nat}{res:D}{σ':List aW}(ks:List Nat){ps:List Prop}(h:zy fn.results.toList ks φ res=aa ps)(e:ag ps)(d:kA ks σ=aa σ')(b:ki σ'=ab)(hn:dM ks=ab)(c:∀ j,j<a->ks[j]?=aa j) :
  AK X N (bZ fn a res σ') (.code .ret::K) .normal φ σ:=by
 refine AK.ret ⟨.inl rfl,ks,?_⟩;unfold zy at h
 grind
def AK.bo{fn:Func}{res:D}{ps:List Prop}(h:zy fn.results.toList [] φ res=aa ps)(a:ag ps):AK X N (bZ fn 0 res []) (.code .ret::K) .normal φ σ :=
 AK.dA [] h a rfl rfl rfl (λj h=>by omega)
def bZ.zero{fn:Func}{res:D}{ps:List Prop}(h:zy fn.results.toList [] φ res=aa ps)(b:ag ps):bZ fn 0 res [] .ret φ σ:=by
 refine⟨.inl rfl,[],?_⟩;unfold zy at h;split at h
 .rename_i ds TO
  split at h
  .rename_i d c
   split at h
   .rename_i a
    exact⟨ds,d,ps,TO,c,h,b,a,rfl,rfl,rfl,λj h=>by omega⟩
   .cases h
  .cases h
 .cases h
def AK.leave{id:Nat}{φ:Fr}{σ:List aW}{A:Fr->List aW->Prop}{Qr:Post}{K m n:List It}(h1:kL id K=af)(h2:kL id m=aa n)(k:AK X N Qr n .normal φ σ) :
  AK X N (λe f σ'=>match e with
   |.normal=>A f σ'
   |e=>AK X N Qr m e f σ') (.code (.exit id)::K) .normal φ σ:=by
 have key:∀ {K:List It},kL id K=af->∀ {Q:Post},Q (.exit id) φ σ->AK X N Q K (.exit id) φ σ:=by
  intro K
  induction K with
  |nil=>intro _ Q h;exact h
  |cons i r l =>
   intro d Q h;cases i with
   |code c=>exact l (by simpa[kL] using d) h
   |ops a b=>exact l (by simpa[kL] using d) h
   |blk j =>
    simp only[kL] at d;cases hb:aA id j with
    |true=>simp[hb] at d
    |false =>
     simp[hb] at d;have g:id≠j:=λe=>by rw[e,iL] at hb;cases hb
     simp only[AK,g,b5];exact l d h
 exact AW.exit (key h1 (AK.vZ h2 k))
def AK.hY{φ:Fr}{σ:List aW}{A:Fr->List aW->Prop}{Qr:Post}{K b:List It}(k:Qr .ret φ σ) :
  AK X N (λe a σ'=>match e with
   |.normal=>A a σ'
   |e=>AK X N Qr b e a σ') (.code .ret::K) .normal φ σ:=AK.ret (AK.rY (Qf:=Qr) k)
def AK.again{S:Type}{I:S->Prop}{fr:S->Fr}{st:S->List aW}{b:S->Nat}{x:S}{Qr:Post}(y:S){ps:List Prop}(f:qA φ (fr y)=aa ps)(h:ag ps)(g:I y)(c:b y<b x)(d:σ=st y) :
  AK X N (λe a σ'=>match e with
   |.normal=>∃ y,I y/\b y<b x/\rZ a (fr y)/\σ'=st y
   |e=>Qr e a σ') [] .normal φ σ:=⟨y,g,c,dC f h,d⟩
def AK.wa{S:Type}{c:Code}(I:S->Prop)(fr:S->Fr)(st:S->List aW)(d:S->Nat)(x:S){ps:List Prop}(f:qA φ (fr x)=aa ps)(h:ag ps)(g:I x)(b:st x=σ)
  (round:∀ x,I x->AK X N (λe a σ'=>match e with
   |.normal=>∃ y,I y/\d y<d x/\rZ a (fr y)/\σ'=st y
   |e=>AK X N Qf K e a σ') [.code c] .normal (fr x) (st x)):AK X N Qf (.code (.loop c)::K) .normal φ σ :=
 AK.loop I fr st d x g (dC f h) b round
def Fits(args:List D)(σ:List aW):Prop:=∃ s vs,cv σ s vs args/\aJ σ s
def Fits.at{args:List D}{σ:List aW}(h:Fits args σ){j:Nat}{d:D}(hj:args[j]?=aa d):∃ s v,c8 σ s v d:=by
 obtain⟨s,vs,a,_⟩:=h;obtain⟨_,b⟩:=cv.get a
 grind
def Fits.str{args:List D}{σ:List aW}(h:Fits args σ)(j:Nat){l:List UInt8}(hj:args[j]?=aa (.e (.one (.c (.str l))))):l.length<=9223372036854775807:=by
 obtain⟨s,v,a⟩:=h.at hj;cases fC a with
 |str h hl=>exact hl
def Fits.sl{args:List D}{σ:List aW}(h:Fits args σ)(j:Nat){t:Bool}{k n:Nat}{es:Nat->List C}(hj:args[j]?=aa (.e (.one (.c (.sl t k n es))))):n<=9223372036854775807:=by
 obtain⟨s,v,d⟩:=h.at hj;cases fC d with
 |sl b off f a hb=>omega
def Ev.body{f:aV}{fn:Func}{c:Code}{args:List D}{σ σ':List aW}{res:D}(d:P.funcs[f]?=aa fn)(a:(fn.name== "runtime.NumGoroutine")=ae)(hb:fn.body=aa c)(b:bq args.length fn.ntmps=ab)
  (h:Fits args σ->AK X fn.ntmps (bZ fn σ.length res σ') [.code c] .normal (hU 0 args) σ):Ev X f args σ res σ':=by
 refine⟨⟨fn,d,a,by rw[hb];rfl⟩,λs vs hr hh=>?_⟩
 exact(Ev.intro d a hb (c7 b) (AK.of_code (h ⟨s,vs,hr,hh⟩))).2 s vs hr hh
def Ev.bQ{f:aV}{fn:Func}{c:Code}{args:List D}{σ σ':List aW}{res:D}(b:P.funcs[f]?=aa fn)(a:(fn.name== "runtime.NumGoroutine",fn.body,bq args.length fn.ntmps)=(ae,aa c,ab))
  (h:Fits args σ->AK X fn.ntmps (bZ fn σ.length res σ') [.code c] .normal (hU 0 args) σ):Ev X f args σ res σ':=by
 simp only[kZ] at a;exact Ev.body b a.1 a.2.1 a.2.2 h
def AK.join{c:Code}{d:List It}(b:Fr)(σ':List aW)(h:(∀ (a:Fr)(ps:List Prop),qA a b=aa ps->ag ps->AK X N Qf (.code c::d) .normal a σ')->AK X N Qf K .normal φ σ)
  (k:AK X N Qf (.code c::d) .normal b σ'):AK X N Qf K .normal φ σ :=
 h λ_ _ h1 h2=>AW.le k (dC h1 h2)
end
section
open Go.Proofs
def bz{P:aq}{t:ar}{i:TypeInfo}(h:P.types[t]?=aa i):P.info? t=aa i:=by
 unfold Tables.info?;rw[bg (ig.1 h).1];exact h
def db.nil{P:aq}:db P []:=λ_ _ h=>by cases h
def db.cons{P:aq}{t:ar}{i:TI}{T:List (Nat×TI)}(h:bH P t i)(r:db P T):db P ((t,i)::T):=by
 intro a i2 h2;simp only[bA] at h2;cases hb:aA t a with
 |true=>rw[hb] at h2;cases h2;rw[<-bT hb];exact h
 |false=>rw[hb] at h2;exact r a i2 h2
namespace R1
abbrev f0(a:String)(b c:Nat)(d:String)(e:Nat):Field:={ name:=a,type:=b,offset:=c,embedded:=ae,tag:= "",pkgPath:=d,byteOffset:=e }
def i2:TI:=⟨1,8,ae,TypeDesc.int IntKind.i64,[.int .i64 0],[]⟩
def g2:bH ah 2 i2:=⟨Tryz.underlying2,rfl,⟨_,_,bz Tryz.type2,rfl,rfl,rfl,rfl,⟨#[],rfl⟩,rfl⟩,λh=>absurd rfl h⟩
def i3:TI:=⟨1,8,ae,TypeDesc.int IntKind.i64,[.int .i64 0],[]⟩
def g3:bH ah 3 i3:=⟨Tryz.underlying3,rfl,⟨_,_,bz Tryz.type3,rfl,rfl,rfl,rfl,⟨#[],rfl⟩,rfl⟩,λh=>absurd rfl h⟩
def i4:TI:=⟨1,1,ae,TypeDesc.bool,[.bool ae],[]⟩
def g4:bH ah 4 i4:=⟨Tryz.underlying4,rfl,⟨_,_,bz Tryz.type4,rfl,rfl,rfl,rfl,⟨#[],rfl⟩,rfl⟩,λh=>absurd rfl h⟩
def i5:TI:=⟨1,1,ae,TypeDesc.int IntKind.u8,[.int .u8 0],[]⟩
def g5:bH ah 5 i5:=⟨Tryz.underlying5,rfl,⟨_,_,bz Tryz.type5,rfl,rfl,rfl,rfl,⟨#[],rfl⟩,rfl⟩,λh=>absurd rfl h⟩
def i6:TI:=⟨1,1,ae,TypeDesc.int IntKind.u8,[.int .u8 0],[]⟩
def g6:bH ah 6 i6:=⟨Tryz.underlying6,rfl,⟨_,_,bz Tryz.type6,rfl,rfl,rfl,rfl,⟨#[],rfl⟩,rfl⟩,λh=>absurd rfl h⟩
def i8:TI:=⟨4,24,ab,bn #[(f0 "x" 2 0 "runtime" 0),(f0 "y" 3 1 "runtime" 8),(f0 "signed" 4 2 "runtime" 16),(f0 "code" 6 3 "runtime" 17)],[.int .i64 0,.int .i64 0,.bool ae,.int .u8 0],[]⟩
def g8:bH ah 8 i8:=⟨Tryz.underlying8,rfl,⟨_,_,bz Tryz.type8,rfl,rfl,rfl,rfl,⟨_,rfl⟩,rfl⟩,λh=>absurd rfl h⟩
def i9:TI:=⟨1,16,ae,TypeDesc.string,[.str []],[]⟩
def g9:bH ah 9 i9:=⟨Tryz.underlying9,rfl,⟨_,_,bz Tryz.type9,rfl,rfl,rfl,rfl,⟨#[],rfl⟩,rfl⟩,λh=>absurd rfl h⟩
def i16:TI:=⟨1,8,ae,TypeDesc.pointer 296,[.l9],[]⟩
def g16:bH ah 16 i16:=⟨Tryz.underlying16,rfl,⟨_,_,bz Tryz.type16,rfl,rfl,rfl,rfl,⟨#[],rfl⟩,rfl⟩,λh=>absurd rfl h⟩
def i20:TI:=⟨1,16,ae,TypeDesc.interface #[],[.nU],[]⟩
def g20:bH ah 20 i20:=⟨Tryz.underlying20,rfl,⟨_,_,bz Tryz.type20,rfl,rfl,rfl,rfl,⟨#[],rfl⟩,rfl⟩,λh=>absurd rfl h⟩
def i21:TI:=⟨1,4,ae,TypeDesc.int IntKind.i32,[.int .i32 0],[]⟩
def g21:bH ah 21 i21:=⟨Tryz.underlying21,rfl,⟨_,_,bz Tryz.type21,rfl,rfl,rfl,rfl,⟨#[],rfl⟩,rfl⟩,λh=>absurd rfl h⟩
def i22:TI:=⟨1,24,ae,TypeDesc.slice 5,[.sl ab 0 0 (λ_=>[])],[]⟩
def g22:bH ah 22 i22:=⟨Tryz.underlying22,rfl,⟨_,_,bz Tryz.type22,rfl,rfl,rfl,rfl,⟨#[],rfl⟩,rfl⟩,λh=>absurd rfl h⟩
def i23:TI:=⟨1,24,ae,TypeDesc.slice 55,[.sl ab 0 0 (λ_=>[])],[]⟩
def g23:bH ah 23 i23:=⟨Tryz.underlying23,rfl,⟨_,_,bz Tryz.type23,rfl,rfl,rfl,rfl,⟨#[],rfl⟩,rfl⟩,λh=>absurd rfl h⟩
def i24:TI:=⟨1,24,ae,TypeDesc.slice 59,[.sl ab 0 0 (λ_=>[])],[]⟩
def g24:bH ah 24 i24:=⟨Tryz.underlying24,rfl,⟨_,_,bz Tryz.type24,rfl,rfl,rfl,rfl,⟨#[],rfl⟩,rfl⟩,λh=>absurd rfl h⟩
def i25:TI:=⟨1,24,ae,TypeDesc.slice 86,[.sl ab 0 0 (λ_=>[])],[]⟩
def g25:bH ah 25 i25:=⟨Tryz.underlying25,rfl,⟨_,_,bz Tryz.type25,rfl,rfl,rfl,rfl,⟨#[],rfl⟩,rfl⟩,λh=>absurd rfl h⟩
def i27:TI:=⟨3,72,ab,bn #[(f0 "Packs" 23 0 "" 0),(f0 "Snaps" 24 1 "" 24),(f0 "Log" 25 2 "" 48)],[.sl ab 0 0 (λ_=>[]),.sl ab 0 0 (λ_=>[]),.sl ab 0 0 (λ_=>[])],[]⟩
def g27:bH ah 27 i27:=⟨Tryz.underlying27,rfl,⟨_,_,bz Tryz.type27,rfl,rfl,rfl,rfl,⟨_,rfl⟩,rfl⟩,λh=>absurd rfl h⟩
def i28:TI:=⟨1,24,ae,TypeDesc.slice 3,[.sl ab 0 0 (λ_=>[])],[]⟩
def g28:bH ah 28 i28:=⟨Tryz.underlying28,rfl,⟨_,_,bz Tryz.type28,rfl,rfl,rfl,rfl,⟨#[],rfl⟩,rfl⟩,λh=>absurd rfl h⟩
def i30:TI:=⟨5,120,ab,bn #[(f0 "Store" 27 0 "" 0),(f0 "Marks" 28 3 "" 72),(f0 "Left" 28 4 "" 96)],[.sl ab 0 0 (λ_=>[]),.sl ab 0 0 (λ_=>[]),.sl ab 0 0 (λ_=>[]),.sl ab 0 0 (λ_=>[]),.sl ab 0 0 (λ_=>[])],[]⟩
def g30:bH ah 30 i30:=⟨Tryz.underlying30,rfl,⟨_,_,bz Tryz.type30,rfl,rfl,rfl,rfl,⟨_,rfl⟩,rfl⟩,λh=>absurd rfl h⟩
def i32:TI:=⟨4,40,ab,bn #[(f0 "Kind" 3 0 "" 0),(f0 "N" 3 1 "" 8),(f0 "M" 3 2 "" 16),(f0 "Body" 9 3 "" 24)],[.int .i64 0,.int .i64 0,.int .i64 0,.str []],[TypeDesc.int IntKind.i64,TypeDesc.int IntKind.i64,TypeDesc.int IntKind.i64,TypeDesc.string]⟩
def g32:bH ah 32 i32:=⟨Tryz.underlying32,rfl,⟨_,_,bz Tryz.type32,rfl,rfl,rfl,rfl,⟨_,rfl⟩,rfl⟩,λ_=>jO (fs:=[(f0 "Kind" 3 0 "" 0),(f0 "N" 3 1 "" 8),(f0 "M" 3 2 "" 16),(f0 "Body" 9 3 "" 24)]) Tryz.underlying32 (by decide +kernel) Tryz.eqGuardType32 ⟨by decide,rfl,Tryz.underlying3,av,by decide,rfl,Tryz.underlying3,av,by decide,rfl,Tryz.underlying3,av,by decide,rfl,Tryz.underlying9,av,av⟩⟩
def i33:TI:=⟨1,24,ae,TypeDesc.slice 48,[.sl ab 0 0 (λ_=>[])],[]⟩
def g33:bH ah 33 i33:=⟨Tryz.underlying33,rfl,⟨_,_,bz Tryz.type33,rfl,rfl,rfl,rfl,⟨#[],rfl⟩,rfl⟩,λh=>absurd rfl h⟩
def i35:TI:=⟨12,216,ab,bn #[(f0 "Key" 3 0 "" 0),(f0 "Sweep" 30 1 "" 8),(f0 "Lie" 32 6 "" 128),(f0 "Keeps" 33 10 "" 168),(f0 "Found" 28 11 "" 192)],[.int .i64 0,.sl ab 0 0 (λ_=>[]),.sl ab 0 0 (λ_=>[]),.sl ab 0 0 (λ_=>[]),.sl ab 0 0 (λ_=>[]),.sl ab 0 0 (λ_=>[]),.int .i64 0,.int .i64 0,.int .i64 0,.str [],.sl ab 0 0 (λ_=>[]),.sl ab 0 0 (λ_=>[])],[]⟩
def g35:bH ah 35 i35:=⟨Tryz.underlying35,rfl,⟨_,_,bz Tryz.type35,rfl,rfl,rfl,rfl,⟨_,rfl⟩,rfl⟩,λh=>absurd rfl h⟩
def i42:TI:=⟨1,8,ae,TypeDesc.pointer 65,[.l9],[]⟩
def g42:bH ah 42 i42:=⟨Tryz.underlying42,rfl,⟨_,_,bz Tryz.type42,rfl,rfl,rfl,rfl,⟨#[],rfl⟩,rfl⟩,λh=>absurd rfl h⟩
def i48:TI:=⟨2,16,ab,bn #[(f0 "Long" 3 0 "" 0),(f0 "Sum" 3 1 "" 8)],[.int .i64 0,.int .i64 0],[TypeDesc.int IntKind.i64,TypeDesc.int IntKind.i64]⟩
def g48:bH ah 48 i48:=⟨Tryz.underlying48,rfl,⟨_,_,bz Tryz.type48,rfl,rfl,rfl,rfl,⟨_,rfl⟩,rfl⟩,λ_=>jO (fs:=[(f0 "Long" 3 0 "" 0),(f0 "Sum" 3 1 "" 8)]) Tryz.underlying48 (by decide +kernel) Tryz.eqGuardType48 ⟨by decide,rfl,Tryz.underlying3,av,by decide,rfl,Tryz.underlying3,av,av⟩⟩
def i53:TI:=⟨1,24,ae,TypeDesc.slice 88,[.sl ab 0 0 (λ_=>[])],[]⟩
def YD:bH ah 53 i53:=⟨Tryz.underlying53,rfl,⟨_,_,bz Tryz.type53,rfl,rfl,rfl,rfl,⟨#[],rfl⟩,rfl⟩,λh=>absurd rfl h⟩
def i55:TI:=⟨2,32,ab,bn #[(f0 "No" 3 0 "" 0),(f0 "Item" 53 1 "" 8)],[.int .i64 0,.sl ab 0 0 (λ_=>[])],[]⟩
def g55:bH ah 55 i55:=⟨Tryz.underlying55,rfl,⟨_,_,bz Tryz.type55,rfl,rfl,rfl,rfl,⟨_,rfl⟩,rfl⟩,λh=>absurd rfl h⟩
def i57:TI:=⟨1,24,ae,TypeDesc.slice 90,[.sl ab 0 0 (λ_=>[])],[]⟩
def g57:bH ah 57 i57:=⟨Tryz.underlying57,rfl,⟨_,_,bz Tryz.type57,rfl,rfl,rfl,rfl,⟨#[],rfl⟩,rfl⟩,λh=>absurd rfl h⟩
def i59:TI:=⟨2,32,ab,bn #[(f0 "No" 3 0 "" 0),(f0 "All" 57 1 "" 8)],[.int .i64 0,.sl ab 0 0 (λ_=>[])],[]⟩
def g59:bH ah 59 i59:=⟨Tryz.underlying59,rfl,⟨_,_,bz Tryz.type59,rfl,rfl,rfl,rfl,⟨_,rfl⟩,rfl⟩,λh=>absurd rfl h⟩
def i63:TI:=⟨1,8,ae,TypeDesc.pointer 27,[.l9],[]⟩
def g63:bH ah 63 i63:=⟨Tryz.underlying63,rfl,⟨_,_,bz Tryz.type63,rfl,rfl,rfl,rfl,⟨#[],rfl⟩,rfl⟩,λh=>absurd rfl h⟩
def i65:TI:=⟨2,32,ab,bn #[(f0 "b" 22 0 "loop.example/depositary/spec" 0),(f0 "p" 3 1 "loop.example/depositary/spec" 24)],[.sl ab 0 0 (λ_=>[]),.int .i64 0],[]⟩
def g65:bH ah 65 i65:=⟨Tryz.underlying65,rfl,⟨_,_,bz Tryz.type65,rfl,rfl,rfl,rfl,⟨_,rfl⟩,rfl⟩,λh=>absurd rfl h⟩
def i69:TI:=⟨1,24,ae,TypeDesc.slice 129,[.sl ab 0 0 (λ_=>[])],[]⟩
def YK:bH ah 69 i69:=⟨Tryz.underlying69,rfl,⟨_,_,bz Tryz.type69,rfl,rfl,rfl,rfl,⟨#[],rfl⟩,rfl⟩,λh=>absurd rfl h⟩
def i71:TI:=⟨8,104,ab,bn #[(f0 "Kind" 3 0 "" 0),(f0 "By" 3 1 "" 8),(f0 "Tree" 69 2 "" 16),(f0 "Lie" 32 3 "" 40),(f0 "Keep" 28 7 "" 80)],[.int .i64 0,.int .i64 0,.sl ab 0 0 (λ_=>[]),.int .i64 0,.int .i64 0,.int .i64 0,.str [],.sl ab 0 0 (λ_=>[])],[]⟩
def g71:bH ah 71 i71:=⟨Tryz.underlying71,rfl,⟨_,_,bz Tryz.type71,rfl,rfl,rfl,rfl,⟨_,rfl⟩,rfl⟩,λh=>absurd rfl h⟩
def i86:TI:=⟨2,16,ab,bn #[(f0 "By" 3 0 "" 0),(f0 "Snap" 3 1 "" 8)],[.int .i64 0,.int .i64 0],[TypeDesc.int IntKind.i64,TypeDesc.int IntKind.i64]⟩
def g86:bH ah 86 i86:=⟨Tryz.underlying86,rfl,⟨_,_,bz Tryz.type86,rfl,rfl,rfl,rfl,⟨_,rfl⟩,rfl⟩,λ_=>jO (fs:=[(f0 "By" 3 0 "" 0),(f0 "Snap" 3 1 "" 8)]) Tryz.underlying86 (by decide +kernel) Tryz.eqGuardType86 ⟨by decide,rfl,Tryz.underlying3,av,by decide,rfl,Tryz.underlying3,av,av⟩⟩
def i88:TI:=⟨2,24,ab,bn #[(f0 "Name" 3 0 "" 0),(f0 "Body" 9 1 "" 8)],[.int .i64 0,.str []],[TypeDesc.int IntKind.i64,TypeDesc.string]⟩
def g88:bH ah 88 i88:=⟨Tryz.underlying88,rfl,⟨_,_,bz Tryz.type88,rfl,rfl,rfl,rfl,⟨_,rfl⟩,rfl⟩,λ_=>jO (fs:=[(f0 "Name" 3 0 "" 0),(f0 "Body" 9 1 "" 8)]) Tryz.underlying88 (by decide +kernel) Tryz.eqGuardType88 ⟨by decide,rfl,Tryz.underlying3,av,by decide,rfl,Tryz.underlying9,av,av⟩⟩
def i90:TI:=⟨2,40,ab,bn #[(f0 "Path" 9 0 "" 0),(f0 "Names" 28 1 "" 16)],[.str [],.sl ab 0 0 (λ_=>[])],[]⟩
def g90:bH ah 90 i90:=⟨Tryz.underlying90,rfl,⟨_,_,bz Tryz.type90,rfl,rfl,rfl,rfl,⟨_,rfl⟩,rfl⟩,λh=>absurd rfl h⟩
def i112:TI:=⟨1,24,ae,TypeDesc.slice 55,[.sl ab 0 0 (λ_=>[])],[]⟩
def YL:bH ah 112 i112:=⟨Tryz.underlying112,rfl,⟨_,_,bz Tryz.type112,rfl,rfl,rfl,rfl,⟨#[],rfl⟩,rfl⟩,λh=>absurd rfl h⟩
def i114:TI:=⟨3,72,ab,bn #[{ name:= "packed",type:=112,offset:=0,embedded:=ab,tag:= "",pkgPath:= "loop.example/depositary/impl",byteOffset:=0 },(f0 "snaps" 24 1 "loop.example/depositary/impl" 24),(f0 "log" 25 2 "loop.example/depositary/impl" 48)],[.sl ab 0 0 (λ_=>[]),.sl ab 0 0 (λ_=>[]),.sl ab 0 0 (λ_=>[])],[]⟩
def YM:bH ah 114 i114:=⟨Tryz.underlying114,rfl,⟨_,_,bz Tryz.type114,rfl,rfl,rfl,rfl,⟨_,rfl⟩,rfl⟩,λh=>absurd rfl h⟩
def i129:TI:=⟨2,32,ab,bn #[(f0 "Path" 9 0 "" 0),(f0 "Text" 9 1 "" 16)],[.str [],.str []],[TypeDesc.string,TypeDesc.string]⟩
def VB:bH ah 129 i129:=⟨Tryz.underlying129,rfl,⟨_,_,bz Tryz.type129,rfl,rfl,rfl,rfl,⟨_,rfl⟩,rfl⟩,λ_=>jO (fs:=[(f0 "Path" 9 0 "" 0),(f0 "Text" 9 1 "" 16)]) Tryz.underlying129 (by decide +kernel) Tryz.eqGuardType129 ⟨by decide,rfl,Tryz.underlying9,av,by decide,rfl,Tryz.underlying9,av,av⟩⟩
def i139:TI:=⟨1,24,ae,TypeDesc.slice 9,[.sl ab 0 0 (λ_=>[])],[]⟩
def YN:bH ah 139 i139:=⟨Tryz.underlying139,rfl,⟨_,_,bz Tryz.type139,rfl,rfl,rfl,rfl,⟨#[],rfl⟩,rfl⟩,λh=>absurd rfl h⟩
def i154:TI:=⟨1,8,ae,TypeDesc.int IntKind.u64,[.int .u64 0],[]⟩
def YO:bH ah 154 i154:=⟨Tryz.underlying154,rfl,⟨_,_,bz Tryz.type154,rfl,rfl,rfl,rfl,⟨#[],rfl⟩,rfl⟩,λh=>absurd rfl h⟩
def i164:TI:=⟨1,24,ae,TypeDesc.slice 206,[.sl ab 0 0 (λ_=>[])],[]⟩
def YP:bH ah 164 i164:=⟨Tryz.underlying164,rfl,⟨_,_,bz Tryz.type164,rfl,rfl,rfl,rfl,⟨#[],rfl⟩,rfl⟩,λh=>absurd rfl h⟩
def i170:TI:=⟨1,8,ae,TypeDesc.int IntKind.i64,[.int .i64 0],[]⟩
def YQ:bH ah 170 i170:=⟨Tryz.underlying170,rfl,⟨_,_,bz Tryz.type170,rfl,rfl,rfl,rfl,⟨#[],rfl⟩,rfl⟩,λh=>absurd rfl h⟩
def i179:TI:=⟨1,4,ae,TypeDesc.int IntKind.u32,[.int .u32 0],[]⟩
def YR:bH ah 179 i179:=⟨Tryz.underlying179,rfl,⟨_,_,bz Tryz.type179,rfl,rfl,rfl,rfl,⟨#[],rfl⟩,rfl⟩,λh=>absurd rfl h⟩
def i181:TI:=⟨1,8,ae,TypeDesc.int IntKind.u64,[.int .u64 0],[]⟩
def YS:bH ah 181 i181:=⟨Tryz.underlying181,rfl,⟨_,_,bz Tryz.type181,rfl,rfl,rfl,rfl,⟨#[],rfl⟩,rfl⟩,λh=>absurd rfl h⟩
def i182:TI:=⟨1,24,ae,TypeDesc.slice 193,[.sl ab 0 0 (λ_=>[])],[]⟩
def YT:bH ah 182 i182:=⟨Tryz.underlying182,rfl,⟨_,_,bz Tryz.type182,rfl,rfl,rfl,rfl,⟨#[],rfl⟩,rfl⟩,λh=>absurd rfl h⟩
def i184:TI:=⟨0,0,ab,bn #[],[],[]⟩
def YU:bH ah 184 i184:=⟨Tryz.underlying184,rfl,⟨_,_,bz Tryz.type184,rfl,rfl,rfl,rfl,⟨_,rfl⟩,rfl⟩,λh=>absurd rfl h⟩
def i185:TI:=⟨0,0,ab,bn #[],[],[]⟩
def YV:bH ah 185 i185:=⟨Tryz.underlying185,rfl,⟨_,_,bz Tryz.type185,rfl,rfl,rfl,rfl,⟨_,rfl⟩,rfl⟩,λh=>absurd rfl h⟩
def i186:TI:=⟨0,0,ab,bn #[],[],[]⟩
def YW:bH ah 186 i186:=⟨Tryz.underlying186,rfl,⟨_,_,bz Tryz.type186,rfl,rfl,rfl,rfl,⟨_,rfl⟩,rfl⟩,λh=>absurd rfl h⟩
def i188:TI:=⟨1,8,ab,bn #[(f0 "_" 185 0 "sync/atomic" 0),(f0 "_" 186 0 "sync/atomic" 0),(f0 "v" 181 0 "sync/atomic" 0)],[.int .u64 0],[]⟩
def YX:bH ah 188 i188:=⟨Tryz.underlying188,rfl,⟨_,_,bz Tryz.type188,rfl,rfl,rfl,rfl,⟨_,rfl⟩,rfl⟩,λh=>absurd rfl h⟩
def i190:TI:=⟨2,16,ab,bn #[(f0 "noCopy" 184 0 "sync" 0),(f0 "state" 188 0 "sync" 0),(f0 "sema" 179 1 "sync" 8)],[.int .u64 0,.int .u32 0],[]⟩
def YY:bH ah 190 i190:=⟨Tryz.underlying190,rfl,⟨_,_,bz Tryz.type190,rfl,rfl,rfl,rfl,⟨_,rfl⟩,rfl⟩,λh=>absurd rfl h⟩
def i193:TI:=⟨2,24,ab,bn #[(f0 "piece" 9 0 "loop.example/depositary/impl" 0),(f0 "ok" 4 1 "loop.example/depositary/impl" 16)],[.str [],.bool ae],[TypeDesc.string,TypeDesc.bool]⟩
def YZ:bH ah 193 i193:=⟨Tryz.underlying193,rfl,⟨_,_,bz Tryz.type193,rfl,rfl,rfl,rfl,⟨_,rfl⟩,rfl⟩,λ_=>jO (fs:=[(f0 "piece" 9 0 "loop.example/depositary/impl" 0),(f0 "ok" 4 1 "loop.example/depositary/impl" 16)]) Tryz.underlying193 (by decide +kernel) Tryz.eqGuardType193 ⟨by decide,rfl,Tryz.underlying9,av,by decide,rfl,Tryz.underlying4,av,av⟩⟩
def i206:TI:=⟨2,16,ab,bn #[(f0 "Name" 3 0 "" 0),(f0 "Pack" 3 1 "" 8)],[.int .i64 0,.int .i64 0],[TypeDesc.int IntKind.i64,TypeDesc.int IntKind.i64]⟩
def Y0:bH ah 206 i206:=⟨Tryz.underlying206,rfl,⟨_,_,bz Tryz.type206,rfl,rfl,rfl,rfl,⟨_,rfl⟩,rfl⟩,λ_=>jO (fs:=[(f0 "Name" 3 0 "" 0),(f0 "Pack" 3 1 "" 8)]) Tryz.underlying206 (by decide +kernel) Tryz.eqGuardType206 ⟨by decide,rfl,Tryz.underlying3,av,by decide,rfl,Tryz.underlying3,av,av⟩⟩
def i211:TI:=⟨1,8,ae,TypeDesc.int IntKind.i64,[.int .i64 0],[]⟩
def Y1:bH ah 211 i211:=⟨Tryz.underlying211,rfl,⟨_,_,bz Tryz.type211,rfl,rfl,rfl,rfl,⟨#[],rfl⟩,rfl⟩,λh=>absurd rfl h⟩
def i213:TI:=⟨1,16,ae,TypeDesc.interface #[("Error",242)],[.nU],[]⟩
def Y2:bH ah 213 i213:=⟨Tryz.underlying213,rfl,⟨_,_,bz Tryz.type213,rfl,rfl,rfl,rfl,⟨#[],rfl⟩,rfl⟩,λh=>absurd rfl h⟩
def i216:TI:=⟨1,8,ae,TypeDesc.int IntKind.u64,[.int .u64 0],[]⟩
def Y3:bH ah 216 i216:=⟨Tryz.underlying216,rfl,⟨_,_,bz Tryz.type216,rfl,rfl,rfl,rfl,⟨#[],rfl⟩,rfl⟩,λh=>absurd rfl h⟩
def i220:TI:=⟨1,8,ae,TypeDesc.pointer 3,[.l9],[]⟩
def Y4:bH ah 220 i220:=⟨Tryz.underlying220,rfl,⟨_,_,bz Tryz.type220,rfl,rfl,rfl,rfl,⟨#[],rfl⟩,rfl⟩,λh=>absurd rfl h⟩
def i237:TI:=⟨1,8,ae,TypeDesc.pointer 239,[.l9],[]⟩
def Y5:bH ah 237 i237:=⟨Tryz.underlying237,rfl,⟨_,_,bz Tryz.type237,rfl,rfl,rfl,rfl,⟨#[],rfl⟩,rfl⟩,λh=>absurd rfl h⟩
def i239:TI:=⟨2,32,ab,bn #[(f0 "addr" 237 0 "strings" 0),(f0 "buf" 22 1 "strings" 8)],[.l9,.sl ab 0 0 (λ_=>[])],[]⟩
def Y6:bH ah 239 i239:=⟨Tryz.underlying239,rfl,⟨_,_,bz Tryz.type239,rfl,rfl,rfl,rfl,⟨_,rfl⟩,rfl⟩,λh=>absurd rfl h⟩
def i256:TI:=⟨1,8,ae,TypeDesc.pointer 252,[.l9],[]⟩
def Y7:bH ah 256 i256:=⟨Tryz.underlying256,rfl,⟨_,_,bz Tryz.type256,rfl,rfl,rfl,rfl,⟨#[],rfl⟩,rfl⟩,λh=>absurd rfl h⟩
def i289:TI:=⟨2,2,ab,bn #[(f0 "lo" 5 0 "unicode/utf8" 0),(f0 "hi" 5 1 "unicode/utf8" 1)],[.int .u8 0,.int .u8 0],[TypeDesc.int IntKind.u8,TypeDesc.int IntKind.u8]⟩
def Y8:bH ah 289 i289:=⟨Tryz.underlying289,rfl,⟨_,_,bz Tryz.type289,rfl,rfl,rfl,rfl,⟨_,rfl⟩,rfl⟩,λ_=>jO (fs:=[(f0 "lo" 5 0 "unicode/utf8" 0),(f0 "hi" 5 1 "unicode/utf8" 1)]) Tryz.underlying289 (by decide +kernel) Tryz.eqGuardType289 ⟨by decide,rfl,Tryz.underlying5,av,by decide,rfl,Tryz.underlying5,av,av⟩⟩
def i290:TI:=⟨32,32,ab,TypeDesc.array 16 289,[.int .u8 0,.int .u8 0,.int .u8 0,.int .u8 0,.int .u8 0,.int .u8 0,.int .u8 0,.int .u8 0,.int .u8 0,.int .u8 0,.int .u8 0,.int .u8 0,.int .u8 0,.int .u8 0,.int .u8 0,.int .u8 0,.int .u8 0,.int .u8 0,.int .u8 0,.int .u8 0,.int .u8 0,.int .u8 0,.int .u8 0,.int .u8 0,.int .u8 0,.int .u8 0,.int .u8 0,.int .u8 0,.int .u8 0,.int .u8 0,.int .u8 0,.int .u8 0],[]⟩
def Y9:bH ah 290 i290:=⟨Tryz.underlying290,rfl,⟨_,_,bz Tryz.type290,rfl,rfl,rfl,rfl,⟨_,rfl⟩,rfl⟩,λh=>absurd rfl h⟩
def i291:TI:=⟨1,8,ae,TypeDesc.pointer 308,[.l9],[]⟩
def Za:bH ah 291 i291:=⟨Tryz.underlying291,rfl,⟨_,_,bz Tryz.type291,rfl,rfl,rfl,rfl,⟨#[],rfl⟩,rfl⟩,λh=>absurd rfl h⟩
def i294:TI:=⟨0,0,ab,TypeDesc.array 0 16,[],[]⟩
def Zb:bH ah 294 i294:=⟨Tryz.underlying294,rfl,⟨_,_,bz Tryz.type294,rfl,rfl,rfl,rfl,⟨_,rfl⟩,rfl⟩,λh=>absurd rfl h⟩
def i296:TI:=⟨0,0,ab,bn #[(f0 "_" 294 0 "runtime" 0)],[],[]⟩
def Zc:bH ah 296 i296:=⟨Tryz.underlying296,rfl,⟨_,_,bz Tryz.type296,rfl,rfl,rfl,rfl,⟨_,rfl⟩,rfl⟩,λh=>absurd rfl h⟩
def i308:TI:=⟨1,16,ab,bn #[(f0 "s" 9 0 "errors" 0)],[.str []],[TypeDesc.string]⟩
def Zd:bH ah 308 i308:=⟨Tryz.underlying308,rfl,⟨_,_,bz Tryz.type308,rfl,rfl,rfl,rfl,⟨_,rfl⟩,rfl⟩,λ_=>jO (fs:=[(f0 "s" 9 0 "errors" 0)]) Tryz.underlying308 (by decide +kernel) Tryz.eqGuardType308 ⟨by decide,rfl,Tryz.underlying9,av,av⟩⟩
def tt:List (Nat×TI):=[(2,i2),(3,i3),(4,i4),(5,i5),(6,i6),(8,i8),(9,i9),(16,i16),(20,i20),(21,i21),(22,i22),(23,i23),(24,i24),(25,i25),(27,i27),(28,i28),(30,i30),(32,i32),(33,i33),(35,i35),(42,i42),(48,i48),(53,i53),(55,i55),(57,i57),(59,i59),(63,i63),(65,i65),(69,i69),(71,i71),(86,i86),(88,i88),(90,i90),(112,i112),(114,i114),(129,i129),(139,i139),(154,i154),(164,i164),(170,i170),(179,i179),(181,i181),(182,i182),(184,i184),(185,i185),(186,i186),(188,i188),(190,i190),(193,i193),(206,i206),(211,i211),(213,i213),(216,i216),(220,i220),(237,i237),(239,i239),(256,i256),(289,i289),(290,i290),(291,i291),(294,i294),(296,i296),(308,i308)]
def tok:db ah tt:=(db.cons g2 (db.cons g3 (db.cons g4 (db.cons g5 (db.cons g6 (db.cons g8 (db.cons g9 (db.cons g16 (db.cons g20 (db.cons g21 (db.cons g22 (db.cons g23 (db.cons g24 (db.cons g25 (db.cons g27 (db.cons g28 (db.cons g30 (db.cons g32 (db.cons g33 (db.cons g35 (db.cons g42 (db.cons g48 (db.cons YD (db.cons g55 (db.cons g57 (db.cons g59 (db.cons g63 (db.cons g65 (db.cons YK (db.cons g71 (db.cons g86 (db.cons g88 (db.cons g90 (db.cons YL (db.cons YM (db.cons VB (db.cons YN (db.cons YO (db.cons YP (db.cons YQ (db.cons YR (db.cons YS (db.cons YT (db.cons YU (db.cons YV (db.cons YW (db.cons YX (db.cons YY (db.cons YZ (db.cons Y0 (db.cons Y1 (db.cons Y2 (db.cons Y3 (db.cons Y4 (db.cons Y5 (db.cons Y6 (db.cons Y7 (db.cons Y8 (db.cons Y9 (db.cons Za (db.cons Zb (db.cons Zc (db.cons Zd db.nil)))))))))))))))))))))))))))))))))))))))))))))))))))))))))))))))
end R1
end
abbrev Bs:=List UInt8
abbrev dS(s:Bs):D:=.e (.one (.c (.str s)))
abbrev dI(n:Int):D:=.e (.one (.c (.int .i64 n)))
abbrev dU(n:Int):D:=.e (.one (.c (.int .u8 n)))
abbrev dB(b:Bool):D:=.e (.one (.c (.bool b)))
def kt{s:Bs}{i:Nat}:iO s i=s.getD i 0:=rfl
namespace R1
open Go.Proofs
variable {X:Cx ah}
def en:Tryz.prog.follows Departure.mixedOrders=ab:=rfl
def aE{X:Cx ah}{CT:List (Nat×dg)}(c:bD X CT)(ds:List (Nat×Bool)){N:Nat}{Qf:Post}(n:Nat){K d:List It}{φ b:Fr}{σ σ':List aW}{a:List Prop}
  (h:AM.eT tt CT ds N n K φ σ []=aa (d,b,σ',a)) (e:ag a) (k:AK X N Qf d .normal b σ'):AK X N Qf K .normal φ σ:=AK.eT en tok c ds n h e k
def aX{X:Cx ah}(ds:List (Nat×Bool)){N:Nat}{Qf:Post}(n:Nat){K c:List It}{φ b:Fr}{σ σ':List aW}{a:List Prop}
  (h:AM.eT tt [] ds N n K φ σ []=aa (c,b,σ',a)) (d:ag a) (k:AK X N Qf c .normal b σ'):AK X N Qf K .normal φ σ:=AK.eT en tok bD.nil ds n h d k
def bm{X:Cx ah}{N:Nat}{Qf:Post}{K c:List It}{φ b:Fr}{σ σ':List aW}{a:List Prop}
  (h:AM.eT tt [] [] N 100 K φ σ []=aa (c,b,σ',a)) (d:ag a) (k:AK X N Qf c .normal b σ'):AK X N Qf K .normal φ σ:=AK.eT en tok bD.nil [] 100 h d k
def dE{X:Cx ah}{N:Nat}{Qf:Post}{K c:List It}{φ b:Fr}{σ σ':List aW}{a:List Prop}
  (h:AM.eT tt [] [] N 200 K φ σ []=aa (c,b,σ',a)) (d:ag a) (k:AK X N Qf c .normal b σ'):AK X N Qf K .normal φ σ:=AK.eT en tok bD.nil [] 200 h d k
def l3(b:Int):Bool:=decide (97<=b)&&decide (b<=101)
def OH(b:Int):Ev X 104 [dU b] [] (dB (l3 b)) []:=by
 refine Ev.bQ Tryz.func104 rfl λ_=>?_
 by_cases h:97<=b
 .refine aX [(4,ab)] 100 rfl ?_ (AK.bo rfl ?_) <;> simp[ag,h,l3]
 .refine aX [(4,ae)] 100 rfl ?_ (AK.bo rfl ?_) <;> simp[ag,h,l3]
def eG(b:UInt8):Bool:=decide (97<=b.toNat)&&decide (b.toNat<=122)
def b8(s:Bs):Bool:=s.all eG
def sA{s:Bs}(h:∀ j,j<s.length->eG (s.getD j 0)=ab):b8 s=ab:=by
 simp only[b8,List.all_eq_true];intro b a;obtain⟨i,hi,rfl⟩:=dX a;have:=h i hi;simpa[ai,bl hi] using this
def kE{s:Bs}{j:Nat}(h:j<s.length)(a:eG (s.getD j 0)=ae):b8 s=ae:=by
 cases b:b8 s with
 |false=>rfl
 |true =>
  simp only[b8,List.all_eq_true] at b;have:=b _ (nH h);simp[ai,bl h] at a;rw[a] at this;cases this
def E3(s:Bs):Ev X 105 [dS s] [] (dB (b8 s)) []:=by
 refine Ev.bQ Tryz.func105 rfl λe=>?_
 have k:=e.str 0 rfl;refine bm rfl av ?_;refine AK.wa (λi=>i<=s.length/\∀ j,j<i->eG (s.getD j 0)=ab) (λi:Nat=>[(0,dS s),(3,dI i)]) (λ_=>[]) (λi=>s.length-i) 0 rfl (by simp[ag.cat,ag]) ⟨by omega,by omega⟩ rfl ?_
 rintro i ⟨hi,a⟩
 by_cases h:i<s.length
 .generalize c:s.getD i 0=b
  by_cases f:b.toNat<97
  .refine aX [(7,ab),(13,ab)] 100 rfl ?_ (AK.hY (bZ.zero rfl ?_))
   .simp only[ag,kt,bd,c];omega
   .rw[ag,kE h (by rw[c];simp only[eG,qV,bR];omega)]
  .by_cases g:b.toNat>122
   .refine aX [(7,ab),(13,ae),(18,ab)] 100 rfl ?_ (AK.hY (bZ.zero rfl ?_))
    .simp only[ag,kt,bd,bR,c];omega
    .rw[ag,kE h (by rw[c];simp only[eG,qV,bR];omega)]
   .refine aX [(7,ab),(13,ae),(18,ae)] 100 rfl ?_ (AK.again (i+1) rfl ?_ ?_ ?_ rfl)
    .simp only[ag,kt,bd,bR,c,bx];omega
    .simp[ag.cat,ag]
    .refine⟨by omega,λj d=>?_⟩
     rcases qR.1 d with d|rfl
     .exact a j d
     .rw[c];simp only[eG,bO,bd];omega
    .omega
 .refine aX [(7,ae)] 100 rfl (by simp[ag];omega) (AK.leave rfl rfl ?_)
  refine bm rfl av (AK.bo rfl ?_);rw[ag,sA (λj d=>a j (by omega))]
end R1
def Ev.args{P:aq}{X:Cx P}{f:aV}{args PW:List D}{σ σ':List aW}{res:D}(h:Ev X f PW σ res σ')(hl:∀ s vs,cv σ s vs args->cv σ s vs PW):Ev X f args σ res σ' :=
 ⟨h.1,λs vs hr hh=>h.2 s vs (hl s vs hr) hh⟩
def lh(a:Nat):D->Option (Nat×(Nat->List C))
 |.e (.one (.c (.sl _ k n es)))=>match aA k a with
  |true=>aa (n,es)
  |false=>match aA n 0 with
   |true=>aa (0,λ_=>[])
   |false=>af
 |_=>af
def LS{i:Nat}{d:D}{n:Nat}{es:Nat->List C}(h:lh i d=aa (n,es)){σ:List aW}{s:St}{v:ak}(r:c8 σ s v d):Rd s.M v (.sl ae i n es):=by
 unfold lh at h;split at h
 .rename_i t k u es'
  split at h
  .rename_i g
   have e:=bT g;subst e;cases h;exact(fC r).loose
  .split at h
   .rename_i l
    have e:=bT l;subst e;cases h;have r':=fC r;cases r' with
    |sl b off f a j o g m p q=>exact Rd.sl b off f a j (by simp) (by omega) (by omega) (by omega) (by omega)
   .cases h
 .cases h
def sH{α:Type}(enc:α->List C)(bC:α)(l:List α):Nat->List C:=λi=>enc (l.getD i bC)
structure hZ (α:Type) where
 k:Nat
 enc:α->List C
 dec:List C->α
 bC:α
 inv:∀ a,dec (enc a)=a
 len:∀ a,(enc a).length=k
namespace hZ
variable {α:Type}(c:hZ α)
def list(n:Nat)(es:Nat->List C):List α:=(bh n).map λi=>c.dec (es i)
def fn(l:List α):Nat->List C:=sH c.enc c.bC l
def fits(n:Nat)(es:Nat->List C):Prop:=∀ i,i<n->es i=c.enc (c.dec (es i))
def sl(l:List α):D:=.e (.one (.c (.sl ae c.k l.length (c.fn l))))
def CU{n:Nat}{es:Nat->List C}:(c.list n es).length=n:=by simp[list]
def list_fn(l:List α):c.list l.length (c.fn l)=l:=by
 apply pC
 .simp[list]
 .intro i b a;simp[list,fn,sH,ai,bl a,c.inv]
def aH(l:List α){n:Nat}:c.fits n (c.fn l):=λi _=>by simp[fn,sH,c.inv]
def OI{n:Nat}{es:Nat->List C}(h:c.fits n es):aR n es (c.fn (c.list n es)):=by
 intro i hi;rw[h i hi];simp[fn,sH,list,ai,hi]
def kn{d:D}{n:Nat}{es:Nat->List C}(h:lh c.k d=aa (n,es))(e:c.fits n es){σ:List aW}{s:St}{v:ak}(r:c8 σ s v d):c8 σ s v (c.sl (c.list n es)):=by
 have b:=LS h r;have a:=b.Dn (c.OI e);show Rd s.M v (.sl ae c.k (c.list n es).length _);rw[c.CU];exact a
end hZ
def cy(s:Bs)(i:Nat):Int:=(s.getD i 0).toNat
def cu(s:Bs) (j:Int):((iO s j).toNat:Int)=cy s j.toNat:=rfl
abbrev bE:=Bs×Bs
def B8(cs:List C)(j:Nat):Bs:=match fA j cs with|some (.str s)=>s|_=>[]
def yv(cs:List C)(j:Nat):Int:=match fA j cs with|some (.int _ s)=>s|_=>0
def cF:hZ bE:={ k:=2,enc:=λf=>[.str f.1,.str f.2],dec:=λcs=>(B8 cs 0,B8 cs 1),bC:=([],[]),inv:=λ_=>rfl,len:=λ_=>rfl }
namespace R1
open Go.Proofs
variable {X:Cx ah}
def Sl:dg:=λargs σ=>match args,σ with
 |[.e (.one (.c (.int .u8 b)))],[]=>aa (dB (l3 b),[],[])
 |_,_=>af
def t104:dD X 104 Sl:=by
 intro args σ res σ' obs h _;unfold Sl at h;split at h
 .cases h;exact OH _
 .cases h
def Ou:dg:=λargs σ=>match args,σ with
 |[.e (.one (.c (.str b)))],[]=>aa (dB (b8 b),[],[])
 |_,_=>af
def t105:dD X 105 Ou:=by
 intro args σ res σ' obs h _;unfold Ou at h;split at h
 .cases h;exact E3 _
 .cases h
def ct1:List (Nat×dg):=[(104,Sl),(105,Ou)]
def CV:bD X ct1:=bD.cons t104 (bD.cons t105 bD.nil)
def dr(s:Bs):Bool:=if s.length=1 then l3 (cy s 0) else if s.length=3 then l3 (cy s 0)&&(cy s 1==47)&&l3 (cy s 2) else ae
def Ie(s:Bs):Ev X 84 [dS s] [] (dB (dr s)) []:=by
 refine Ev.bQ Tryz.func84 rfl λf=>?_
 by_cases e:s.length=1
 .refine aE CV [(6,ab)] 100 rfl ?_ (AK.bo rfl ?_)
  .simp[ag,e]
  .simp[ag,dr,e,cu]
 .by_cases a:s.length=3
  .by_cases b:l3 (cy s 0)=ab
   .by_cases d:cy s 1=47
    .refine aE CV [(6,ae),(11,ab),(14,ab),(18,ab)] 100 rfl ?_ (AK.bo rfl ?_)
     .simp[ag,a,cu,b,d]
     .simp[ag,dr,a,b,d,cu]
    .refine aE CV [(6,ae),(11,ab),(14,ab),(18,ae)] 100 rfl ?_ (AK.bo rfl ?_)
     .simp[ag,a,cu,b,d]
     .simp[ag,dr,a,b,d]
   .refine aE CV [(6,ae),(11,ab),(14,ae)] 100 rfl ?_ (AK.bo rfl ?_)
    .simp[ag,a,cu,b]
    .simp[ag,dr,a,b]
  .refine aE CV [(6,ae),(11,ae)] 100 rfl ?_ (AK.bo rfl ?_)
   .simp[ag];omega
   .simp[ag,dr,e,a]
def dN(s:Bs):Bool:=decide (s.length<=40)&&b8 s
def Ig(s:Bs):Ev X 85 [dS s] [] (dB (dN s)) []:=by
 refine Ev.bQ Tryz.func85 rfl λb=>?_
 by_cases a:s.length<=40
 .refine aE CV [(5,ab)] 100 rfl ?_ (AK.bo rfl ?_)
  .simp[ag];omega
  .simp[ag,dN,a]
 .refine aE CV [(5,ae)] 100 rfl ?_ (AK.bo rfl ?_)
  .simp[ag];omega
  .simp[ag,dN,a]
def clash(a b:Bs):Bool:=(a.length != b.length)&&(cy a 0==cy b 0)
def LU(a b:Bs)(h:a≠[])(g:b≠[]):Ev X 86 [dS a,dS b] [] (dB (clash a b)) []:=by
 have e:=List.length_pos_iff.2 h;have f:=List.length_pos_iff.2 g;refine Ev.bQ Tryz.func86 rfl λi=>?_
 by_cases d:a.length=b.length
 .refine aX [(9,ae)] 100 rfl ?_ (AK.bo rfl ?_)
  .simp[ag,d]
  .simp[ag,clash,d]
 .refine aX [(9,ab)] 100 rfl ?_ (AK.bo rfl ?_)
  .simp[ag,e,f];omega
  .simp[ag,clash,d,cu]
end R1
end Go.AM
namespace Go.AM.R1
section
open Go.Proofs
variable {X:Cx ah}
def Ze:dg:=λargs σ=>match args,σ with
 |[.e (.one (.c (.str b)))],[]=>aa (dB (dr b),[],[])
 |_,_=>af
def t84:dD X 84 Ze:=by
 intro args σ res σ' obs h _;unfold Ze at h;split at h
 .cases h;exact Ie _
 .cases h
def Wu:dg:=λargs σ=>match args,σ with
 |[.e (.one (.c (.str b)))],[]=>aa (dB (dN b),[],[])
 |_,_=>af
def t85:dD X 85 Wu:=by
 intro args σ res σ' obs h _;unfold Wu at h;split at h
 .cases h;exact Ig _
 .cases h
def Zf:dg:=λargs σ=>match args,σ with
 |[.e (.one (.c (.str a))),.e (.one (.c (.str b)))],[]=>aa (dB (clash a b),[],[a≠[],b≠[]])
 |_,_=>af
def t86:dD X 86 Zf:=by
 intro args σ res σ' obs h a;unfold Zf at h;split at h
 .cases h;exact LU _ _ a.1 a.2
 .cases h
def ct2:List (Nat×dg):=(84,Ze)::(85,Wu)::(86,Zf)::ct1
def tA:bD X ct2:=bD.cons t84 (bD.cons t85 (bD.cons t86 CV))
def fu(t:List bE)(i:Nat):Bs:=(t.getD i ([],[])).1
def Aw(t:List bE)(i:Nat):Bs:=(t.getD i ([],[])).2
def gZ(t:List bE)(i:Nat):(t.getD i cF.bC).1=fu t i:=rfl
def pw(t:List bE)(i:Nat):(t.getD i cF.bC).2=Aw t i:=rfl
def gp(t:List bE)(i:Nat):Bool:=dr (fu t i)&&dN (Aw t i)&&(i==0||bk (fu t (i-1)) (fu t i))&&(bh i).all λj=>!clash (fu t j) (fu t i)
def dj(t:List bE):Bool:=(bh t.length).all (gp t)&&decide (t.length<=6)
def b6{n:Nat}{p:Nat->Bool}:(bh n).all p=ab↔∀ i,i<n->p i=ab:=by simp[List.all_eq_true]
def qa{s:Bs}(h:dr s=ab):s≠[]:=by rintro rfl;simp[dr] at h
def lB{t:List bE}{i:Nat}(hi:i<t.length)(h:gp t i=ae):dj t=ae:=by
 cases a:dj t with
 |false=>rfl
 |true =>
  simp only[dj,bO] at a
  grind
def Ih(t:List bE):Ev X 58 [cF.sl t] [] (dB (dj t)) []:=by
 refine Ev.bQ Tryz.func58 rfl λu=>?_
 have s:=u.sl 0 rfl;refine aE tA [] 100 rfl av ?_;refine AK.wa (λi=>i<=t.length/\∀ j,j<i->gp t j=ab) (λi:Nat=>[(0,cF.sl t),(3,dI i)]) (λ_=>[]) (λi=>t.length-i) 0 rfl (by simp[ag.cat,ag,aR]) ⟨by omega,by omega⟩ rfl ?_
 rintro i ⟨hi,l⟩
 by_cases h:i<t.length
 .by_cases b:dr (fu t i)=ab
  .by_cases c:dN (Aw t i)=ab
   .by_cases m:i=0∨bk (fu t (i-1)) (fu t i)=ab
    .apply AK.join [(0,cF.sl t),(3,dI i),(4,dI 0)] []
     .intro p
      by_cases f:i=0
      .refine aE tA [(8,ab),(16,ab),(24,ab),(29,ae)] 100 rfl ?_ (p _ _ rfl ?_)
       .simp[-ai,ag,h,gZ,pw,b,c];omega
       .simp[ag.cat,ag,aR]
      .have g:=m.resolve_left f;have d:bx .i64 ((i:Int)-1):=by simp only[bx];omega
       have n:((i:Int)-1).toNat=i-1:=by omega
       refine aE tA [(8,ab),(16,ab),(24,ab),(29,ab),(42,ae)] 100 rfl ?_ (p _ _ rfl ?_)
       .simp[-ai,ag,h,gZ,pw,b,c,g,d,n];omega
       .simp[ag.cat,ag,aR]
     ·
      have o:gp t i=(bh i).all (λj=>!clash (fu t j) (fu t i)):=by
       rcases m with rfl|g
       .simp[gp,b,c]
       .simp[gp,b,c,g]
      refine AK.wa (λj=>j<=i/\∀ q,q<j->clash (fu t q) (fu t i)=ae) (λj:Nat=>[(0,cF.sl t),(3,dI i),(4,dI j)]) (λ_=>[]) (λj=>i-j) 0 rfl (by simp[ag.cat,ag,aR]) ⟨by omega,by omega⟩ rfl ?_
      rintro j ⟨w,v⟩
      by_cases a:j<i
      .have k:dr (fu t j)=ab:=by
        have:=l j a;simp only[gp,bO] at this;exact this.1.1.1
       cases r:clash (fu t j) (fu t i) with
       |true =>
        refine aE tA [(47,ab),(60,ab)] 100 rfl ?_ (AK.hY (AK.rY (bZ.zero rfl ?_)))
        .simp[-ai,ag,h,a,gZ,r,qa b,qa k];omega
        .have:gp t i=ae:=by
          grind
         simp[ag,lB h this]
       |false =>
        refine aE tA [(47,ab),(60,ae)] 100 rfl ?_ (AK.again (j+1) rfl ?_ ?_ ?_ rfl)
        .simp[-ai,ag,h,a,gZ,r,qa b,qa k,bx];omega
        .simp[ag.cat,ag,aR]
        .grind
        .omega
      .have a:j=i:=by omega
       subst a;refine aE tA [(47,ae)] 100 rfl (by simp[ag]) (AK.leave rfl rfl ?_)
       refine aE tA [] 100 rfl ?_ (AK.again (j+1) rfl ?_ ?_ ?_ rfl)
       .simp[ag,bx];omega
       .simp[ag.cat,ag,aR]
       .grind
       .omega
    .have f:i≠0:=λe=>m (.inl e)
     have g:bk (fu t (i-1)) (fu t i)=ae:=by simpa usingλe=>m (.inr e)
     have d:bx .i64 ((i:Int)-1):=by simp only[bx];omega
     have n:((i:Int)-1).toNat=i-1:=by omega
     refine aE tA [(8,ab),(16,ab),(24,ab),(29,ab),(42,ab)] 100 rfl ?_ (AK.hY (bZ.zero rfl ?_))
     .simp[-ai,ag,h,gZ,pw,b,c,g,d,n];omega
     .simp[ag,lB h (by simp[gp,f,g])]
   .refine aE tA [(8,ab),(16,ab),(24,ae)] 100 rfl ?_ (AK.hY (bZ.zero rfl ?_))
    .simp[-ai,ag,h,gZ,pw,b,c]
    .simp[ag,lB h (by simp[gp,c])]
  .refine aE tA [(8,ab),(16,ae)] 100 rfl ?_ (AK.hY (bZ.zero rfl ?_))
   .simp[-ai,ag,h,gZ,b]
   .simp[ag,lB h (by simp[gp,b])]
 .refine aE tA [(8,ae)] 100 rfl (by simp[ag];omega) (AK.leave rfl rfl ?_)
  refine aE tA [] 100 rfl av (AK.bo rfl ?_);simp only[ag,dj]
  grind
end
end Go.AM.R1
namespace Go.AM
section
open Go.Conc (G)
def GW(σ σ':List aW):Prop:=∀ (s:St),aJ σ s->aJ σ' s/\Step σ s σ' s/\∀ (v:ak)(d:D),c8 σ s v d->c8 σ' s v d
def XV:aW->aW->Option (List Prop)
 |.vec E k n es,.vec E' k' n' es'=>match aA E E',aA k k' with
  |true,ab=>aa [n=n',aR n es es']
  |_,_=>af
 |.cells E cs,.cells E' l8=>match aA E E' with
  |true=>Px cs l8
  |false=>af
 |.dead,.dead=>aa []
 |.dz H,.dz H'=>aa [H=H']
 |.loop N φ r,.loop N' φ' r'=>aa [aW.loop N φ r=aW.loop N' φ' r']
 |.rq,.rq=>aa []
 |.buf E k n es,.buf E' k' n' es'=>match aA E E',aA k k' with
  |true,ab=>aa [n=n',aR n es es']
  |_,_=>af
 |_,_=>af
def sX:List aW->List aW->Option (List Prop)
 |[],[]=>aa []
 |a::r,b::q=>match XV a b with
  |some p=>match sX r q with
   |some ps=>aa (kh p ps)
   |none=>af
  |none=>af
 |_,_=>af
def Ny(B B':aW):Prop :=
 (∀ E k n es,B=.vec E k n es->∃ es',B'=.vec E k n es'/\aR n es es')/\((∀ E k n es,B≠.vec E k n es)->(∀ E k n es,B'≠.vec E k n es)/\(B=B'∨(∃ E cs l8,B=.cells E cs/\B'=.cells E l8/\∀ σ s vs,dG σ s vs cs->dG σ s vs l8)∨∃ E k n es es',B=.buf E k n es/\B'=.buf E k n es'/\aR n es es'))
def QP{B B':aW}{ps:List Prop}(h:XV B B'=aa ps)(b:ag ps):Ny B B':=by
 unfold XV at h;split at h
 .rename_i E k n es E' k' n' es'
  split at h
  .rename_i a g
   cases h;have d:=bT a;have f:=bT g;obtain⟨i,l⟩:n=n'/\aR n es es':=b;subst d f i;refine⟨λE0 k0 n0 VZ he=>?_,λo=>absurd rfl (o _ _ _ _)⟩
   cases he;exact⟨es',rfl,l⟩
  .cases h
 .rename_i E cs E' l8
  split at h
  .rename_i a
   have d:=bT a;subst d;exact⟨λ_ _ _ _ he=>(by cases he),λ_=>⟨λ_ _ _ _ he=>(by cases he),.inr (.inl ⟨E,cs,l8,rfl,rfl,λσ s vs r=>DY h b r⟩)⟩⟩
  .cases h
 .exact⟨λ_ _ _ _ he=>(by cases he),λ_=>⟨λ_ _ _ _ he=>(by cases he),.inl rfl⟩⟩
 .cases h
  rename_i H H'
  have e:H=H':=b;subst e;exact⟨λ_ _ _ _ he=>(by cases he),λ_=>⟨λ_ _ _ _ he=>(by cases he),.inl rfl⟩⟩
 .cases h
  rename_i N φ r m j r'
  have e:aW.loop N φ r=aW.loop m j r':=b;exact⟨λ_ _ _ _ he=>(by cases he),λ_=>⟨λ_ _ _ _ he=>(by cases he),.inl e⟩⟩
 .exact⟨λ_ _ _ _ he=>(by cases he),λ_=>⟨λ_ _ _ _ he=>(by cases he),.inl rfl⟩⟩
 .rename_i E k n es E' k' n' es'
  split at h
  .rename_i a g
   cases h;have d:=bT a;have f:=bT g;obtain⟨i,l⟩:n=n'/\aR n es es':=b;subst d f i;exact⟨λ_ _ _ _ he=>(by cases he),λ_=>⟨λ_ _ _ _ he=>(by cases he),.inr (.inr ⟨E,k,n,es,es',rfl,rfl,l⟩)⟩⟩
  .cases h
 .cases h
def BK:∀ {σ σ':List aW}{ps:List Prop},sX σ σ'=aa ps->ag ps->σ'.length=σ.length/\∀ (l:Nat)(B B':aW),σ[l]?=aa B->σ'[l]?=aa B'->Ny B B'
 |[],[],_,_,_=>⟨rfl,λl B B' h=>by simp at h⟩
 |[],_::_,_,h,_=>by cases h
 |_::_,[],_,h,_=>by cases h
 |a::r,b::q,ps,h,d=>by
  simp only[sX] at h;split at h
  .rename_i p e
   split at h
   .rename_i p2 h2
    cases h;rw[ag.cat] at d;obtain⟨f,g⟩:=BK h2 d.2;refine⟨by simp[f],λl B B' hB l7=>?_⟩
    cases l with
    |zero=>simp at hB l7;subst hB l7;exact QP e d.1
    |succ l=>grind
   .cases h
  .cases h
def mD{σ σ':List aW}{ps:List Prop}(h:sX σ σ'=aa ps)(hp:ag ps):GW σ σ':=by
 obtain⟨Y,hg⟩:=BK h hp;intro s J;have S:∀ (l:Nat) (B:aW),σ[l]?=aa B->∃ B',σ'[l]?=aa B'/\Ny B B':=by
  grind
 have get:∀ (l:Nat) (B':aW),σ'[l]?=aa B'->∃ B,σ[l]?=aa B/\Ny B B':=by
  grind
 have i:∀ (l:Nat),(∀ B,σ[l]?=aa B->B.gr=ae)->∀ B,σ'[l]?=aa B->B.gr=ae:=by
  intro l hn B' he;obtain⟨B,q,j⟩:=get l _ he;have u:=hn B q;rcases(j.2 (λE k n es e=>by rw[e] at u;cases u)).2 with rfl|⟨E,cs,z,rfl,rfl,_⟩|⟨E,k,n,es,es',rfl,rfl,_⟩
  .exact u
  .rfl
  .cases u
 have W:∀ (l:Nat) E k n es,σ'[l]?=aa (aW.buf E k n es)->∃ es',σ[l]?=aa (aW.buf E k n es'):=by
  intro l E k n es he;obtain⟨B,q,j⟩:=get l _ he
  by_cases p:∃ E k n es,B=aW.vec E k n es
  .obtain⟨E1,k1,n1,T,rfl⟩:=p;obtain⟨es',f,_⟩:=j.1 _ _ _ _ rfl;cases f
  .rcases(j.2 (λE k n es e=>p ⟨E,k,n,es,e⟩)).2 with rfl|⟨E,cs,z,rfl,h,_⟩|⟨E,k,n,es,es',rfl,h,_⟩
   .exact⟨es,q⟩
   .cases h
   .cases h;exact⟨_,q⟩
 have I:∀ (l:Nat) E k n es,σ'[l]?=aa (aW.vec E k n es)->∃ es',σ[l]?=aa (aW.vec E k n es'):=by
  intro l E k n es he;obtain⟨B,q,j⟩:=get l _ he
  by_cases p:∃ E k n es,B=aW.vec E k n es
  .obtain⟨E1,k1,n1,T,rfl⟩:=p;obtain⟨es',f,_⟩:=j.1 _ _ _ _ rfl;cases f;exact⟨T,q⟩
  .exact absurd rfl ((j.2 (λE k n es e=>p ⟨E,k,n,es,e⟩)).1 E k n es)
 have Q:∀ (v:ak) (a:A),gu σ s v a->gu σ' s v a:=by
  intro v a r;cases a with
  |c x=>exact r
  |ptr l o=>exact⟨i l r.1,r.2⟩
  |vec l k n es =>
   refine⟨r.1,by rw[Y];exact r.2.1,λE k' n' es' he=>?_⟩
   obtain⟨V,g⟩:=I l E k' n' es' he;exact r.2.2 E k' n' V g
  |ref l=>exact⟨i l r.1,r.2⟩
  |bp l w =>
   obtain⟨lv,r1,r2,r3⟩:=r;refine⟨lv,r1,by rw[Y];exact r2,λE k' n' es' he=>?_⟩
   grind
  |any=>exact r
 have y:∀ (vs:List ak) (cs:List A),dG σ s vs cs->dG σ' s vs cs:=by
  intro vs
  induction vs with
  |nil=>intro cs r;cases cs with|nil=>trivial|cons _ _=>exact r.elim
  |cons v vs ih=>intro cs r;cases cs with|nil=>exact r.elim|cons c cs=>exact⟨Q _ _ r.1,ih _ r.2⟩
 have O:∀ (v:ak) (e:E1),ma σ s v e->ma σ' s v e:=by
  intro v e r;cases e with
  |one a=>exact Q _ _ r
  |agg cs=>obtain⟨vs,f,g⟩:=r;exact⟨vs,f,y _ _ g⟩
 have R:∀ (vs:List ak) (cs:List E1),gD σ s vs cs->gD σ' s vs cs:=by
  intro vs
  induction vs with
  |nil=>intro cs r;cases cs with|nil=>trivial|cons _ _=>exact r.elim
  |cons v vs ih=>intro cs r;cases cs with|nil=>exact r.elim|cons c cs=>exact⟨O _ _ r.1,ih _ r.2⟩
 have M:∀ (v:ak) (d:D),c8 σ s v d->c8 σ' s v d:=by
  intro v d r;cases d with
  |e x=>exact O _ _ r
  |eN xs=>obtain⟨vs,f,g⟩:=r;exact⟨vs,f,R _ _ g⟩
  |any=>trivial
 refine⟨⟨J.mem,by rw[J.len,Y],?_,J.fT,J.lt,J.own⟩,⟨bc _,λ_ _ _=>rfl,λ_ _ _ h=>h,λ_ _ _ _=>rfl,λL h b m=>.inr ⟨L,h,m⟩,?_,rfl,rfl,rfl,rfl⟩,M⟩
 .intro l B' L C Z;obtain⟨B,q,j⟩:=get l B' C;have m:=J.box l B L q Z
  by_cases p:∃ E k n es,B=aW.vec E k n es
  .obtain⟨E,k,n,es,rfl⟩:=p;obtain⟨es',rfl,he⟩:=j.1 _ _ _ _ rfl;refine⟨m.1.Dn he,?_⟩;rcases m.2 with⟨f,g⟩|f
   .exact .inl ⟨f,g.Dn he⟩
   .exact .inr f
  .rcases(j.2 (λE k n es e=>p ⟨E,k,n,es,e⟩)).2 with rfl|⟨E,cs,z,rfl,rfl,U⟩|⟨E,k,n,es,es',rfl,rfl,U⟩
   .cases B with
    |cells E cs=>obtain⟨b,vs,f,g,F,G⟩:=m;exact⟨b,vs,f,g,y _ _ F,G⟩
    |vec E k n es=>exact absurd ⟨E,k,n,es,rfl⟩ p
    |dz H=>exact m
    |dead=>trivial
    |loop N φ r=>obtain⟨l,tmps,fn,df,f,g,F,G,h5⟩:=m;exact⟨l,tmps,fn,df,f,g,F,λt=>M _ _ (G t),h5⟩
    |rq=>exact m
    |buf E k n es=>exact m
   .obtain⟨b,vs,f,g,F,G⟩:=m;exact⟨b,vs,f,g,y _ _ (U _ _ _ F),G⟩
   .rcases m with m|⟨b,c0,vs,zs,f,g,F,G,h5,h6,h7⟩
    .exact .inl m
    .exact .inr ⟨b,c0,vs,zs,f,g,F,G,h5,h6.Dn U,h7⟩
 .intro l B L q Z;obtain⟨B',C,j⟩:=S l B q;refine⟨B',L,C,Z,?_⟩
  by_cases p:∃ E k n es,B=aW.vec E k n es
  .obtain⟨E,k,n,es,rfl⟩:=p;obtain⟨es',rfl,he⟩:=j.1 _ _ _ _ rfl;exact⟨λ_=>rfl,bc _⟩
  .rcases(j.2 (λE k n es e=>p ⟨E,k,n,es,e⟩)).2 with rfl|⟨E,cs,z,rfl,rfl,U⟩|⟨E,k,n,es,es',rfl,rfl,_⟩
   .exact il.refl _ _
   .exact rfl
   .exact⟨λ_=>rfl,bc _⟩
section
variable {P:aq}{X:Cx P}{N:Nat}{Qf:Post}{K:List It}{φ:Fr}{σ:List aW}{c:Code}
def AW.ghost{Q:Post}{f:Fr}{σ':List aW}(h:∀ s a,cp N σ s φ a->aJ σ s->∃ s':St,s'.w=s.w/\cp N σ' s' f a/\aJ σ' s'/\Step σ s σ' s')(k:AW X N c Q f σ'):AW X N c Q φ σ:=by
 intro s a l hh b kk cs S hb hQ;obtain⟨s',m,j,g,st⟩:=h s a l hh;have d:=st.oo hh;refine .ghost (.of hh g m d) ?_;exact k s' a j g b kk cs S hb λe i σ2 s2 a2 q n h2 oz=>hQ e i σ2 s2 a2 q n h2 (d.trans oz)
def AK.ghost{b:Fr}{σ':List aW}(h:∀ s a,cp N σ s φ a->aJ σ s->∃ s':St,s'.w=s.w/\cp N σ' s' b a/\aJ σ' s'/\Step σ s σ' s')(k:AK X N Qf (.code c::K) .normal b σ'):AK X N Qf (.code c::K) .normal φ σ :=
 AW.ghost h k
def cp.bs{σ':List aW}{s:St}{a:Act}(hb:GW σ σ')(f:cp N σ s φ a)(hh:aJ σ s):cp N σ' s φ a:=⟨f.size,f.defers.imp λ_ h1=>h1.mono (hb s hh).2.1.ext,λt=>(hb s hh).2.2 _ _ (f.slot t)⟩
def AK.norm(σ':List aW){ps:List Prop}(h:sX σ σ'=aa ps)(b:ag ps)(k:AK X N Qf (.code c::K) .normal φ σ'):AK X N Qf (.code c::K) .normal φ σ :=
 AK.ghost (λs a d hh=>⟨s,rfl,d.bs (mD h b) hh,(mD h b s hh).1,(mD h b s hh).2.1⟩) k
def AK.ix(t:Nat)(E:ar)(k:Nat){k' n:Nat}{es:Nat->List C}(h:look φ t=.e (.one (.c (.sl ab k' n es))))(hn:n=0)
  (kk:AK X N Qf (.code c::K) .normal ((t,.e (.one (.vec σ.length k n es)))::φ) (σ++[.vec E k n es])):AK X N Qf (.code c::K) .normal φ σ:=by
 refine AK.ghost (λs a b hh=>?_) kk
 have d:=b.slot t;rw[h] at d;have h1:=Rd.uV (k:=k') (k':=k) (.inr hn) (fC d);have f:eJ (σ++[.vec E k n es]) { s with β:=s.β++[⟨a.tmps.getD t aj,[]⟩] } (.vec E k n es) ⟨a.tmps.getD t aj,[]⟩:=⟨h1.loose,.inl ⟨⟨rfl,hn⟩,h1⟩⟩;obtain⟨g,g2⟩:=hh.gT (.refl _ _) rfl hh f (by simp)
 refine⟨{ s with β:=s.β++[⟨a.tmps.getD t aj,[]⟩] },rfl,⟨b.size,b.defers.imp λ_ h1=>h1.mono g2.ext,λu=>?_⟩,g,g2⟩
 simp only[look];cases hb:aA t u with
 |false=>exact(b.slot u).mono g2.ext hh.len
 |true =>
  have e:=bT hb;subst e;exact pK (L:=⟨a.tmps.getD t aj,[]⟩) (by simp) (by simp[<-hh.len]) f
def AK.jV{S:Type}(I:S->Prop)(fr:S->Fr)(st:S->List aW)(k:S->Nat)(x:S){ps qs:List Prop}(w:qA φ (fr x)=aa ps)(C:ag ps)(u:sX σ (st x)=aa qs)(H:ag qs)(B:I x)
  (round:∀ x,I x->AK X N (λe g σ'=>match e with
   |.normal=>∃ y,I y/\k y<k x/\rZ g (fr y)/\GW σ' (st y)
   |e=>AK X N Qf K e g σ') [.code c] .normal (fr x) (st x)):AK X N Qf (.code (.loop c)::K) .normal φ σ:=by
 intro s a E hh b kk cs SS hb hQ;have f:=mD u H;obtain⟨o,p,_⟩:=f s hh;refine wc (λn a' s'=>∃ y,I y/\cp N (st y) s' (fr y) a'/\aJ (st y) s'/\cw σ s (st y) s'/\k y=n) ?_ ?_ ⟨x,B,(E.le (dC w C)).bs f hh,o,p.oo hh,rfl⟩
 .rintro n a' s' ⟨y,m,v,j,d,e⟩;exact⟨st y,j,λJ h1=>⟨y,m,v.rely h1 j,j.rely h1,d.trans h1.stepW,e⟩⟩
 rintro n a' s' ⟨y,m,v,j,d,rfl⟩ D;refine round y m s' a' v j b (.inLoop c::kk) cs SS hb ?_;intro e F σ2 s2 a2 q A h2 oz;cases e with
 |normal =>
  obtain⟨z,G,l,i,h⟩:=q;obtain⟨t,r,_⟩:=h s2 h2;exact D a2 s2 (k z) l ⟨z,G,(A.le i).bs h h2,t,d.trans (oz.trans (r.oo h2)),rfl⟩
 |_=>exact ends.cons (λ_ _=>rfl) (by simp) (hQ _ _ _ _ _ q A h2 (d.trans oz))
def AK.gm{S:Type}{I:S->Prop}{fr:S->Fr}{st:S->List aW}{b:S->Nat}{x:S}{Qr:Post}(y:S){ps qs:List Prop}(g:qA φ (fr y)=aa ps)(j:ag ps)(f:sX σ (st y)=aa qs)(i:ag qs)(h:I y)(d:b y<b x) :
  AK X N (λe a σ'=>match e with
   |.normal=>∃ y,I y/\b y<b x/\rZ a (fr y)/\GW σ' (st y)
   |e=>Qr e a σ') [] .normal φ σ:=⟨y,h,d,dC g j,mD f i⟩
end
def Ev.forget{P:aq}{X:Cx P}{f:aV}{args:List D}{res res':D}{σ':List aW}(h:Ev X f args [] res σ'){ps:List Prop}(g:Bo res res'=aa ps)(k:ag ps)(a:uw 0 res'=ab):Ev X f args [] res' []:=by
 refine⟨h.1,λs vs hr hh S cs hS=>h.2 s vs hr hh S cs λfr v e hl hv h1 st=>?_⟩
 have m:s.β=[]:=gf hh.len;have i:eK e { e with β:=[] }:=⟨rfl,λ_ _ _ h=>h,λ_ _ _=>rfl,h1.mem,λb hb=>.inl (by
  grind)⟩
 refine .ghost i (hS fr v { e with β:=[] } (hl.mono λ_ _ _ h=>h) ?_ ⟨h1.mem,rfl,by simp,by simp,by simp,λb hb=>⟨(h1.own b hb).1,by simp⟩⟩ ⟨st.size,st.eB,st.mem,st.jk,by simp,λl B L j=>by simp at j,st.os,st.tape,st.output,st.own⟩)
 .have h2:=oU g k hv;have:=c8.sub (ks:=[]) (σ:=σ') (σ':=[]) (s:=e) (β':=[]) (d:=res') rfl rfl (by rw[BL a];exact h2) a
  exact this
end
def cv.imp{σ:List aW}{s:St}{d a:D}{ds Fo:List D}(h:∀ v,c8 σ s v d->c8 σ s v a)(k:∀ vs,cv σ s vs ds->cv σ s vs Fo):∀ vs,cv σ s vs (d::ds)->cv σ s vs (a::Fo)
 |[],r=>r.elim
 |v::vs,r=>⟨h v r.1,k vs r.2⟩
abbrev dP(f:bE):D:=.e (.agg [.c (.str f.1),.c (.str f.2)])
abbrev Rv(a:List bE)(b:Bool):D:=.eN [.one (.c (.sl ae 2 a.length (cF.fn a))),.one (.c (.bool b))]
namespace R1
open Go.Proofs
variable {X:Cx ah}
def Te:dg:=λargs σ=>match args,σ with
 |[c],[]=>match lh 2 c with
  |none=>af
  |some (a,b)=>aa (dB (dj (cF.list a b)),[],[cF.fits a b])
 |_,_=>af
def t58:dD X 58 Te:=by
 intro args σ res σ' obs h a;unfold Te at h;split at h
 .split at h
  .cases h
  rename_i d c b
  cases h;exact(Ih _ ).args (λ_ vs=>cv.imp (λ_=>cF.kn b a) (λ_ r=>r) vs)
 .cases h
def ct3:List (Nat×dg):=(58,Te)::ct2
def Zg:bD X ct3:=bD.cons t58 tA
end R1
def hZ.cm{α:Type}(c:hZ α)(l:List α)(x:α):aR (l.length+1) (cJ l.length (c.fn l) (λi=>[c.enc x].getD i [])) (c.fn (l++[x])):=by
 intro i hi;unfold cJ hZ.fn sH
 by_cases h:i<l.length
 .simp[h,ai,jf h]
 .have e:i=l.length:=by omega
  subst e;simp[ai]
def aR.same{n:Nat}{f:Nat->List C}:aR n f f:=λ_ _=>rfl
def aR.nil{f g:Nat->List C}:aR 0 f g:=λi h=>by omega
namespace R1
open Go.Proofs
variable {X:Cx ah}
def ct5:List (Nat×dg):=ct3
def Zh:bD X ct5:=Zg
end R1
end Go.AM
namespace Go.AM.R1
section
open Go.Proofs
variable {X:Cx ah}
def qO(f:bE)(acc:List bE×Bool)(g:Bs):List bE×Bool:=if acc.2=ab then acc else if bk g f.1=ab then acc else (acc.1++[f],ab)
def OO(f:bE)(a:List bE×Bool)(g:bE):List bE×Bool:=if g.1=f.1 then a else (a.1++[g],a.2)
def oh(f:bE)(acc:List bE×Bool)(g:bE):List bE×Bool:=OO f (qO f acc g.1) g
def lb(f:bE)(t:List bE):List bE×Bool:=t.foldl (oh f) ([],ae)
def sC(t:List bE)(f:bE):List bE:=if (lb f t).2=ab then (lb f t).1 else (lb f t).1++[f]
def fileAt{t:List bE}{i:Nat}(h:i<t.length):t[i]=(fu t i,Aw t i):=by
 have e:t.getD i ([],[])=t[i]:=by grind
 simp only[fu,Aw,e]
def CY{f:bE}{t:List bE}{i:Nat}(h:i<t.length):lb f (t.take (i+1))=oh f (lb f (t.take i)) (fu t i,Aw t i):=by
 rw[j3,bl h,fileAt h];simp[lb]
def CZ(f:bE)(acc:List bE×Bool)(g:Bs):(qO f acc g).1.length<=acc.1.length+1:=by
 unfold qO
 grind
def L5(f:bE)(acc:List bE×Bool)(g:bE):(OO f acc g).1.length<=acc.1.length+1:=by
 unfold OO;split
 .omega
 .simp
def xh(f:bE):∀ (t:List bE)(acc:List bE×Bool),(t.foldl (oh f) acc).1.length<=acc.1.length+2*t.length
 |[],acc=>by simp
 |g::r,acc=>by
  have c:=xh f r (oh f acc g);have b:=CZ f acc g.1;have a:=L5 f (qO f acc g.1) g;simp only[ji,eQ];have:(oh f acc g).1.length<=acc.1.length+2:=by unfold oh;omega
  omega
abbrev dV(l:Nat)(t:List bE):D:=.e (.one (.vec l 2 t.length (cF.fn t)))
abbrev bV(t:List bE):aW:=.vec 129 2 t.length (cF.fn t)
def OP(t:List bE)(f:bE)(v:t.length<=4000000):Ev X 108 [cF.sl t,dP f] [] (dV 0 (sC t f)) [bV (sC t f)]:=by
 refine Ev.bQ Tryz.func108 rfl λw=>?_
 refine bm rfl av ?_;refine AK.ix 5 129 2 rfl rfl ?_
 let A:Nat->List bE×Bool:=λi=>lb f (t.take i)
 have b:∀ i,i<=t.length->(A i).1.length<=8000000:=by
  intro i hi;have:=xh f (t.take i) ([],ae);simp at this;show (lb f (t.take i)).1.length<=_;unfold lb;omega
 refine AK.jV (λi=>i<=t.length) (λi:Nat=>[(0,cF.sl t),(3,.e (.one (.ptr 0 0))),(7,dI i),(5,dV 1 (A i).1),(6,dB (A i).2)]) (λi=>[.cells 129 [.c (.str f.1),.c (.str f.2)],bV (A i).1]) (λi=>t.length-i) 0 rfl ?_ rfl ?_ (by omega) ?_
 .simp[ag.cat,ag,aR,A,lb]
 .simp[ag.cat,ag,aR,A,lb]
 intro i hi
 by_cases h:i<t.length
 .have u:A (i+1)=oh f (A i) (fu t i,Aw t i):=CY h;have s:=b i hi;generalize A i=acc at *;have r:=CZ f acc (fu t i)
  apply AK.join [(0,cF.sl t),(3,.e (.one (.ptr 0 0))),(7,dI i),(5,dV 1 (qO f acc (fu t i)).1),(6,dB (qO f acc (fu t i)).2)] [.cells 129 [.c (.str f.1),.c (.str f.2)],bV (qO f acc (fu t i)).1]
  .intro k;cases a:acc.2 with
   |true =>
    have n:qO f acc (fu t i)=acc:=by unfold qO;rw[bg a]
    rw[n] at k;refine aX [(12,ab),(15,ab),(1000009,ab)] 200 rfl ?_ (k _ _ rfl ?_)
    .simp[ag,h]
    .simp[ag,ag.cat,aR.same,a]
   |false =>
    cases g:bk (fu t i) f.1 with
    |true =>
     have n:qO f acc (fu t i)=acc:=by unfold qO;rw[a,g];rfl
     rw[n] at k;refine aX [(12,ab),(15,ae),(25,ae),(1000009,ab)] 200 rfl ?_ (k _ _ rfl ?_)
     .simp[-ai,ag,h,gZ,g]
     .simp[ag,ag.cat,aR.same,a]
    |false =>
     have n:qO f acc (fu t i)=(acc.1++[f],ab):=by unfold qO;rw[a,g];rfl
     rw[n] at k;refine aX [(12,ab),(15,ae),(25,ab),(1000009,ab)] 200 rfl ?_ (AK.norm _ rfl ?_ (k _ _ rfl ?_))
     .simp[-ai,ag,h,gZ,g,i129];omega
     .simp[-ai,ag.cat,ag];exact cF.cm _ f
     .simp[-ai,ag.cat,ag,aR.same];exact cF.cm _ f
  .have m:A (i+1)=OO f (qO f acc (fu t i)) (fu t i,Aw t i):=u;generalize qO f acc (fu t i)=a1 at *
   by_cases o:fu t i=f.1
   .have d:A (i+1)=a1:=by rw[m];exact bg o
    refine aX [(38,ae)] 200 rfl ?_ (AK.gm (i+1) rfl ?_ rfl ?_ ?_ ?_)
    .simp[-ai,ag,h,gZ,o,bx];omega
    .rw[d];simp[ag,ag.cat,aR.same]
    .rw[d];simp[ag,ag.cat,aR.same]
    .omega
    .omega
   .have d:A (i+1)=(a1.1++[(fu t i,Aw t i)],a1.2):=by rw[m];exact aY o
    refine aX [(38,ab)] 200 rfl ?_ (AK.gm (i+1) rfl ?_ rfl ?_ ?_ ?_)
    .simp[-ai,ag,h,gZ,o,bx,i129];omega
    .rw[d];simp[-ai,ag.cat,ag,aR.same];exact cF.cm _ (fu t i,Aw t i)
    .rw[d];simp[-ai,ag.cat,ag];exact cF.cm _ (fu t i,Aw t i)
    .omega
    .omega
 .have:i=t.length:=by omega
  subst this;have p:A t.length=lb f t:=by grind
  have s:=b t.length (bc _);refine aX [(12,ae)] 100 rfl (by simp[ag]) (AK.leave rfl rfl ?_)
  have l:sC t f=if (A t.length).2=ab then (A t.length).1 else (A t.length).1++[f]:=by rw[p];rfl
  cases a:(A t.length).2 with
  |true =>
   rw[a,bg rfl] at l;refine aX [(46,ab)] 100 rfl ?_ (AK.norm [.cells 129 [.c (.str f.1),.c (.str f.2)],bV (sC t f)] rfl ?_ (AK.dA [1] rfl ?_ rfl rfl rfl ?_))
   .simp[ag]
   .rw[l];simp[ag,ag.cat,aR.same]
   .rw[l];simp[ag,aR.same]
   .intro j q;simp at q
  |false =>
   rw[a,aY (by simp)] at l
   refine aX [(46,ae)] 100 rfl ?_ (AK.norm [.cells 129 [.c (.str f.1),.c (.str f.2)],bV (sC t f)] rfl ?_ (AK.dA [1] rfl ?_ rfl rfl rfl ?_))
   .simp[ag,i129];omega
   .rw[l];simp[-ai,ag,ag.cat];exact cF.cm _ f
   .rw[l];simp[-ai,ag];exact cF.cm _ f
   .intro j q;simp at q
end
end Go.AM.R1
namespace Go.AM
def aR.app0{n:Nat}{f g:Nat->List C}:aR n (cJ 0 f g) g:=λi _=>by simp[cJ]
namespace R1
open Go.Proofs
variable {X:Cx ah}
def So:dg:=λargs σ=>match args,σ with
 |[d,.e (.agg [.c (.str b0),.c (.str b1)])],[]=>match lh 2 d with
  |none=>af
  |some (a,b)=>aa (dV 0 (sC (cF.list a b) (b0,b1)) ,[ bV (sC (cF.list a b) (b0,b1))],[cF.fits a b,((cF.list a b)).length<=4000000])
 |_,_=>af
def t108:dD X 108 So:=by
 intro args σ res σ' obs h a;unfold So at h;split at h
 .split at h
  .cases h
  rename_i d c b
  cases h;exact(OP _ _ (a.2)).args (λ_ vs=>cv.imp (λ_=>cF.kn b a.1) (cv.imp (λ_ r=>r) (λ_ r=>r)) vs)
 .cases h
def ct6:List (Nat×dg):=(108,So)::ct5
def Ij:bD X ct6:=bD.cons t108 (Zh)
def fz(t:List bE)(p x:Bs):List bE×Bool :=
 if dj t=ab/\dr p=ab/\dN x=ab then (if dj (sC t (p,x))=ab then (sC t (p,x),ab) else (t,ae)) else ([],ae)
abbrev tVB(l:Nat)(t:List bE)(b:Bool):D:=.eN [.one (.vec l 2 t.length (cF.fn t)),.one (.c (.bool b))]
def xg{t:List bE}(h:dj t=ab):t.length<=6:=by
 simp only[dj,bO,bd] at h;exact h.2
def uh(t:List bE)(p x:Bs):Ev X 90 [cF.sl t,dS p,dS x] [] (tVB 0 (fz t p x).1 (fz t p x).2) [bV (fz t p x).1]:=by
 refine Ev.bQ Tryz.func90 rfl λi=>?_
 have c:¬(dj t=ab/\dr p=ab/\dN x=ab)->fz t p x=([],ae):=λh=>aY h
 cases b:dj t with
 |false =>
  rw[c (by simp[b])]
  refine aE Ij [(10,ae)] 100 rfl ?_ ?_
  .simp[ag,cF.list_fn,cF.aH,b]
  .refine AK.ix 6 129 2 rfl rfl (AK.norm [bV []] rfl ?_ (AK.dA [0] rfl ?_ rfl rfl rfl ?_))
   .simp[ag,ag.cat,aR]
   .simp[ag,ag.cat,aR]
   .intro j a;simp at a
 |true =>
  have k:=xg b;cases d:dr p with
  |false =>
   rw[c (by simp[d])]
   refine aE Ij [(10,ab),(14,ae)] 100 rfl ?_ ?_
   .simp[ag,cF.list_fn,cF.aH,b,d]
   .refine AK.ix 6 129 2 rfl rfl (AK.norm [bV []] rfl ?_ (AK.dA [0] rfl ?_ rfl rfl rfl ?_))
    .simp[ag,ag.cat,aR]
    .simp[ag,ag.cat,aR]
    .intro j a;simp at a
  |true =>
   cases e:dN x with
   |false =>
    rw[c (by simp[e])]
    refine aE Ij [(10,ab),(14,ab),(19,ae)] 100 rfl ?_ ?_
    .simp[ag,cF.list_fn,cF.aH,b,d,e]
    .refine AK.ix 6 129 2 rfl rfl (AK.norm [bV []] rfl ?_ (AK.dA [0] rfl ?_ rfl rfl rfl ?_))
     .simp[ag,ag.cat,aR]
     .simp[ag,ag.cat,aR]
     .intro j a;simp at a
   |true =>
    have g:fz t p x=if dj (sC t (p,x))=ab then (sC t (p,x),ab) else (t,ae):=bg ⟨b,d,e⟩
    cases f:dj (sC t (p,x)) with
    |true =>
     rw[f,bg rfl] at g;rw[g];refine aE Ij [(10,ab),(14,ab),(19,ab),(29,ab)] 100 rfl ?_ (AK.norm [bV (sC t (p,x))] rfl ?_ (AK.dA [0] rfl ?_ rfl rfl rfl ?_))
     .simp[ag,cF.list_fn,cF.aH,b,d,e,f];omega
     .simp[ag,ag.cat,cF.list_fn,aR.same]
     .simp[ag,ag.cat,cF.list_fn,aR.same]
     .intro j a;simp at a
    |false =>
     rw[f,aY (by simp)] at g
     rw[g];refine aE Ij [(10,ab),(14,ab),(19,ab),(29,ae)] 100 rfl ?_ (AK.norm [bV (sC t (p,x)),bV t] rfl ?_ (AK.dA [1] rfl ?_ rfl rfl rfl ?_))
     .simp[ag,cF.list_fn,cF.aH,b,d,e,f,i129];omega
     .simp[ag,ag.cat,cF.list_fn,aR.same,aR.app0]
     .simp[ag,ag.cat,aR.app0]
     .intro j a;simp at a
def E4(t:List bE)(p x:Bs):Ev X 90 [cF.sl t,dS p,dS x] [] (Rv (fz t p x).1 (fz t p x).2) [] :=
 (uh t p x).forget rfl (by simp[ag,ag.cat,aR.same]) rfl
def Zi:dg:=λargs σ=>match args,σ with
 |[f,.e (.one (.c (.str b))),.e (.one (.c (.str c)))],[]=>match lh 2 f with
  |none=>af
  |some (a,d)=>aa (Rv (fz (cF.list a d) b c).1 (fz (cF.list a d) b c).2,[],[cF.fits a d])
 |_,_=>af
def t90:dD X 90 Zi:=by
 intro args σ res σ' obs h a;unfold Zi at h;split at h
 .split at h
  .cases h
  rename_i d c b
  cases h;exact(E4 _ _ _ ).args (λ_ vs=>cv.imp (λ_=>cF.kn b a) (cv.imp (λ_ r=>r) (cv.imp (λ_ r=>r) (λ_ r=>r))) vs)
 .cases h
def ct7:List (Nat×dg):=(90,Zi)::ct6
def Zj:bD X ct7:=bD.cons t90 (Ij)
end R1
end Go.AM
namespace Go.AM.R1
def dl(s:Bs)(i:Nat):Int:=(cy s i-97) % 256
def k5(t:Bs)(e:Nat):Bool:=(dl t (e-1)+2*dl t (e-2)+3*dl t (e-3)) % 5==0
def tb(t:Bs)(f:Nat):Nat->Nat
 |0=>min (f+8) t.length
 |k+1=>if t.length<=f+(7-k) then t.length else if k5 t (f+(7-k)) then f+(7-k) else tb t f k
def cutAt(t:Bs)(f:Nat):Nat:=tb t f 5
def Gk(t:Bs)(f:Nat)(a:f<t.length):∀ k,k<=5->f<tb t f k/\tb t f k<=t.length/\tb t f k<=f+8
 |0,_=>by simp only[tb];omega
 |k+1,b=>by
  simp only[tb];split
  .omega
  .split
   .omega
   .exact Gk t f a k (by omega)
def nt(t:Bs)(f:Nat)(a:f<t.length):f<cutAt t f/\cutAt t f<=t.length/\cutAt t f<=f+8:=Gk t f a 5 (by omega)
def mG(t:Bs):Nat->Nat->List Nat
 |0,_=>[]
 |k+1,f=>if f<t.length then cutAt t f::mG t k (cutAt t f) else []
def Av(t:Bs):List Nat:=mG t t.length 0
def fb(t:Bs):Nat->Nat->List Bs
 |0,_=>[]
 |k+1,f=>if f<t.length then (t.drop f).take (cutAt t f-f)::fb t k (cutAt t f) else []
def pieces(t:Bs):List Bs:=fb t t.length 0
def fM(l:List Bs):Option Bs:=if dN l.flatten&&(pieces l.flatten==l) then aa l.flatten else af
def bL(p:Bs):Bool:=decide (1<=p.length)&&decide (p.length<=8)&&b8 p
def codeOf(p:Bs):Int:=p.foldl (λn b=>27*n+((b.toNat:Int)-97) % 256+1) 0
def cA(k:Int):Bool:=decide (1<=k)&&decide (k<=99)
def iX(k:Int)(p:Bs):Int:=(codeOf p*(2*k+1)+k*7919) % 999999999989
def cB(n:Nat):Nat:=if n<1∨8<n then 0 else if n<=2 then 2 else if n<=4 then 4 else 8
def iE(p:Bs):Bs:=if bL p then p++List.replicate (cB p.length-p.length) 46 else []
def strip(b:Bs):Bs:=(b.reverse.dropWhile (·==46)).reverse
def fa(b:Bs):Option Bs:=if bL (strip b)&&(iE (strip b)==b) then aa (strip b) else af
abbrev cz:=Int×Bs
abbrev bw:=Int×List cz
def right(k:Int)(x:cz):Bool:=match fa x.2 with|some p=>iX k p==x.1|none=>ae
def Af(l:List Int):Bool:=(bh l.length).all λi=>i==0||decide (l.getD (i-1) 0<l.getD i 0)
def jq(k:Int)(p:bw):Bool :=
 decide (1<=p.1)&&decide (p.1<=99)&&cA k&&decide (1<=p.2.length)&&decide (p.2.length<=4)&&p.2.all (right k)&&Af (p.2.map (·.1))
def chunk(k:Int)(x:cz):Option Bs:=match fa x.2 with|some p=>if cA k&&(iX k p==x.1) then aa p else af|none=>af
def dW(k:Int)(p:bw) (n:Int):Option Bs:=match p.2.find? (λx=>x.1==n) with|some x=>chunk k x|none=>af
def ja(p:bw)(ns:List Int):bw:=(p.1,p.2.filter λx=>ns.contains x.1)
def sh(l:List cz)(x:cz):List cz:=match l with
 |[]=>[x]
 |y::r=>if x.1<y.1 then x::y::r else y::sh r x
def kQ(no k:Int)(ps:List Bs):bw:=(no,ps.foldl (λl p=>sh l (iX k p,iE p)) [])
abbrev dh:=Int×Int
def k7(s:dh):Bool:=decide (0<=s.1)&&decide (s.1<999999999989)&&decide (1<=s.2)&&decide (s.2<=99)
def qg(l:List dh)(s:dh):List dh:=match l with
 |[]=>[s]
 |y::r=>if y.1<s.1 then y::qg r s else s::(y::r).filter (λz=>!(z.1==s.1))
def tS(l:List dh) (n:Int):Int:=match l.find? (λs=>s.1==n) with|some s=>s.2|none=>0
def fj(l:List bw):List dh:=l.flatMap λp=>p.2.map λx=>(x.1,p.1)
def indexOf(l:List bw):List dh:=if (fj l).all k7 then (fj l).foldl qg [] else []
abbrev gG:=Bs×List Int
abbrev cN:=Int×List gG
def yL(k:Int)(f:bE):gG:=(f.1,(pieces f.2).map (iX k))
def ko(no k:Int)(t:List bE):cN:=(no,t.map (yL k))
def nv(k:Int)(l:List dh)(out:List Bs)(p:Bs):List Bs:=if tS l (iX k p)==0&&!out.contains p then out++[p] else out
def jR(k:Int)(t:List bE)(l:List dh):List Bs:=(t.flatMap λf=>pieces f.2).foldl (nv k l) []
def du(k:Int)(ps:List bw) (n:Int):Option Bs:=ps.findSome? λp=>dW k p n
end Go.AM.R1
namespace Go.AM
def G9(cs:List C)(j:Nat):Nat×(Nat->List C):=match fA j cs with|some (.sl _ _ n es)=>(n,es)|_=>(0,λ_=>[])
def cI:hZ Int:={ k:=1,enc:=λn=>[.int .i64 n],dec:=λcs=>yv cs 0,bC:=0,inv:=λ_=>rfl,len:=λ_=>rfl }
def cS:hZ Bs:={ k:=1,enc:=λs=>[.str s],dec:=λcs=>B8 cs 0,bC:=[],inv:=λ_=>rfl,len:=λ_=>rfl }
namespace R1
def dx:hZ cz:={ k:=2,enc:=λx=>[.int .i64 x.1,.str x.2],dec:=λcs=>(yv cs 0,B8 cs 1),bC:=(0,[]),inv:=λ_=>rfl,len:=λ_=>rfl }
def oI:hZ dh:={ k:=2,enc:=λx=>[.int .i64 x.1,.int .i64 x.2],dec:=λcs=>(yv cs 0,yv cs 1),bC:=(0,0),inv:=λ_=>rfl,len:=λ_=>rfl }
abbrev sP(p:bw):C:=.sl ae 2 p.2.length (dx.fn p.2)
def cP:hZ bw:={ k:=2,enc:=λp=>[.int .i64 p.1,sP p],dec:=λcs=>(yv cs 0,dx.list (G9 cs 1).1 (G9 cs 1).2),bC:=(0,[]),inv:=λp=>by show (p.1,dx.list p.2.length (dx.fn p.2))=p;rw[dx.list_fn],len:=λ_=>rfl }
def cL:hZ gG:={ k:=2,enc:=λx=>[.str x.1,.sl ae 1 x.2.length (cI.fn x.2)],dec:=λcs=>(B8 cs 0,cI.list (G9 cs 1).1 (G9 cs 1).2),bC:=([],[]),inv:=λp=>by show (p.1,cI.list p.2.length (cI.fn p.2))=p;rw[cI.list_fn],len:=λ_=>rfl }
def cr:hZ cN:={ k:=2,enc:=λx=>[.int .i64 x.1,.sl ae 2 x.2.length (cL.fn x.2)],dec:=λcs=>(yv cs 0,cL.list (G9 cs 1).1 (G9 cs 1).2),bC:=(0,[]),inv:=λp=>by show (p.1,cL.list p.2.length (cL.fn p.2))=p;rw[cL.list_fn],len:=λ_=>rfl }
def cH:hZ (Int×Int):=oI
abbrev vf(p:bw):D:=.e (.agg [.c (.int .i64 p.1),.c (sP p)])
abbrev Wm(r:Option Bs):D:=.e (.agg [.c (.str (r.getD [])),.c (.bool r.isSome)])
end R1
structure Arg (α:Type) where
 enc:α->D
 arg:D->Option (α×List Prop)
 ok:∀ {d a o},arg d=aa (a,o)->ag o->∀ {σ:List aW} {s:St} {v:ak},c8 σ s v d->c8 σ s v (enc a)
def aI:Arg Int:=⟨dI,λd=>match d with|.e (.one (.c (.int .i64 n)))=>aa (n,[])|_=>af,λ{d a o} h _ _ _ _ r=>by
 grind⟩
def aS:Arg Bs:=⟨dS,λd=>match d with|.e (.one (.c (.str n)))=>aa (n,[])|_=>af,λ{d a o} h _ _ _ _ r=>by
 grind⟩
def aB:Arg Bool:=⟨dB,λd=>match d with|.e (.one (.c (.bool n)))=>aa (n,[])|_=>af,λ{d a o} h _ _ _ _ r=>by
 grind⟩
def aL{α:Type}(c:hZ α):Arg (List α):=⟨c.sl,λd=>match lh c.k d with|some (n,es)=>aa (c.list n es,[c.fits n es])|none=>af,λ{d a o} h b _ _ _ r=>by
 split at h
 .rename_i n es he
  cases h;exact c.kn he b r
 .cases h⟩
def S9:Arg (Int×Bs):=⟨λx=>.e (.agg [.c (.int .i64 x.1),.c (.str x.2)]),λd=>match d with|.e (.agg [.c (.int .i64 a),.c (.str b)])=>aa ((a,b),[])|_=>af,λ{d a o} h _ _ _ _ r=>by
 grind⟩
def Ta:Arg (Int×Int):=⟨λx=>.e (.agg [.c (.int .i64 x.1),.c (.int .i64 x.2)]),λd=>match d with|.e (.agg [.c (.int .i64 a),.c (.int .i64 b)])=>aa ((a,b),[])|_=>af,λ{d a o} h _ _ _ _ r=>by
 grind⟩
def B7{α:Type}(c:hZ α):Arg (Int×List α):=⟨λx=>.e (.agg [.c (.int .i64 x.1),.c (.sl ae c.k x.2.length (c.fn x.2))]),λd=>match d with
 |.e (.agg [.c (.int .i64 a),.c b])=>match lh c.k (.e (.one (.c b))) with|some (n,es)=>aa ((a,c.list n es),[c.fits n es])|none=>af
 |_=>af,λ{d a o} h p _ s _ r=>by
 split at h
 .split at h
  .rename_i n es he
   cases h;obtain⟨vs,l,g⟩:=r
   match vs,g with
   |[],g=>exact g.elim
   |[_],g=>exact g.2.elim
   |_::_::_::_,g=>exact g.2.2.elim
   |[q,m],g=>exact⟨_,l,g.1,c.kn (σ:=[]) (s:=s) (v:=m) he p g.2.1,av⟩
  .cases h
 .cases h⟩
def kN{α:Type}(A:Arg α)(res:α->D)(pre:α->List Prop):dg:=λargs σ=>match args,σ with
 |[d],[]=>match A.arg d with
  |some (a,o)=>aa (res a,[],kh o (pre a))
  |none=>af
 |_,_=>af
def ow{α i:Type}(A:Arg α)(B:Arg i)(res:α->i->D)(pre:α->i->List Prop):dg:=λargs σ=>match args,σ with
 |[d,e],[]=>match A.arg d with
  |some (a,o)=>match B.arg e with
   |some (b,p)=>aa (res a b,[],kh o (kh p (pre a b)))
   |none=>af
  |none=>af
 |_,_=>af
def Di{α i j:Type}(A:Arg α)(B:Arg i)(C:Arg j)(res:α->i->j->D)(pre:α->i->j->List Prop):dg:=λargs σ=>match args,σ with
 |[d,e,f],[]=>match A.arg d with
  |some (a,o)=>match B.arg e with
   |some (b,p)=>match C.arg f with
    |some (c,q)=>aa (res a b c,[],kh o (kh p (kh q (pre a b c))))
    |none=>af
   |none=>af
  |none=>af
 |_,_=>af
section
variable {P:aq}{X:Cx P}{f:aV}{α i j:Type}{A:Arg α}{B:Arg i}{C:Arg j}
def dD.oH{res:α->D}{pre:α->List Prop}(h:∀ a,ag (pre a)->Ev X f [A.enc a] [] (res a) []):dD X f (kN A res pre):=by
 intro args σ r σ' obs h1 ho;unfold kN at h1;split at h1
 .split at h1
  .rename_i d a o b
   cases h1;rw[ag.cat] at ho;exact(h a ho.2).args λs vs=>cv.imp (λ_ r=>A.ok b ho.1 r) (λ_ r=>r) vs
  .cases h1
 .cases h1
def dD.qG{res:α->i->D}{pre:α->i->List Prop}(h:∀ a b,ag (pre a b)->Ev X f [A.enc a,B.enc b] [] (res a b) []):dD X f (ow A B res pre):=by
 intro args σ r σ' obs h1 ho;unfold ow at h1;split at h1
 .split at h1
  .rename_i d e a o c
   split at h1
   .rename_i b p hb
    cases h1;rw[ag.cat,ag.cat] at ho;exact(h a b ho.2.2).args λs vs=>cv.imp (λ_ r=>A.ok c ho.1 r) (cv.imp (λ_ r=>B.ok hb ho.2.1 r) (λ_ r=>r)) vs
   .cases h1
  .cases h1
 .cases h1
def dD.IN{res:α->i->j->D}{pre:α->i->j->List Prop}(h:∀ a b c,ag (pre a b c)->Ev X f [A.enc a,B.enc b,C.enc c] [] (res a b c) []):dD X f (Di A B C res pre):=by
 intro args σ r σ' obs h1 ho;unfold Di at h1;split at h1
 .split at h1
  .rename_i d e g a o k
   split at h1
   .rename_i b p hb
    split at h1
    .rename_i c q l
     cases h1;rw[ag.cat,ag.cat,ag.cat] at ho;exact(h a b c ho.2.2.2).args λs vs=>cv.imp (λ_ r=>A.ok k ho.1 r) (cv.imp (λ_ r=>B.ok hb ho.2.1 r) (cv.imp (λ_ r=>C.ok l ho.2.2.1 r) (λ_ r=>r))) vs
    .cases h1
   .cases h1
  .cases h1
 .cases h1
end
section
open Go.Conc (G)
section drop
variable {σ1 rest:List aW}{s:St}
def Uj(n:Nat):aW->Bool
 |.cells _ cs=>GH n cs
 |.loop ..=>ae
 |_=>ab
def rJ(n:Nat):List aW->Bool
 |[]=>ab
 |a::r=>match Uj n a with|true=>rJ n r|false=>ae
def BM{n:Nat}:∀ {l:List aW},rJ n l=ab->∀ B∈l,Uj n B=ab
 |[],_,B,a=>by simp at a
 |b::r,h,B,a=>by
  simp only[rJ] at h;cases d:Uj n b with
  |false=>simp[d] at h
  |true =>
   simp only[d] at h;rcases eY.1 a with rfl|a
   .exact d
   .exact BM h B a
def eJ.tL{B:aW}{L:Loc}(a:Uj σ1.length B=ab)(h:eJ (σ1++rest) s B L):eJ σ1 (s.cut σ1.length) B L:=by
 cases B with
 |cells E cs =>
  obtain⟨b,vs,h1,h2,e,d⟩:=h;exact⟨b,vs,h1,h2,dG.xE e a,d⟩
 |vec E k n es=>exact h
 |dz H=>exact h
 |dead=>trivial
 |loop N φ r=>simp[Uj] at a
 |rq=>exact h
 |buf E k n es=>exact h
def aJ.drop(h:aJ (σ1++rest) s)(g:rJ σ1.length σ1=ab):aJ σ1 (s.cut σ1.length):=by
 have hl:σ1.length<=s.β.length:=by rw[h.len];simp
 refine⟨h.mem,by simp[St.cut,hl],?_,?_,?_,λb hb=>⟨(h.own b hb).1,λL a=>(h.own b hb).2 L (iI a)⟩⟩
 .intro l B L f a;have e:l<σ1.length:=(cg.1 f).1;simp only[St.cut,gQ,e,cj] at a;exact eJ.tL (rest:=rest) (BM g B (bM f)) (h.box l B L (by grind) a)
 .intro l l' L L' a d b hb rl;simp only[St.cut,gQ] at a d;split at a <;> split at d <;> first|exact h.fT l l' L L' a d b hb rl|(cases a;done)|(cases d;done)
 .intro L a b hb;exact h.lt L (iI a) b hb
def oE.drop(a:mr rest=ab):∀ {ds:List Deferred}{ls:List Nat},oE (σ1++rest) s ds ls->oE σ1 (s.cut σ1.length) ds ls
 |[],[],_=>trivial
 |[],_::_,r=>r.elim
 |_::_,[],r=>r.elim
 |d::ds,l::ls,⟨⟨h1,L,r,h2,e⟩,b,f⟩=>by
  have hl:l<σ1.length:=by
   rcases cx l σ1.length with h|h
   .exact h
   .rw[gg h] at h1;exact absurd rfl (lD a _ (bM h1))
  rw[jf hl] at h1;exact⟨⟨h1,L,r,by simp only[St.cut,gQ,hl,cj];exact h2,e⟩,b,oE.drop a f⟩
def zR(n:Nat)(σ:List aW):Bool:=match bq n σ.length with|true=>mr (σ.drop n)|false=>ae
def yi{n:Nat}{σ:List aW}(h:zR n σ=ab):bq n σ.length=ab/\mr (σ.drop n)=ab:=by
 unfold zR at h
 grind
end drop
def GX(n:Nat):Fr->Bool
 |[]=>ab
 |(_,d)::r=>match uw n d with|true=>GX n r|false=>ae
def pU{n:Nat}:∀ {φ:Fr}{t:Nat},GX n φ=ab->uw n (look φ t)=ab
 |[],t,_=>rfl
 |(u,d)::r,t,h=>by
  simp only[GX] at h;cases a:uw n d with
  |false=>simp[a] at h
  |true =>
   simp only[a] at h;simp only[look];cases aA u t with
   |true=>exact a
   |false=>exact pU h
section
variable {P:aq}{X:Cx P}{N:Nat}{Qf:Post}{K:List It}{φ:Fr}{σ:List aW}{c:Code}
def lU{S:Type}{P:aq}(X:Cx P)(N:Nat)(Qf:Post)(K:List It)(I:S->Prop)(b:S->Fr)(st:S->List aW)(d:S->Nat)(n:Nat)(x:S):Post:=λe a σ'=>match e with
 |.normal=>∃ y,I y/\d y<d x/\rZ a (b y)/\GX n (b y)=ab/\∃ σ1 rest,σ'=σ1++rest/\σ1.length=n/\(rJ n σ1=ab/\mr rest=ab)/\GW σ1 (st y)
 |e=>AK X N Qf K e a σ'
def AK.bJ{S:Type}(n:Nat)(I:S->Prop)(fr:S->Fr)(st:S->List aW)(p:S->Nat)(x:S){ps qs:List Prop}(H:qA φ (fr x)=aa ps)(Q:ag ps)(E:sX σ (st x)=aa qs)(Y:ag qs)(hn:σ.length=n)(O:I x)
  (round:∀ x,I x->AK X N (lU X N Qf K I fr st p n x) [.code c] .normal (fr x) (st x)):AK X N Qf (.code (.loop c)::K) .normal φ σ:=by
 intro s a U hh b kk cs SS hb hQ;have i:=mD E Y;obtain⟨w,A,_⟩:=i s hh;refine wc (λm a' s'=>∃ y,I y/\cp N (st y) s' (fr y) a'/\aJ (st y) s'/\cw σ s (st y) s'/\p y=m) ?_ ?_ ⟨x,O,(U.le (dC H Q)).bs i hh,w,A.oo hh,rfl⟩
 .rintro n a' s' ⟨y,v,G,k,d,e⟩;exact⟨st y,k,λs1 h1=>⟨y,v,G.rely h1 k,k.rely h1,d.trans h1.stepW,e⟩⟩
 rintro m a' s' ⟨y,v,G,k,d,rfl⟩ R;refine round y v s' a' G k b (.inLoop c::kk) cs SS hb ?_;intro e V σ2 s2 a2 q J h2 oz;cases e with
 |normal =>
  obtain⟨z,W,l,j,r,σ1,rest,rfl,g,⟨D,C⟩,B⟩:=q;have M:=h2.drop (by rw[g];exact D)
  obtain⟨F,f,u⟩:=B _ M;have o:=J.le j;have T:eK s2 (s2.cut σ1.length):=⟨rfl,λ_ _ _ h=>h,λ_ _ _=>rfl,h2.mem,λb hb=>hb.imp id λ⟨L,Z,hb⟩=>⟨L,iI Z,hb⟩⟩
  refine .ghost T (R a2 (s2.cut σ1.length) (p z) l ⟨z,W,⟨o.size,o.defers.imp λ_ h1=>(h1.drop C).mono f.ext,λt=>u _ _ ((o.slot t).drop (pU (by rw[g];exact r)))⟩,F,?_,rfl⟩)
  exact((d.trans oz).drop (by omega)).trans (f.oo M)
 |_=>exact ends.cons (λ_ _=>rfl) (by simp) (hQ _ _ _ _ _ q J h2 (d.trans oz))
def AK.QQ{S:Type}{n:Nat}{I:S->Prop}{fr:S->Fr}{st:S->List aW}{f:S->Nat}{x:S}{k:List It}(y:S){ps qs:List Prop}(h:qA φ (fr y)=aa ps)(l:ag ps)(g:GX n (fr y)=ab)(a:zR n σ=ab)(e:sX (σ.take n) (st y)=aa qs)(j:ag qs)(d:rJ n (σ.take n)=ab)(i:I y)(b:f y<f x) :
  AK X N (lU X N Qf k I fr st f n x) [] .normal φ σ :=
 ⟨y,i,b,dC h l,g,σ.take n,σ.drop n,(j0 n σ).symm,by simp[c7 (yi a).1],⟨d,(yi a).2⟩,mD e j⟩
def AK.aQ{S:Type}{n:Nat}{I:S->Prop}{fr:S->Fr}{st:S->List aW}{b:S->Nat}{x:S}{f:List It}(y:S){ps qs:List Prop}(h:(qA φ (fr y),GX n (fr y),zR n σ,sX (σ.take n) (st y),rJ n (σ.take n))=(aa ps,ab,ab,aa qs,ab))(g:ag ps)(e:ag qs)(d:I y)(a:b y<b x) :
  AK X N (lU X N Qf f I fr st b n x) [] .normal φ σ:=by
 simp only[kZ] at h;exact AK.QQ y h.1 g h.2.1 h.2.2.1 h.2.2.2.1 e h.2.2.2.2 d a
def AK.leaveD{S:Type}{n:Nat}{I:S->Prop}{fr:S->Fr}{st:S->List aW}{d:S->Nat}{x:S}{id:Nat}{f b g:List It}(h1:kL id f=af)(h2:kL id b=aa g)(k:AK X N Qf g .normal φ σ) :
  AK X N (lU X N Qf b I fr st d n x) (.code (.exit id)::f) .normal φ σ :=
 AW.mono (AK.leave (A:=λa σ'=>lU X N Qf b I fr st d n x .normal a σ') h1 h2 k) λe a σ' q=>by
  have key:∀ (K:List It) e,AK X N (λe a σ'=>match e with
    |.normal=>lU X N Qf b I fr st d n x .normal a σ'
    |e=>AK X N Qf b e a σ') K e a σ'->AK X N (lU X N Qf b I fr st d n x) K e a σ':=by
   have e:(λe a σ'=>match e with
    |.normal=>lU X N Qf b I fr st d n x .normal a σ'
    |e=>AK X N Qf b e a σ')=lU X N Qf b I fr st d n x:=by
    funext e a σ';cases e <;> rfl
   grind
  exact key _ _ q
def AK.ee{S:Type}{n:Nat}{I:S->Prop}{fr:S->Fr}{st:S->List aW}{d:S->Nat}{x:S}{a b:List It}(k:Qf .ret φ σ):AK X N (lU X N Qf b I fr st d n x) (.code .ret::a) .normal φ σ :=
 AK.ret (AK.rY (Qf:=Qf) k)
def cp.freeze(t l:Nat){E:ar}{cs:List A}{cc:List C}(F:look φ t=.e (.one (.ptr l 0)))(hl:fA l σ=aa (.cells E cs))(G:gC cs=aa cc)
  {s:St} {a:Act} (i:cp N σ s φ a) (hh:aJ σ s):∃ s':St,s'.w=s.w/\cp N (σ.set l .dead) s' ((t,.e (.one (.c (.rp cc))))::φ) a/\aJ (σ.set l .dead) s'/\Step σ s (σ.set l .dead) s':=by
 have p:=dw hl;have d:l<σ.length:=(cg.1 p).1;have r:=i.slot t;rw[F] at r;obtain⟨_,L,b,n,f,D⟩:=r;obtain⟨g,vs,h1,h2,H,I⟩:=hh.box l _ L p n;subst h1;simp at f;subst f
 let s':St:={ s with M:=λy o=>if y=g then vs[o]? else s.M y o }
 have st:Step σ s (σ.set l .dead) s':=by
  refine⟨bc _,λ_ _ _=>rfl,?_,?_,λL h b hb=>.inr ⟨L,h,hb⟩,?_,rfl,rfl,rfl,rfl⟩
  .grind
  .intro b hb hn o;have k:b≠g:=λe=>hn _ (bM n) (by simp[e])
   grind
  .intro l' B L' l7 ga
   by_cases e:l=l'
   .subst e;rw[p] at l7;cases l7;exact⟨.dead,L',by rw[eX d],ga,rfl⟩
   .exact⟨B,L',by rw[fE e];exact l7,ga,.refl _ _⟩
 refine⟨s',rfl,⟨i.size,i.defers.imp λ_ h1=>h1.mono st.ext,λu=>?_⟩,⟨?_,by simp[hh.len,s'],?_,hh.fT,hh.lt,hh.own⟩,st⟩
 .simp only[look];cases hb:aA t u with
  |false=>exact(i.slot u).mono st.ext hh.len
  |true =>
   have e:=bT hb;subst e;rw[D];have x:=kg G H;refine Rd.rp g 0 (λj=>(vs[j]?).getD aj) ?_ ?_
   .intro j c hj;obtain⟨v,q,_⟩:=x.get (j:=j) (a:=.c c) (by simp[hj])
    grind
   .intro j c hj;obtain⟨v,q,p2⟩:=x.get (j:=j) (a:=.c c) (by simp[hj])
    simp only[q,fG];exact Rd.mono st.mem p2
 .intro b o v z
  by_cases e:b=g
  .subst e;have hm':vs[o]?=aa v:=by simpa[s'] using z
   show s.w.cell? _=_;simp[aZ,h2,hm']
  .exact hh.mem b o v (by simpa[s',e] using z)
 .intro l' B L' l7 ga
  by_cases e:l=l'
  .subst e;rw[eX d] at l7;cases l7;trivial
  .rw[fE e] at l7;refine(hh.box l' B L' l7 ga).carry st.ext hh.len λb hb=>⟨rfl,λo=>?_⟩
   have k:b≠g:=λm=>e (hh.fT l l' _ L' n ga b (by simp[m]) hb)
   grind
def AK.freeze(t l:Nat){E:ar}{cs:List A}{cc:List C}(d:look φ t=.e (.one (.ptr l 0)))(hl:fA l σ=aa (.cells E cs))(f:gC cs=aa cc)
  (kk:AK X N Qf (.code c::K) .normal ((t,.e (.one (.c (.rp cc))))::φ) (dZ.sM l .dead σ)):AK X N Qf (.code c::K) .normal φ σ:=by
 rw[lx] at kk;exact AK.ghost (λs a b hh=>cp.freeze t l d hl f b hh) kk
def AK.one{all rest:List aw}{o:aw}{x:D}{σ':List aW}(h:OA X N all o φ σ x σ')(a:gv N o.dst=ab)(k:AK X N Qf (.ops all rest::K) .normal (lr o.dst x φ) σ'):AK X N Qf (.ops all (o::rest)::K) .normal φ σ :=
 jA.sY h (ir a) k
end
end
structure D1 (d:TypeDesc)(es:Array MapEntry)(k:ak)(a:Option (Nat×ak)):Prop where
 key:MapKept.IsKey d k
 now:Instr.findNow d k es.toList 0=aa a
 no:a=af->∀ e∈es.toList,e.key≠k
 yes:∀ j v,a=aa (j,v)->∃ e,es[j]?=aa e/\e.key=k/\e.val=v
def yj{d:TypeDesc}{es:Array MapEntry}{k:ak}(g:MapKept.IsKey d k)(h:∀ e∈es.toList,MapKept.IsKey d e.key):∃ a,D1 d es k a:=by
 rcases MapKept.findNow_spec g es.toList 0 h with⟨b,i⟩|⟨j,e,b,i,n⟩
 .exact⟨af,g,b,λ_=>i,by simp⟩
 .refine⟨_,g,b,by simp,λm v l=>?_⟩
  grind
section
variable {P:aq}{w:az}{t c f:ar}{d:TypeDesc}{r:Nat}{es:Array MapEntry}{clock:Nat}{k:ak}{ok:Bool}
def FM(a:P.underlying c=aa d):(underlying c).run P w=.ok d w:=by simp[underlying,a]
def mE(e:P.underlying c=aa d)(a:MapKept.IsKey d k)(b:Bool)(evs:Array Event):(Instr.checkKey b 10000 c k).events P w evs=evs:=by
 show (Instr.checkKey b (9999+1) c k).events P w evs=evs;unfold Instr.checkKey;simp only[aP,FM e,aU,events_underlying];cases d <;> cases k <;> first|exact a.elim|simp
def n8{l:List MapEntry}{a:Option (Nat×ak)}(b:P.underlying c=aa d)(h:Instr.findNow d k l 0=aa a)(evs:Array Event):(Instr.findKey c k l).events P w evs=evs:=by
 simp[Instr.findKey,FM b,h]
def kC(a:w.heap[r]?=aa (.map es clock))(evs:Array Event):(getObj r).events P w evs=evs.push ⟨.obj r,ae,ae⟩:=by
 simp only[getObj,Sem.events,Sem.runT,a];rfl
def qk(b:w.heap[r]?=aa (.map es clock)){es':Array MapEntry}{a:Nat}(evs:Array Event):(setObj r (.map es' a)).events P w evs=evs.push ⟨.obj r,ab,ae⟩:=by
 simp only[setObj,Sem.events,Sem.runT,b];rfl
def ql(e:P.underlying c=aa d)(a:MapKept.IsKey d k)(b:Bool):(Instr.checkKey b 10000 c k).run P w=.ok () w:=MapKept.run_checkKey e a b 9999
def tM(m:P.underlying t=aa (.map c f))(e:P.underlying c=aa d)(h:w.heap[r]?=aa (.map es clock)){a:Option (Nat×ak)}(g:D1 d es k a){z:ak}(l:a=af->(zeroValue f).run P w=.ok z w) :
  (Instr.lookup t (.map (aa r)) k ok).run P w=.ok (match a with
   |some (_,v)=>if ok=ab then .tuple #[v,.bool ab] else v
   |none=>if ok=ab then .tuple #[z,.bool ae] else z) w/\(Instr.lookup t (.map (aa r)) k ok).events P w #[]=#[⟨.obj r,ae,ae⟩]:=by
 have i:(underlying t).run P w=.ok (.map c f) w:=by simp[underlying,m]
 have j:=ql (w:=w) e g.key es.isEmpty;have b:(Instr.findKey c k es.toList).run P w=.ok a w:=MapKept.run_findKey e g.now;cases a with
 |some jv =>
  constructor
  .simp only[Instr.lookup,bS,i,b7,MapKept.run_getObj_map h,cW,j,b]
  .simp only[Instr.lookup,aP,i,aU,MapKept.run_getObj_map h,cW,Sem.events_pure,j,b,events_underlying,kC h,mE e g.key,n8 e g.now];rfl
 |none =>
  constructor
  .simp only[Instr.lookup,bS,i,b7,MapKept.run_getObj_map h,cW,j,b,l rfl]
  .simp only[Instr.lookup,aP,i,aU,MapKept.run_getObj_map h,cW,Sem.events_pure,j,b,events_underlying,kC h,mE e g.key,n8 e g.now,l rfl,events_zeroValue];rfl
def tN(s:P.underlying t=aa (.map c f))(i:P.underlying c=aa d)(b:w.heap[r]?=aa (.map es clock)){a:Option (Nat×ak)}{x:ak}(g:D1 d es k a) :
  (Instr.mapUpdate t (.map (aa r)) k x).run P w=.ok () { w with heap:=w.heap.setIfInBounds r (match a with
   |some (j,_)=>.map (es.modify j λe=>{ key:=k,val:=x,born:=e.born }) clock
   |none=>.map (es.push { key:=k,val:=x,born:=clock }) (clock+1)) } /\
  (Instr.mapUpdate t (.map (aa r)) k x).events P w #[]=#[⟨.obj r,ae,ae⟩,⟨.obj r,ab,ae⟩]:=by
 have o:(underlying t).run P w=.ok (.map c f) w:=by simp[underlying,s]
 have p:=ql (w:=w) i g.key ae;have h:(Instr.findKey c k es.toList).run P w=.ok a w:=MapKept.run_findKey i g.now;cases a with
 |some jv =>
  obtain⟨j,v⟩:=jv;obtain⟨e,m,n,_⟩:=g.yes j v rfl;have l:(Instr.keyThatStays k k).run P w=.ok k w:=MapKept.run_keyThatStays g.key;have q:∀ evs,(Instr.keyThatStays k k).events P w evs=evs:=λevs=>by simp[Instr.keyThatStays,MapKept.sameBits_self g.key]
  constructor
  .simp only[Instr.mapUpdate,bS,o,b7,MapKept.run_getObj_map b,p,h,m,j4,fG,n,l,MapKept.run_setObj_map _ b]
  .simp only[Instr.mapUpdate,aP,o,aU,MapKept.run_getObj_map b,p,h,m,j4,fG,n,l,q,events_underlying,kC b,qk b,mE i g.key,n8 i g.now];rfl
 |none =>
  constructor
  .simp only[Instr.mapUpdate,bS,o,b7,MapKept.run_getObj_map b,p,h,MapKept.run_setObj_map _ b]
  .simp only[Instr.mapUpdate,aP,o,aU,MapKept.run_getObj_map b,p,h,events_underlying,kC b,qk b,mE i g.key,n8 i g.now];rfl
end
def aJ.k5{σ:List aW}{s:St}(h:aJ σ s){l:Nat}{H H':ak->(Nat->Option Obj)->Prop}{L L':Loc}(A:σ[l]?=aa (.dz H))(x:s.β[l]?=aa L){w':az}(O:L'.v=L.v)
  (p:s.w.heap.size<=w'.heap.size) (E:∀ b,b<s.w.heap.size->b∉L.bs->w'.heap[b]?=s.w.heap[b]?) (k:∀ b∈L'.bs,b∈L.bs∨(s.w.heap.size<=b/\b<w'.heap.size))
  (hb:∃ ch,H' L'.v ch/\(∀ (b:Nat) (o:Obj),ch b=aa o->w'.heap[b]?=aa o)/\(∀ b,b∈L'.bs↔(ch b).isSome=ab)) (J:w'.os=s.w.os) (K:w'.tape=s.w.tape) (I:w'.output=s.w.output) :
  aJ (σ.set l (.dz H')) ⟨s.β.set l L',s.M,w',s.own⟩/\Step σ s (σ.set l (.dz H')) ⟨s.β.set l L',s.M,w',s.own⟩:=by
 have n:l<σ.length:=(cg.1 A).1;have z:l<s.β.length:=by rw[h.len];exact n
 obtain⟨G,_,_,_,y⟩:=h.box l _ L A x;have t:∀ b∈L'.bs,∀ o,s.M b o=af:=by
  intro b j o;rcases k b j with h1|⟨h1,_⟩
  .exact y b h1 o
  .cases u:s.M b o with
   |none=>rfl
   |some v=>have:=h.block u;omega
 have st:Step σ s (σ.set l (.dz H')) ⟨s.β.set l L',s.M,w',s.own⟩:=by
  refine⟨p,?_,λ_ _ _ h=>h,λ_ _ _ _=>rfl,?_,?_,J,K,I,rfl⟩
  .grind
  .grind
  .intro l' B c a f
   by_cases e:l=l'
   .subst e;rw[A] at a;cases a;rw[x] at f;cases f;exact⟨.dz H',L',by rw[eX n],by grind,O⟩
   .exact⟨B,c,by rw[fE e];exact a,by grind,.refl _ _⟩
 have g:∀ (l':Nat) (c:Loc),(s.β.set l L')[l']?=aa c->(l'=l/\c=L')∨(l≠l'/\s.β[l']?=aa c):=by
  grind
 refine⟨⟨?_,by simp[h.len],?_,?_,?_,?_⟩,st⟩
 .intro b o v u;have C:=h.block u;have D:b∉L.bs:=λm=>by rw[y b m o] at u;cases u
  rw[<-h.mem b o v u];simp only[aZ];rw[E b C D]
 .intro l' B c a f;rcases g l' c f with⟨rfl,rfl⟩|⟨e,h2⟩
  .rw[eX n] at a;cases a;obtain⟨ch,k1,N,F⟩:=hb;exact⟨ch,k1,N,F,t⟩
  .rw[fE e] at a;refine(h.box l' B c a h2).carry st.ext h.len λb j=>⟨E b (h.lt c (bM h2) b j) λm=>e (h.fT l l' L c x h2 b m j),λ_=>rfl⟩
 .intro Q P L1 c h1 h2 b i d;rcases g Q L1 h1 with⟨rfl,rfl⟩|⟨e1,r⟩ <;> rcases g P c h2 with⟨rfl,rfl⟩|⟨e2,q⟩
  .rfl
  .rcases k b i with m|m
   .exact h.fT _ _ L c x q b m d
   .have:=h.lt c (bM q) b d;omega
  .rcases k b d with m|m
   .exact h.fT _ _ L1 L r x b i m
   .have:=h.lt L1 (bM r) b i;omega
  .exact h.fT _ _ L1 c r q b i d
 .intro c f b d;rcases List.mem_or_eq_of_mem_set f with h1|h1
  .exact cC (h.lt c h1 b d) p
  .subst h1;rcases k b d with h2|h2
   .exact cC (h.lt L (bM x) b h2) p
   .exact h2.2
 .intro b hb;obtain⟨R,S⟩:=h.own b hb
  grind
section
variable {H H':ak->(Nat->Option Obj)->Prop}{s:St}
end
def bZ.s9{fn:Func}{a:Nat}{res:D}{σ':List aW}{φ:Fr}{σ:List aW}(ks:List Nat){ps:List Prop}(h:zy fn.results.toList ks φ res=aa ps)(e:ag ps)(d:kA ks σ=aa σ')(b:ki σ'=ab)(hn:dM ks=ab)(c:∀ j,j<a->ks[j]?=aa j) :
  bZ fn a res σ' .normal φ σ:=by
 refine⟨.inr rfl,ks,?_⟩;unfold zy at h
 grind
def AK.Qk{P:aq}{X:Cx P}{N:Nat}{Qf:Post}{K:List It}{φ:Fr}{σ:List aW}{all rest:List aw}{o:aw}{m:an}{xs:Array an}{e:Array ar}{f:aV}{cap:List C}{a:List D}{b σ1:List aW}{res:D}(l:Ev X f a b res σ1)(ks:List Nat)
  (g:o.guard=af) (r:o.op=.call { callee:=.value m,args:=xs,argTypes:=e }) (n:eO (bX φ m)=aa (f,cap)) (c:oq (xs.toList.map (bX φ)++gj cap)=iT ks a) (h:oC ks.length a=ab)
  (d:kA ks σ=aa b) (q:cU b=ab) (i:cU σ1=ab) (hn:dM ks=ab) (j:bq ks.length σ1.length=ab) (p:gv N o.dst=ab)
  (k:AK X N Qf (.ops all rest::K) .normal (lr o.dst (jm (ks++mV σ.length (σ1.length-ks.length)) res) φ) (dZ ks σ1 σ)):AK X N Qf (.ops all (o::rest)::K) .normal φ σ :=
 jA.call (λ_ _ _ _=>dq g) r n ks l c h d q i hn (c7 j) o.dst rfl (ir p) k
def AK.u5{P:aq}{ι:Type}{X:Cx P}{N:Nat}{Qf:Post}{K:List It}{φ:Fr}{σ:List aW}{all rest:List aw}{o:aw}{n:an}{xs:Array an}{e:Array ar}{f:aV}{cap:List C}{a:List D}{b:List aW}{σ1:ι->List aW}{res:ι->D}(m:cD X f a b res σ1)(ks:List Nat)
  (g:o.guard=af) (s:o.op=.call { callee:=.value n,args:=xs,argTypes:=e }) (p:eO (bX φ n)=aa (f,cap)) (c:oq (xs.toList.map (bX φ)++gj cap)=iT ks a) (h:oC ks.length a=ab)
  (d:kA ks σ=aa b) (r:cU b=ab) (i:∀ j,cU (σ1 j)=ab) (hn:dM ks=ab) (l:∀ j,bq ks.length (σ1 j).length=ab) (q:gv N o.dst=ab)
  (k:∀ j,AK X N Qf (.ops all rest::K) .normal (lr o.dst (jm (ks++mV σ.length ((σ1 j).length-ks.length)) (res j)) φ) (dZ ks (σ1 j) σ)):AK X N Qf (.ops all (o::rest)::K) .normal φ σ :=
 jA.Pf (λ_ _ _ _=>dq g) s p ks m c h d r i hn (λj=>c7 (l j)) o.dst rfl (ir q) k
def AK.cQ{P:aq}{X:Cx P}{N:Nat}{Qf:Post}{K:List It}{φ:Fr}{σ:List aW}{all rest:List aw}{o:aw}{s:an}{xs:Array an}{q:Array ar}{f:aV}{cap:List C}{n:List D}{p σ1:List aW}{res:D}(r:Ev X f n p res σ1)(ks:List Nat)
  (h:(o.guard,o.op,eO (bX φ s),oq (xs.toList.map (bX φ)++gj cap),oC ks.length n,kA ks σ,cU p,cU σ1,dM ks,bq ks.length σ1.length,gv N o.dst)=(af,.call { callee:=.value s,args:=xs,argTypes:=q },aa (f,cap),iT ks n,ab,aa p,ab,ab,ab,ab,ab))
  (k:AK X N Qf (.ops all rest::K) .normal (lr o.dst (jm (ks++mV σ.length (σ1.length-ks.length)) res) φ) (dZ ks σ1 σ)):AK X N Qf (.ops all (o::rest)::K) .normal φ σ:=by
 simp only[kZ] at h;obtain⟨a,b,c,d,e,f,g,i,j,l,m⟩:=h;exact AK.Qk r ks a b c d e f g i j l m k
def AK.cP{P:aq}{ι:Type}{X:Cx P}{N:Nat}{Qf:Post}{K:List It}{φ:Fr}{σ:List aW}{all rest:List aw}{o:aw}{r:an}{xs:Array an}{n:Array ar}{f:aV}{cap:List C}{i:List D}{l:List aW}{σ1:ι->List aW}{res:ι->D}(p:cD X f i l res σ1)(ks:List Nat)
  (h:(o.guard,o.op,eO (bX φ r),oq (xs.toList.map (bX φ)++gj cap),oC ks.length i,kA ks σ,cU l,dM ks,gv N o.dst)=(af,.call { callee:=.value r,args:=xs,argTypes:=n },aa (f,cap),iT ks i,ab,aa l,ab,ab,ab)) (q:∀ j,(cU (σ1 j),bq ks.length (σ1 j).length)=(ab,ab))
  (k:∀ j,AK X N Qf (.ops all rest::K) .normal (lr o.dst (jm (ks++mV σ.length ((σ1 j).length-ks.length)) (res j)) φ) (dZ ks (σ1 j) σ)):AK X N Qf (.ops all (o::rest)::K) .normal φ σ:=by
 simp only[kZ] at h q;obtain⟨a,b,c,d,e,f,g,j,m⟩:=h;exact AK.u5 p ks a b c d e f g (λj=>(q j).1) j (λj=>(q j).2) m k
def xu:List D->List D->Option (List Prop)
 |[],[]=>aa []
 |a::al,b::bs=>match Bo a b with
  |some p=>match xu al bs with
   |some q=>aa (kh p q)
   |none=>af
  |none=>af
 |_,_=>af
def uW{σ:List aW}{s:St}:∀ {vs:List ak}{xs ys:List D}{ps:List Prop},xu xs ys=aa ps->ag ps->cv σ s vs xs->cv σ s vs ys
 |[],[],[],_,_,_,_=>trivial
 |_::_,[],_,_,_,_,h=>h.elim
 |[],_::_,_,_,_,_,h=>h.elim
 |[],[],_::_,_,h,_,_=>by simp[xu] at h
 |_::_,_::_,[],_,h,_,_=>by simp[xu] at h
 |v::vs,a::al,b::bs,ps,h,d,f=>by
  simp only[xu] at h;cases c:Bo a b with
  |none=>simp[c] at h
  |some p =>
   cases e:xu al bs with
   |none=>simp[c,e] at h
   |some q =>
    simp[c,e] at h;subst h;rw[ag.cat] at d;exact⟨oU c d.1 f.1,uW e d.2 f.2⟩
def AK.mq{P:aq}{ι:Type}{X:Cx P}{N:Nat}{Qf:Post}{K:List It}{φ:Fr}{σ:List aW}{all rest:List aw}{o:aw}{q:an}{xs:Array an}{e:Array ar}{f:aV}{cap:List C}{a:List D}{b:List aW}{σ1:ι->List aW}{res:ι->D}(p:cD X f a b res σ1)(ks:List Nat)
  (i:o.guard=af) (v:o.op=.call { callee:=.value q,args:=xs,argTypes:=e }) (r:eO (bX φ q)=aa (f,cap)) {ps:List Prop} (c:xu (xs.toList.map (bX φ)++gj cap) (iT ks a)=aa ps) (g:ag ps) (l:oC ks.length a=ab)
  (d:kA ks σ=aa b) (u:cU b=ab) (m:∀ j,cU (σ1 j)=ab) (hn:dM ks=ab) (n:∀ j,bq ks.length (σ1 j).length=ab) (t:gv N o.dst=ab)
  (k:∀ j,AK X N Qf (.ops all rest::K) .normal (lr o.dst (jm (ks++mV σ.length ((σ1 j).length-ks.length)) (res j)) φ) (dZ ks (σ1 j) σ)):AK X N Qf (.ops all (o::rest)::K) .normal φ σ :=
 jA.Pe (λ_ _ _ _=>dq i) v r ks p (λs vs h=>uW c g h) l d u m hn (λj=>c7 (n j)) o.dst rfl (ir t) k
section
open Go.Conc (G)
def JQ{a:Act}{d:Nat}{v:ak}(h:d<a.tmps.size):(a.put (aa d) v).tmps.getD d aj=v:=by
 simp[Act.put,dn,sI h]
def lM{P:aq}{f:aV}{fn:Func}{e:Array ak->Sem ak}(g:P.funcs[f]?=aa fn)(a:(fn.name== "runtime.NumGoroutine")=ae)
  (c:fn.body.isNone=ab) (j:Extern.findNext fn=af) (i:Extern.find fn=aa e) (args:Array ak) (h:cK P (e args)) (w:az) (es:Array Event) :
  (callFunc f args).events P w es=es.push ⟨.mark (.extern f),ae,ab⟩:=by
 have b:fn.name≠ "runtime.NumGoroutine":=by simpa using a
 have d:fn.body=af:=by simpa using c
 simp[callFunc,g,b,d,j,i];rw[h w]
section
variable {P:aq}{X:Cx P}{N:Nat}{Qf:Post}{K:List It}{φ:Fr}{σ:List aW}{all rest:List aw}{o:aw}
def AK.hand{ι:Type}(x:ι->D)(σ':ι->List aW)(z:o.guard=af)(y:gv N o.dst=ab)
  (h:∀ s a,cp N σ s φ a->aJ σ s->∃ i e s' v,(ay a.eval o).run P s.w=.ok e s'.w/\(e=.value v∨(e=.skip/\v=aj))/\c8 (σ' i) s' v (x i)/\aJ (σ' i) s'/\Step σ s (σ' i) s'/\eU s ((ay a.eval o).events P s.w #[]))
  (k:∀ i,AK X N Qf (.ops all rest::K) .normal (lr o.dst (x i) φ) (σ' i)):AK X N Qf (.ops all (o::rest)::K) .normal φ σ:=by
 intro s a f hh b kk cs S idx hb jE hQ;cases idx with
 |nil=>exact jE.elim
 |cons j idx =>
 refine zK hb jE.1 (dq z) λu d=>?_
 have c:=hh.rely d;have l:=f.rely d hh;obtain⟨i,e,s',v,h1,h2,C,n,p,r⟩:=h u a l c;have m:=p.oo c;refine⟨e,s',v,h1,h2,⟨⟨σ,σ' i,c,n,p⟩,r⟩,?_⟩;refine k i s' _ ?_ n b kk cs S idx hb jE.2 λg σ2 s2 a2 q B h2 st=>hQ g σ2 s2 a2 q B h2 ((d.stepW.trans m).trans st)
 cases A:o.dst with
 |none=>exact l.mono m c.len
 |some t=>exact(l.mono m c.len).put (ir y t A) C
def AK.law{x:D}{σ':List aW}(h:bF P o (bX φ) σ x σ')(b:o.guard=af)(a:gv N o.dst=ab)
  (k:AK X N Qf (.ops all rest::K) .normal (lr o.dst x φ) σ'):AK X N Qf (.ops all (o::rest)::K) .normal φ σ :=
 AK.one (.lF (λ_ _ _ _=>dq b) h) a k
def Fp(all:List aw)(φ:Fr)(o:aw):Bool:=match o.guard with
 |none=>ab
 |some (j,b)=>match zG φ all j with
  |some (aa ab)=>b
  |some (aa ae)=>!b
  |_=>ae
def vu{all:List aw}{o:aw}{φ:Fr}(h:Fp all φ o=ab):∀ σ s a,cp N σ s φ a->bj o (yielded all.toArray a.tmps)=ab:=by
 intro σ s a f;unfold Fp at h;split at h
 .rename_i d;exact dq d
 .rename_i j b d
  split at h
  .rename_i c
   simp only[bj,d,pS c f,h];rfl
  .rename_i c
   simp only[bj,d,pS c f];cases b
   .rfl
   .cases h
  .cases h
end
end
inductive qQ where
 |nil (a:Option Addr)
 |row (b cap:Nat)
def lu(bf:qQ)(n:Nat):ak:=match bf with
 |.nil a=>.slice a 0 0
 |.row b cap=>.slice (aa ⟨b,0,af⟩) n cap
def M5(xs:List ak):Nat->List C:=λi=>[.val (xs.getD i aj)]
section
variable {P:aq}{X:Cx P}{N:Nat}{Qf:Post}{K:List It}{φ:Fr}{σ:List aW}{all rest:List aw}{o:aw}
def AW.Qg{ι:Type}{c:Code}{Q:Post}{f:ι->Fr}{σ':ι->List aW}(h:∀ s a,cp N σ s φ a->aJ σ s->∃ (i:ι)(s':St),s'.w=s.w/\cp N (σ' i) s' (f i) a/\aJ (σ' i) s'/\Step σ s (σ' i) s')(k:∀ i,AW X N c Q (f i) (σ' i)):AW X N c Q φ σ:=by
 intro s a m hh b kk cs S hb hQ;obtain⟨i,s',n,l,g,st⟩:=h s a m hh;have d:=st.oo hh;refine .ghost (.of hh g n d) ?_;exact k i s' a l g b kk cs S hb λe j σ2 s2 a2 q p h2 oz=>hQ e j σ2 s2 a2 q p h2 (d.trans oz)
end
section
open Go.Conc (G)
def vr:C->Bool
 |.int _ _|.bool _|.str _|.l9|.nU|.zq|.val _=>ab
 |_=>ae
def vt:A->Bool
 |.c x=>vr x
 |.any=>ab
 |_=>ae
def M1:List A->Bool
 |[]=>ab
 |a::r=>match vt a with|true=>M1 r|false=>ae
def I8:E1->Bool
 |.one a=>vt a
 |.agg cs=>M1 cs
def Fi:List E1->Bool
 |[]=>ab
 |a::r=>match I8 a with|true=>Fi r|false=>ae
def Qe:D->Bool
 |.e x=>I8 x
 |.eN xs=>Fi xs
 |.any=>ab
section
variable {σ σ':List aW}{s s':St}
def rC{M M':Mem}{v:ak}{c:C}(h:vr c=ab)(r:Rd M v c):Rd M' v c:=by
 cases r <;> first|(simp[vr] at h;done)|skip
 case int h1=>exact .int h1
 case bool=>exact .bool
 case str h1 h2=>exact .str h1 h2
 case l9=>exact .l9
 case nU=>exact .nU
 case zq=>exact .zq
 case val h1=>exact .val h1
def Fj{v:ak}{a:A}(h:vt a=ab)(r:gu σ s v a):gu σ' s' v a:=by
 cases a with
 |c x=>exact rC h r
 |any=>exact r
 |_=>simp[vt] at h
def Fl:∀ {vs:List ak}{cs:List A},M1 cs=ab->dG σ s vs cs->dG σ' s' vs cs
 |[],[],_,_=>trivial
 |[],_::_,_,r=>r.elim
 |_::_,[],_,r=>r.elim
 |v::vs,c::cs,h,r=>by
  simp only[M1] at h;cases a:vt c with
  |false=>simp[a] at h
  |true=>simp only[a] at h;exact⟨Fj a r.1,Fl h r.2⟩
def zr{v:ak}{x:E1}(h:I8 x=ab)(r:ma σ s v x):ma σ' s' v x:=by
 cases x with
 |one a=>exact Fj h r
 |agg cs=>obtain⟨vs,c,b⟩:=r;exact⟨vs,c,Fl h b⟩
def Be:∀ {vs:List ak}{cs:List E1},Fi cs=ab->gD σ s vs cs->gD σ' s' vs cs
 |[],[],_,_=>trivial
 |[],_::_,_,r=>r.elim
 |_::_,[],_,r=>r.elim
 |v::vs,c::cs,h,r=>by
  simp only[Fi] at h;cases a:I8 c with
  |false=>simp[a] at h
  |true=>simp only[a] at h;exact⟨zr a r.1,Be h r.2⟩
def M3{v:ak}{d:D}(h:Qe d=ab)(r:c8 σ s v d):c8 σ' s' v d:=by
 cases d with
 |e x=>exact zr h r
 |eN xs=>obtain⟨vs,b,a⟩:=r;exact⟨vs,b,Be h a⟩
 |any=>trivial
end
def Dw:List aW->Bool
 |[]=>ab
 |.dz _::r=>Dw r
 |.dead::r=>Dw r
 |_=>ae
def Bf:∀ {l:List aW},Dw l=ab->∀ B∈l,(∃ H,B=.dz H)∨B=.dead
 |[],_,B,a=>by simp at a
 |b::r,h,B,a=>by
  have c:((∃ H,b=.dz H)∨b=.dead)/\Dw r=ab:=by cases b <;> simp_all [Dw]
  rcases eY.1 a with rfl|a
  .exact c.1
  .exact Bf c.2 B a
def jH(σ:List aW)(a:Nat)(u:ak)(k n:Nat)(es:Nat->List C):Prop :=
 ∀ s,aJ σ s->∃ (L:Loc) (M':Mem),s.β[a]?=aa L/\(∀ b o v,s.M b o=aa v->M' b o=aa v)/\(∀ b,b∉L.bs->∀ o,M' b o=s.M b o)/\(∀ b o v,M' b o=aa v->s.w.cell? ⟨b,o,af⟩=aa v) /\
  (∀ b∈L.bs,∀ o,s.M b o=af)/\Rd M' u (.sl ae k n es)
section
variable {P:aq}{X:Cx P}{N:Nat}{Qf:Post}{K:List It}{φ:Fr}{σ:List aW}{all rest:List aw}{o:aw}
def cv.setAt{σ:List aW}{s:St}{d:D}:∀ {vs:List ak}{ds:List D}{p:Nat}{v:ak},cv σ s vs ds->vs[p]?=aa v->c8 σ s v d->cv σ s vs (ds.set p d)
 |[],[],_,_,_,h,_=>by simp at h
 |[],_::_,_,_,h,_,_=>h.elim
 |_::_,[],_,_,h,_,_=>h.elim
 |u::vs,e::ds,0,v,h,a,b=>by simp at a;subst a;exact⟨b,h.2⟩
 |u::vs,e::ds,p+1,v,h,a,b=>⟨h.1,cv.setAt (p:=p) h.2 (by simpa using a) b⟩
def nV(σ:List aW)(ds Fo:List D):Prop :=
 ∀ s vs,aJ σ s->cv σ s vs ds->∃ (B:Nat->Prop) (M':Mem),(∀ b,B b->∃ L∈s.β,b∈L.bs)/\(∀ b o v,s.M b o=aa v->M' b o=aa v)/\(∀ b,¬B b->∀ o,M' b o=s.M b o) /\
  (∀ b o v,M' b o=aa v->s.w.cell? ⟨b,o,af⟩=aa v)/\(∀ b,B b->∀ o,s.M b o=af)/\cv σ { s with M:=M' } vs Fo
def nV.refl(σ:List aW)(ds:List D):nV σ ds ds:=λs vs hh hr=>⟨λ_=>False,s.M,λ_ h=>h.elim,λ_ _ _ h=>h,λ_ _ _=>rfl,hh.mem,λ_ h=>h.elim,hr⟩
def nV.step{σ:List aW}{ds Fo:List D}(h:nV σ ds Fo)(p z:Nat){u:ak}{k n:Nat}{es:Nat->List C}(r:Fo[p]?=aa (.e (.one (.v u))))(hl:jH σ z u k n es):nV σ ds (Fo.set p (.e (.one (.c (.sl ae k n es))))):=by
 classical
 intro s vs hh hr;obtain⟨B,a,H,y,O,I,J,m⟩:=h s vs hh hr;obtain⟨L,f,q,G,Q,E,F,A⟩:=hl s hh;have h1:∀ b o v,a b o=aa v->(a b o).or (f b o)=aa v:=λb o v d=>by rw[d];rfl
 have h2:∀ b o v,f b o=aa v->(a b o).or (f b o)=aa v:=λb o v d=>by
  cases e:a b o with
  |none=>rw[d];rfl
  |some v' =>
   grind
 refine⟨λb=>B b∨b∈L.bs,λb o=>(a b o).or (f b o),?_,λb o v d=>h1 b o v (y b o v d),?_,?_,?_,?_⟩
 .grind
 .grind
 .intro b o v d;cases e:a b o with
  |none=>grind
  |some v'=>grind
 .grind
 .have e1:Ext σ { s with M:=a } σ { s with M:=λb o=>(a b o).or (f b o) }:=⟨h1,λl B L x q=>⟨B,L,x,q,.refl _ _⟩⟩
  have t:=m.mono e1 hh.len;obtain⟨w,j⟩:=cv.get m;have g:p<vs.length:=by grind
  have i:vs[p]?=aa u:=by
   have:=j p;rw[r,bl g] at this;have:=Rd.fX (show Rd a vs[p] (.val u) from this)
   rw[bl g,this]
  exact t.setAt i (show c8 σ { s with M:=λb o=>(a b o).or (f b o) } u (.e (.one (.c (.sl ae k n es)))) from Rd.mono h2 A)
def AK.GF [X.jH] {ι:Type}{fo:an}{xs:Array an}{ZE:Array ar}{f:aV}{cap:List C}{p:List D}{res:ι->D}{σ1:ι->List aW}(IX:cD X f p [] res σ1){Fo:List D}
  (hgd:Fp all φ o=ab) (ho:o.op=.call { callee:=.value fo,args:=xs,argTypes:=ZE }) (hf:eO (bX φ fo)=aa (f,cap)) (hl:nV σ (xs.toList.map (bX φ)++gj cap) Fo)
  {ps:List Prop} (Ty:xu Fo (iT [] p)=aa ps) (hps:ag ps) (hin:oC 0 p=ab) (ya:∀ j,Qe (res j)=ab) (iQ:∀ j,Dw (σ1 j)=ab) (hN:gv N o.dst=ab)
  (kk:∀ j,AK X N Qf (.ops all rest::K) .normal (lr o.dst (res j) φ) (σ++σ1 j)):AK X N Qf (.ops all (o::rest)::K) .normal φ σ:=by
 intro s a M4 hh b kx cs S idx hb jE hQ;cases idx with
 |nil=>exact jE.elim
 |cons i idx =>
 obtain⟨hi,jE⟩:=jE;have ZF:=dK M4 fo;unfold eO at hf;split at hf
 case h_2=>cases hf
 case h_1 f' IV he =>
  cases hf;rw[he] at ZF;have U:=fC ZF;generalize z:a.eval fo=fv at U;cases U with
  |fn fs l8 hlf WN f1 f2 h1 h2 r1 r2 =>
   have WO:fs=[]:=gf hlf;subst WO;have Tz:cv σ s l8 (gj cap):=lI (λj c hj=>⟨f2 j,h2 j (by grind),r2 j c hj⟩) WN
   have V:cv σ s (xs.toList.map a.eval++l8) (xs.toList.map (bX φ)++gj cap):=(nP (dK M4) xs.toList).append Tz;generalize I9:xs.toList.map a.eval++l8=vs at V;obtain⟨⟨fn,SW,T,F⟩,TB⟩:=IX;have rD:∀ w,(ay a.eval o).run P w=.ok (.enter f vs.toArray) w:=λw=>by rw[<-I9];exact(gM ho SW T F z w).1
   have WQ:∀ w,(ay a.eval o).events P w #[]=#[]:=λw=>(gM ho SW T F z w).2
   refine .next rfl λm MI=>?_
   have hr:=X.iq MI;have e:=hh.rely hr;have Y:=M4.rely hr hh;have TC:cv σ m vs (xs.toList.map (bX φ)++gj cap):=V.mono hr.stepW.ext hh.len;obtain⟨B,M',hBL,m1,m2,m3,m4,m5⟩:=hl m vs e TC
   let G:St:={ m with β:=[],M:=M',own:=λb=>m.own b∨∃ L∈m.β,b∈L.bs }
   have hhc:aJ [] G:=by
    refine⟨m3,rfl,by simp,by simp[G],by simp[G],λb hb=>⟨?_,by simp[G]⟩⟩
    rcases hb with hb|⟨L',r,hb⟩
    .exact(e.own b hb).1
    .exact e.lt L' r b hb
   have WR:eK m G:=by
    refine⟨rfl,m1,λb hb o=>m2 b (λR=>by grind) o,m3,λb hb=>?_⟩
    grind
   have J:cv [] G vs p:=by
    have a3:=uW Ty hps m5;exact(cv.sub (ks:=[]) (σ:=σ) (σ':=[]) (s:={ m with M:=M' }) (β':=[]) rfl rfl a3 hin).mono (σ:=[]) (s:={ m with β:=[],M:=M' }) (σ':=[]) (s':=G) ⟨λ_ _ _ h=>h,λl B L R hL=>by simp at R⟩ rfl
   refine⟨_,m,_,oQ hi (vu hgd _ _ _ Y) hb (rD m.w),⟨⟨σ,σ,e,e,.refl _ _⟩,eU.seen (by rw[WQ];exact .nil)⟩,.ghost WR (TB G vs J hhc S _ λj fr v s2 GA mR Ba oz=>?_)⟩
   refine pI (cs:=cs) (c:=b.aT a (.inRegion all.toArray (i::idx)::kx)) Ba GA λy W=>?_
   have u:=Ba.rely W;have n:=oz.trans W.stepW;have TD:=mR.mono W.stepW.ext Ba.len
   classical
   let I:Mem:=λb o=>if B b then m.M b o else y.M b o
   have x:∀ b,(m.own b∨∃ L∈m.β,b∈L.bs)->y.own b:=λb hb=>by rw[n.own];exact hb
   have ZG:mS y { y with M:=I }:=by
    refine⟨rfl,rfl,rfl,λb o v z=>?_,λb o v z=>?_⟩
    .grind
    grind
   refine .forget Cx.jH.ok ZG ?_;have ZH:∀ b o v,I b o=aa v->y.M b o=aa v:=ZG.less
   let s5:St:={ y with M:=I,β:=m.β++y.β,own:=m.own }
   have ZI:∀ b o v,m.M b o=aa v->I b o=aa v:=λb o v z=>by
    by_cases d:B b
    .rw[m4 b d] at z;cases z
    .simp only[I,d,b5];exact n.mem b o v (m1 b o v z)
   have ZJ:∀ b,b<m.w.heap.size->∀ o,I b o=m.M b o:=λb hb o=>by
    by_cases d:B b
    .simp only[I,d,cj]
    .simp only[I,d,b5];rw[n.jk b hb (by simp[G]) o];exact m2 b d o
   have Z:y.β.length=(σ1 j).length:=u.len;have ex:Ext σ m (σ++σ1 j) s5:=by
    refine⟨ZI,λl B L R hL=>⟨B,L,?_,?_,.refl _ _⟩⟩
    .grind
    grind
   have IG:m.w.heap.size<=y.w.heap.size:=n.size;have E:∀ (l:Nat) (L':Loc),(m.β++y.β)[l]?=aa L'->(l<m.β.length/\m.β[l]?=aa L')∨(m.β.length<=l/\y.β[l-m.β.length]?=aa L'):=λl L' h=>by
    grind
   have hh5:aJ (σ++σ1 j) s5:=by
    refine⟨λb o v z=>u.mem b o v (ZH b o v z),by simp[s5,e.len,Z],?_,?_,?_,?_⟩
    .intro l B L' R r;rcases E l L' r with⟨ur,h1⟩|⟨Pb,h1⟩
     .rw[jf (by rw[<-e.len];exact ur)] at R
      exact(e.box l B L' R h1).carry ex e.len λg d=>⟨n.eB g (.inr ⟨L',bM h1,d⟩),ZJ g (e.lt L' (bM h1) g d)⟩
     .rw[gg (by rw[<-e.len];exact Pb),<-e.len] at R
      have hbx:=u.box _ B L' R h1;rcases Bf (iQ j) B (bM R) with⟨H,rfl⟩|rfl
      .obtain⟨ch,c1,c2,c3,c4⟩:=hbx;refine⟨ch,c1,c2,c3,λg d o=>?_⟩
       grind
      .trivial
    .intro l l' L1 L2 hL1 hL2 g O Q;rcases E l L1 hL1 with⟨ur,h1⟩|⟨Pb,h1⟩ <;> rcases E l' L2 hL2 with⟨abA,h2⟩|⟨abB,h2⟩
     .exact e.fT l l' L1 L2 h1 h2 g O Q
     .exact absurd Q ((u.own g (x g (.inr ⟨L1,bM h1,O⟩))).2 L2 (bM h2))
     .exact absurd O ((u.own g (x g (.inr ⟨L2,bM h2,Q⟩))).2 L1 (bM h1))
     .have:=u.fT _ _ L1 L2 h1 h2 g O Q;omega
    .intro L' r g d;rcases fR.1 r with h|h
     .exact cC (e.lt L' h g d) IG
     .exact u.lt L' h g d
    .intro g d;refine⟨cC (e.own g d).1 IG,λL' r=>?_⟩
     rcases fR.1 r with h|h
     .exact(e.own g d).2 L' h
     .exact(u.own g (x g (.inl d))).2 L' h
   have hg5:eK { y with M:=I } s5:=by
    refine⟨rfl,λ_ _ _ h=>h,λ_ _ _=>rfl,λb o v z=>u.mem b o v (ZH b o v z),λg d=>?_⟩
    grind
   have WT:cw σ m (σ++σ1 j) s5:=by
    refine⟨IG,λg d=>n.eB g (.inl d),ZI,λg d _ o=>ZJ g d o,λL' r g d=>?_,ex.box,n.os,n.tape,n.output,rfl⟩
    rcases fR.1 r with h|h
    .exact .inr ⟨L',h,d⟩
    .rcases n.uo L' h g d with h1|⟨L0,h1,_⟩
     .exact .inl h1
     .simp[G] at h1
   refine .ghost hg5 ?_;have A:=j8 (b:=b) (a:=a) (k:=kx) all.toArray i idx v;rw[hi] at A;simp only[nG] at A;rw[A];refine kk j s5 _ ?_ hh5 b kx cs S idx hb jE λφ2 σ2 s6 a2 q f2 h2 st=>hQ φ2 σ2 s6 a2 q f2 h2 ((hr.stepW.trans WT).trans st)
   cases hd:o.dst with
   |none=>exact Y.mono WT e.len
   |some t=>exact(Y.mono WT e.len).put (ir hN t hd) (M3 (ya j) TD)
def AK.Ja [X.jH] {ι:Type}{r:an}{xs:Array an}{g:Array ar}{f:aV}{cap:List C}{a:List D}{res:ι->D}{σ1:ι->List aW}(q:cD X f a [] res σ1)(t p:Nat){u:ak}{k n:Nat}{es:Nat->List C}
  (l:Fp all φ o=ab) (z:o.op=.call { callee:=.value r,args:=xs,argTypes:=g }) (w:eO (bX φ r)=aa (f,cap)) (y:(xs.toList.map (bX φ)++gj cap)[p]?=aa (.e (.one (.v u)))) (hl:jH σ t u k n es)
  {ps:List Prop} (b:xu ((xs.toList.map (bX φ)++gj cap).set p (.e (.one (.c (.sl ae k n es))))) (iT [] a)=aa ps) (i:ag ps) (m:oC 0 a=ab) (d:∀ j,Qe (res j)=ab) (h:∀ j,Dw (σ1 j)=ab) (x:gv N o.dst=ab)
  (kk:∀ j,AK X N Qf (.ops all rest::K) .normal (lr o.dst (res j) φ) (σ++σ1 j)):AK X N Qf (.ops all (o::rest)::K) .normal φ σ :=
 AK.GF q l z w ((nV.refl _ _).step p t y hl) b i m d h x kk
end
end
def ia(E:ar)(k:Nat)(bf:qQ)(n:Nat)(xs:List ak):ak->(Nat->Option Obj)->Prop:=λv a=>v=.nilFunc/\(∀ x∈xs,cX x=ab)/\xs.length=n*k/\match bf with
 |.nil _=>n=0/\a=λ_=>af
 |.row b cap=>n<=cap/\cap<=9223372036854775807/\∃ c,(xs++c).length=cap*k/\a=λd=>if d=b then aa (.cells (xs++c).toArray E (0,0)) else af
def sL(k:Nat)(xs:List ak):Nat->List C:=λi=>((xs.drop (i*k)).take k).map .val
def Bg{k n i:Nat}{xs:List ak}(a:xs.length=n*k)(hi:i<n):(sL k xs i).length=k:=by
 have:i*k+k<=n*k:=by rw[<-j6];exact ei _ hi
 simp[sL,a];omega
def Bh{k i j:Nat}{xs:List ak}{c:C}(h:(sL k xs i)[j]?=aa c):∃ u,xs[i*k+j]?=aa u/\c=.val u:=by
 simp only[sL,nF,gQ,oO] at h
 grind
def ia.lookup{E:ar}{k b cap n:Nat}{xs:List ak}{v:ak}{ch:Nat->Option Obj}(h:ia E k (.row b cap) n xs v ch):∃ a,(xs++a).length=cap*k/\ch b=aa (.cells (xs++a).toArray E (0,0))/\∀ c,(ch c).isSome=ab↔c=b:=by
 obtain⟨_,_,_,_,_,a,h1,h2⟩:=h
 grind
def Rd.TE{M:Mem}{b cap k n:Nat}{xs:List ak}(e:∀ x∈xs,cX x=ab)(hl:xs.length=n*k)(hn:n<=cap)(g:cap<=9223372036854775807)(f:∀ o,M b o=xs[o]?):Rd M (.slice (aa ⟨b,0,af⟩) n cap) (.sl ae k n (sL k xs)):=by
 refine Rd.qt (M:=M) (k:=k) (n:=n) (es:=sL k xs) (vs:=xs) (a:=aa ⟨b,0,af⟩) (b:=b) (off:=0) (cap:=cap) (t:=ae) ⟨hl,λi hi=>Bg hl hi,λi hi j c hj=>?_⟩ (λ_=>rfl) hn g (by simp) (λp u d=>by rw[f,br];exact d)
 obtain⟨u,h1,rfl⟩:=Bh hj;exact⟨u,h1,.val (e u (bM h1))⟩
section
variable {P:aq}{X:Cx P}{N:Nat}{Qf:Post}{K:List It}{φ:Fr}{σ:List aW}{all rest:List aw}{o:aw}
def ia.Fq{E:ar}{k n g:Nat}{bf:qQ}{xs:List ak}(hl:σ[g]?=aa (.dz (ia E k bf n xs)))(es:Nat->List C)(z:∀ i,i<n->(es i).length=k/\∀ M j c x,(es i)[j]?=aa c->xs[i*k+j]?=aa x->Rd M x c):jH σ g (lu bf n) k n es:=by
 intro s hh;have w:g<σ.length:=(cg.1 hl).1;have m:g<s.β.length:=by rw[hh.len];exact w
 have B:=bl m;generalize s.β[g]=L at B;obtain⟨ch,I,f,J,e⟩:=hh.box g _ L hl B;cases bf with
 |nil a0 =>
  obtain⟨_,_,_,rfl,_⟩:=I;exact⟨L,s.M,B,λ_ _ _ h=>h,λ_ _ _=>rfl,hh.mem,e,Rd.jG⟩
 |row b cap =>
  obtain⟨V,R,d,O⟩:=I.lookup;obtain⟨S,H,r,q,G,_⟩:=I;have A:b∈L.bs:=(J b).2 (by rw[d];rfl)
  have y:=f b _ d;obtain⟨c1,c2⟩:=hh.zj (b:=b) (vs:=xs) (e b A) (λo v U=>by
   simp only[aZ,y]
   grind)
  refine⟨L,λF o=>if F=b then xs[o]? else s.M F o,B,c2,λF D o=>aY (by rintro rfl;exact D A),c1.mem,e,?_⟩
  refine Rd.qt (k:=k) (n:=n) (es:=es) (vs:=xs) (a:=aa ⟨b,0,af⟩) (b:=b) (off:=0) (cap:=cap) (t:=ae) ⟨r,λi hi=>(z i hi).1,λi hi j c hj=>?_⟩ (λ_=>rfl) q G (by simp) (λp u Q=>by simpa using Q)
  have T:j<k:=by grind
  have l:i*k+j<xs.length:=by
   rw[r];have:i*k+k<=n*k:=by rw[<-j6];exact ei _ hi
   omega
  exact⟨xs[i*k+j],bl l,(z i hi).2 _ j c _ hj (bl l)⟩
def AK.Dx{k:Nat}{x y:an}{E:ar}{ie:TI}(h:mj P o x y E ie)(Q:ie.size=k){d:Nat}(hd:o.dst=aa d)(hg:o.guard=af)(hN:gv N o.dst=ab){l:Nat}{bf:qQ}{xs:List ak}{n:Nat}(U:bX φ x=.e (.one (.v (lu bf n))))
  (hl:σ[l]?=aa (.dz (ia E k bf n xs))) {tx:Bool} {es':Nat->List C} (hy:bX φ y=.e (.one (.c (.sl tx k 1 es')))) {xv:List ak} (hxv:xv.length=k) (hcx:∀ (M:Mem) (v:ak) (j:Nat) (c:C),(es' 0)[j]?=aa c->Rd M v c->xv[j]?=aa v/\cX v=ab) (hb:(n+1)*ie.bytes<=140737488355328)
  (kk:∀ m:qQ,AK X N Qf (.ops all rest::K) .normal ((d,.e (.one (.v (lu m (n+1)))))::φ) (σ.set l (.dz (ia E k m (n+1) (xs++xv))))):AK X N Qf (.ops all (o::rest)::K) .normal φ σ:=by
 refine AK.hand (ι:=qQ) (λm=>.e (.one (.v (lu m (n+1))))) (λm=>σ.set l (.dz (ia E k m (n+1) (xs++xv)))) hg hN ?_ λm=>by rw[hd];exact kk m
 intro s a hf hh;obtain⟨t,t2,i,i2,ho,hi,H,O,J⟩:=h.op;have P8:l<σ.length:=(cg.1 hl).1;have P9:l<s.β.length:=by rw[hh.len];exact P8
 have hL:=bl P9;generalize s.β[l]=L at hL;obtain⟨ch,hH,Jb,Qa,WU⟩:=hh.box l _ L hl hL;have V:=bM hL;have R:=dK hf x;rw[U] at R;have R:=Rd.fX R;have hw:=dK hf y;rw[hy] at hw;have hw:=fC hw;have Y:=hH.2.1;have D:=hH.2.2.1;have nM:∀ b,s.w.heap.size<=b->∀ o,s.M b o=af:=λb hb o=>by
  cases hm:s.M b o with
  |none=>rfl
  |some v=>have:=hh.block hm;omega
 have mk:∀ (M':Mem) (a0:Option Addr) (cap:Nat),lu bf n=.slice a0 n cap->cap<n+1->aJ (σ.map λ_=>.dead) { s with M:=M' }->(∀ g o v,s.M g o=aa v->M' g o=aa v) ->
   Rd M' (.slice a0 n cap) (.sl ae k n (sL k xs))->(∀ {es},eU { s with M:=M' } es->eU s es) ->
   ∃ i nx s' v,(ay a.eval o).run P s.w=.ok nx s'.w/\(nx=.value v∨(nx=.skip/\v=aj))/\c8 (σ.set l (.dz (ia E k i (n+1) (xs++xv)))) s' v (.e (.one (.v (lu i (n+1)))))/\aJ (σ.set l (.dz (ia E k i (n+1) (xs++xv)))) s'/\Step σ s (σ.set l (.dz (ia E k i (n+1) (xs++xv)))) s'/\eU s ((ay a.eval o).events P s.w #[]):=by
  intro M' a0 cap ZL Dy MJ hMM hR TG;have I:Rd ({ s with M:=M' }:St).M (a.eval y) (.sl tx ie.size 1 es'):=by rw[Q];exact hw.mono hMM
  have ZM:Rd ({ s with M:=M' }:St).M (.slice a0 n cap) (.sl ae ie.size n (sL k xs)):=by rw[Q];exact hR
  obtain⟨vs,p,A,G,f2,f3,f4,f5⟩:=iu (P:=P) (s:={ s with M:=M' }) (ty:=o.type) hi H O J h.elem MJ ZM I Dy hb h.bytes;have f6:=iR (P:=P) (s:={ s with M:=M' }) (ty:=o.type) hi H O J h.elem MJ ZM I Dy hb h.bytes;rw[Q] at G f4;have SU:vs.length=(n+1)*k:=G.len;have Ds:xs.length+k=(n+1)*k:=by rw[D,j6]
  have WV:0<k:=by have:=h.size;omega
  have SX:∀ j,j<k->∃ v,vs[n*k+j]?=aa v/\xv[j]?=aa v/\cX v=ab:=λj hj=>by
   have Qh:=G.width n (by omega)
   have hwn:cJ n (sL k xs) es' n=es' 0:=by simp[cJ]
   rw[hwn] at Qh;obtain⟨v,v1,v2⟩:=G.rd n (by omega) j ((es' 0)[j]'(by omega)) (by grind)
   grind
  have I9:vs=xs++xv:=by
   apply iK
   intro q
   by_cases e:q<xs.length
   .have hi:q / k<n:=pz (by rw[jD,<-D];exact e)
    have Pa:q / k*k+q % k=q:=pA q k;have hwl:=Bg (k:=k) D hi;have hap:cJ n (sL k xs) es' (q / k)=sL k xs (q / k):=by simp[cJ,hi]
    have hjl:q % k<(sL k xs (q / k)).length:=by rw[hwl];exact hJ _ WV
    obtain⟨v,v1,v2⟩:=G.rd (q / k) (by omega) (q % k) ((sL k xs (q / k))[q % k]) (by grind)
    obtain⟨u,u1,u2⟩:=Bh (bl hjl);rw[u2] at v2;rw[Pa] at v1 u1;rw[jf e,v1,u1,Rd.fX v2]
   grind
  subst I9;have WW:∀ x∈xv,cX x=ab:=λx U=>by
   obtain⟨j,hj,rfl⟩:=dX U
   grind
  let w':az:=s.w.drew.alloc (.cells (xs++xv++p).toArray E)
  have I4:w'.heap[s.w.heap.size]?=aa (.cells (xs++xv++p).toArray E (0,0)):=dt s.w.drew _;have IG:w'.heap.size=s.w.heap.size+1:=by show (s.w.drew.heap.push _).size=_;simp
  obtain⟨t1,W⟩:=hh.k5 (l:=l) (H':=ia E k (.row s.w.heap.size A) (n+1) (xs++xv)) (L':=⟨L.v,[s.w.heap.size]⟩) (w':=w') hl hL rfl (by omega)
   (λb hb _=>cE s.w.drew _ hb) (λb hb=>by grind)
   ⟨λg=>if g=s.w.heap.size then aa (.cells (xs++xv++p).toArray E (0,0)) else af,⟨hH.1,λx U=>by
    grind,by simp only[bG];omega,f2,f3,p,by rw[f4],rfl⟩,λb o hb=>by
    grind,λb=>by by_cases e:b=s.w.heap.size <;> simp[e]⟩ rfl rfl rfl
  refine⟨.row s.w.heap.size A,.value (.slice (aa ⟨s.w.heap.size,0,af⟩) (n+1) A),_,_,?_,.inl rfl,Rd.val rfl,t1,W,?_⟩
  .rw[cY ho,R,ZL];simp only[bS,cW];have f5':(Builtin.append_ #[t,t2] o.type #[.slice a0 n cap,a.eval y]).run P s.w=_:=f5;rw[f5'];rfl
  .rw[cY ho,R,ZL];exact eu (TG f6)
 cases bf with
 |nil a0 =>
  obtain⟨_,_,_,rfl,_⟩:=hH;refine mk s.M a0 0 rfl (by simp) (by have:=hh.kz;exact⟨this.mem,this.len,this.box,this.fT,this.lt,this.own⟩) (λ_ _ _ h=>h) Rd.jG (λh=>h)
 |row b cap =>
  obtain⟨p,TH,S,TJ⟩:=hH.lookup;obtain⟨TK,_,_,Dy,IF,_⟩:=hH;have F:b∈L.bs:=(Qa b).2 (by rw[S];rfl)
  have z:=Jb b _ S;have ZN:=WU b F;have WX:b<s.w.heap.size:=hh.lt L V b F;have O9:∀ o v,xs[o]?=aa v->s.w.cell? ⟨b,o,af⟩=aa v:=by
   intro o v ho;simp only[aZ,z]
   grind
  obtain⟨c1,c2⟩:=hh.zj (b:=b) (vs:=xs) ZN O9;have TG:∀ {es:Array Event},eU { s with M:=λg o=>if g=b then xs[o]? else s.M g o } es->eU s es:=λhe =>
   he.vn (b:=b) V F c2 λg o v R=>by
    grind
  have hR:=Rd.TE (M:=λg o=>if g=b then xs[o]? else s.M g o) (b:=b) (cap:=cap) (xs:=xs) Y D Dy IF (λo=>by simp)
  by_cases r:n+1<=cap
  .have I:Rd ({ s with M:=λg o=>if g=b then xs[o]? else s.M g o }:St).M (a.eval y) (.sl tx ie.size 1 es'):=by rw[Q];exact hw.mono c2
   obtain⟨f,G,f2⟩:=j9 (P:=P) (s:={ s with M:=λg o=>if g=b then xs[o]? else s.M g o }) (ty:=o.type) (n:=n) (b:=b) (cap:=cap) hi H O J h.elem c1 z (by rw[Q,TH]) I r
   have f6:=lJ (P:=P) (s:=s) (ty:=o.type) (n:=n) (b:=b) (cap:=cap) hi H O J h.elem hh z (by rw[Q,TH]) (x:=a.eval y) (tx:=tx) (es':=es') (by rw[Q];exact hw) r V F (λo _=>ZN o)
   rw[Q] at G f2;have SV:f.length=k:=by have:=G.len;omega
   have ZO:=G.width 0 (by omega)
   have SX:∀ j,j<k->∃ v,f[j]?=aa v/\xv[j]?=aa v/\cX v=ab:=λj hj=>by
    obtain⟨v,v1,v2⟩:=G.rd 0 (by omega) j ((es' 0)[j]'(by omega)) (bl (by omega))
    grind
   have T:f=xv:=by
    apply iK
    grind
   subst T;have WW:∀ x∈f,cX x=ab:=λx U=>by
    obtain⟨j,hj,rfl⟩:=dX U
    grind
   have hfk:n*k+k<=cap*k:=by rw[<-j6];exact ei _ r
   have hzk:k<=p.length:=by grind
   have Z:((xs++p).take (n*k)++f++(xs++p).drop (n*k+f.length))=xs++f++p.drop k:=by
    rw[<-D,SV];simp[uT]
   rw[Z] at f2;have P5:(s.w.setRow b (xs++f++p.drop k).toArray).heap[b]?=aa (.cells (xs++f++p.drop k).toArray E (0,0)):=setRow_heap s.w b _ _ E _ z;have zt:∀ g,g≠b->(s.w.setRow b (xs++f++p.drop k).toArray).heap[g]?=s.w.heap[g]?:=λg B=>setRow_other s.w b g _ B
   obtain⟨t1,W⟩:=hh.k5 (l:=l) (H':=ia E k (.row b cap) (n+1) (xs++f)) (L':=L) (w':=s.w.setRow b (xs++f++p.drop k).toArray) hl hL rfl (by simp)
    (λg B hn=>zt g (by rintro rfl;exact hn F)) (λg B=>.inl B)
    ⟨λg=>if g=b then aa (.cells (xs++f++p.drop k).toArray E (0,0)) else af,⟨TK,λx U=>by
     grind,by grind,r,IF,p.drop k,by grind,rfl⟩,λg o B=>by
     grind,λg=>by
     grind⟩ rfl rfl rfl
   refine⟨.row b cap,.value (.slice (aa ⟨b,0,af⟩) (n+1) cap),_,_,?_,.inl rfl,Rd.val rfl,t1,W,?_⟩
   .rw[cY ho,R];simp only[bS,cW,lu];have f2':(Builtin.append_ #[t,t2] o.type #[.slice (aa ⟨b,0,af⟩) n cap,a.eval y]).run P s.w=_:=f2;rw[f2'];rfl
   .rw[cY ho,R];exact eu f6
  .exact mk _ (aa ⟨b,0,af⟩) cap rfl (by omega) c1 c2 hR TG
def AK.M6(t:Nat)(E:ar)(k:Nat){j:Nat}{es:Nat->List C}{c:Code}(h:look φ t=.e (.one (.c (.sl ab j 0 es))))
  (kk:∀ bf:qQ,AK X N Qf (.code c::K) .normal ((t,.e (.one (.v (lu bf 0))))::φ) (σ++[.dz (ia E k bf 0 [])])):AK X N Qf (.code c::K) .normal φ σ:=by
 refine AW.Qg (λs a d hh=>?_) kk
 have f:=d.slot t;rw[h] at f;obtain⟨a0,cap,vs,g,_,_,b,_,_⟩:=(fC f).flat;have b:=b rfl;subst b;obtain⟨i,g2⟩:=hh.gT (B:=.dz (ia E k (.nil a0) 0 [])) (L:=⟨.nilFunc,[]⟩) (.refl _ _) rfl hh ⟨λ_=>af,⟨rfl,by simp,by simp,rfl,rfl⟩,by simp,by simp,by simp⟩ (by simp)
 refine⟨.nil a0,{ s with β:=s.β++[⟨.nilFunc,[]⟩] },rfl,⟨d.size,d.defers.imp λ_ h1=>h1.mono g2.ext,λu=>?_⟩,i,g2⟩
 simp only[look];cases hb:aA t u with
 |false=>exact(d.slot u).mono g2.ext hh.len
 |true =>
  have e:=bT hb;subst e;show Rd _ _ _;rw[g];exact Rd.val rfl
def AK.Dz(t l:Nat){E:ar}{k n:Nat}{bf:qQ}{xs:List ak}(es:Nat->List C){c:Code}(y:look φ t=.e (.one (.v (lu bf n))))(hl:σ[l]?=aa (.dz (ia E k bf n xs)))(g:∀ i,i<n->(es i).length=k/\∀ M j c x,(es i)[j]?=aa c->xs[i*k+j]?=aa x->Rd M x c)
  (kk:AK X N Qf (.code c::K) .normal ((t,.e (.one (.c (.sl ae k n es))))::φ) (σ.set l .dead)):AK X N Qf (.code c::K) .normal φ σ:=by
 refine AK.ghost (λs a f hh=>?_) kk
 obtain⟨L,M',q,p,r,z,F,A⟩:=ia.Fq hl es g s hh;have d:l<σ.length:=(cg.1 hl).1;have m:=f.slot t;rw[y] at m;have w:=Rd.fX m;have ex:Ext σ s (σ.set l .dead) { s with M:=M' }:=by
  refine⟨p,λl' B L' l7 ga=>?_⟩
  by_cases e:l=l'
  .subst e;rw[hl] at l7;cases l7;exact⟨.dead,L',by rw[eX d],ga,rfl⟩
  .exact⟨B,L',by rw[fE e];exact l7,ga,.refl _ _⟩
 have st:Step σ s (σ.set l .dead) { s with M:=M' }:=by
  refine⟨bc _,λ_ _ _=>rfl,p,λb _ hn o=>r b (hn L (bM q)) o,λL h b hb=>.inr ⟨L,h,hb⟩,ex.box,rfl,rfl,rfl,rfl⟩
 refine⟨{ s with M:=M' },rfl,⟨f.size,f.defers.imp λ_ h1=>h1.mono st.ext,λu=>?_⟩,⟨z,by simp[hh.len],?_,hh.fT,hh.lt,hh.own⟩,st⟩
 .simp only[look];cases hb:aA t u with
  |false=>exact(f.slot u).mono st.ext hh.len
  |true =>
   have e:=bT hb;subst e;show Rd _ _ _;rw[w];exact A
 .intro l' B L' l7 ga
  by_cases e:l=l'
  .subst e;rw[eX d] at l7;cases l7;trivial
  .rw[fE e] at l7;exact(hh.box l' B L' l7 ga).carry ex hh.len λb hb=>⟨rfl,r b λD=>e (hh.fT l l' L L' q ga b D hb)⟩
end
section
open Go.Conc (G)
structure dT (k n:Nat)(es:Nat->List C)(xs:List ak):Prop where
 len:xs.length=n*k
 wid:∀ i,i<n->(es i).length=k
 at':∀ i,i<n->∀ j c,(es i)[j]?=aa c->∃ x,xs[i*k+j]?=aa x/\∀ M,Rd M x c
def dT.rd{k n:Nat}{es:Nat->List C}{xs:List ak}(h:dT k n es xs):∀ i,i<n->(es i).length=k/\∀ M j c x,(es i)[j]?=aa c->xs[i*k+j]?=aa x->Rd M x c:=λi hi =>
 ⟨h.wid i hi,λM j c x hj hx=>by obtain⟨y,h1,h2⟩:=h.at' i hi j c hj;rw[hx] at h1;cases h1;exact h2 M⟩
def Pz(v:ak):A->A
 |.vec 0 _ _ _=>.v v
 |a=>a
def Kd(v:ak):E1->E1
 |.one a=>.one (Pz v a)
 |e=>e
def D5(v:ak):List E1->List E1
 |[]=>[]
 |a::r=>Kd v a::D5 v r
def PC(v:ak):D->D
 |.e x=>.e (Kd v x)
 |.eN xs=>.eN (D5 v xs)
 |.any=>.any
def oa(n:Nat):A->Bool
 |.vec 0 _ b _=>aA b n
 |a=>vt a
def r8(n:Nat):E1->Bool
 |.one a=>oa n a
 |e=>I8 e
def pe(n:Nat):List E1->Bool
 |[]=>ab
 |a::r=>match r8 n a with|true=>pe n r|false=>ae
def zZ(n:Nat):D->Bool
 |.e x=>r8 n x
 |.eN xs=>pe n xs
 |.any=>ab
section
variable {σ':List aW}{s s':St}{E:ar}{k n:Nat}{es:Nat->List C}{L:Loc}
def Ke(g:s.β[0]?=aa L){v:ak}{a:A}(h:oa n a=ab)(r:gu [aW.vec E k n es] s v a):gu σ' s' v (Pz L.v a):=by
 cases a with
 |c x=>exact rC h r
 |any=>exact r
 |vec l k' n' es' =>
  cases l with
  |zero =>
   obtain⟨i,_,b⟩:=r;have b:=b E k n es rfl;have e:=bT h;obtain⟨L',d,f⟩:=b.2 e.symm;rw[g] at d;cases d;show Rd _ _ _;rw[f];exact .val (f▸i.cell)
  |succ l=>simp[oa,vt] at h
 |ptr=>simp[oa,vt] at h
 |ref=>simp[oa,vt] at h
 |bp=>simp[oa,vt] at h
def BU(b:s.β[0]?=aa L){v:ak}{x:E1}(h:r8 n x=ab)(r:ma [aW.vec E k n es] s v x):ma σ' s' v (Kd L.v x):=by
 cases x with
 |one a=>exact Ke b h r
 |agg cs=>exact zr (x:=.agg cs) h r
def yr(b:s.β[0]?=aa L):∀ {vs:List ak}{cs:List E1},pe n cs=ab->gD [aW.vec E k n es] s vs cs->gD σ' s' vs (D5 L.v cs)
 |[],[],_,_=>trivial
 |[],_::_,_,r=>r.elim
 |_::_,[],_,r=>r.elim
 |v::vs,c::cs,h,r=>by
  simp only[pe] at h;cases a:r8 n c with
  |false=>simp[a] at h
  |true=>simp only[a] at h;exact⟨BU b a r.1,yr b h r.2⟩
def BV(a:s.β[0]?=aa L){v:ak}{d:D}(h:zZ n d=ab)(r:c8 [aW.vec E k n es] s v d):c8 σ' s' v (PC L.v d):=by
 cases d with
 |e x=>exact BU a h r
 |eN xs=>obtain⟨vs,b,c⟩:=r;exact⟨vs,b,yr a h c⟩
 |any=>trivial
end
def vd:List ResultVar->Bool
 |[]=>ab
 |.tmp _::r=>vd r
 |.cell _ _::_=>ae
def tQ{P:aq}{a:Act}:∀ {rs:List ResultVar},vd rs=ab->∃ vs,(∀ w,(rs.mapM (fU a)).run P w=Result.ok vs w)/\cK P (rs.mapM (fU a))
 |[],_=>⟨[],by simp,by rw[List.mapM_nil];exact .pure⟩
 |.tmp t::r,h=>by
  obtain⟨vs,c,b⟩:=tQ (P:=P) (a:=a) (rs:=r) h;refine⟨a.tmps.getD t aj::vs,λw=>?_,?_⟩
  .simp only[mQ,bS,fU,cW,b7,c]
  .rw[mQ];exact .bind .pure λ_=>.bind b λ_=>.pure
def uq.tmp{P:aq}{f:aV}{fn:Func}{fr:aO}{v:ak}{s s':St}(h:uq P f fr v s)(m:P.funcs[f]?=aa fn)(p:vd fn.results.toList=ab)(x:∀ b o u,s.M b o=aa u->s.w.cell? ⟨b,o,af⟩=aa u):uq P f fr v s':=by
 obtain⟨h1,h2,t,j,c,d,l⟩:=h;have e:c=fn:=by rw[h1,m] at d;cases d;rfl
 subst e
 let a:Act:={ tmps:=fr.tmps,defers:=[] }
 obtain⟨vs,k1,q⟩:=tQ (P:=P) (a:=a) p;have e1:∀ w,(c.results.mapM (fU a)).run P w=Result.ok vs.toArray w:=λw=>by
  rw[qp];simp only[Sem.run_map,k1,b7]
 have e2:∀ w,(results c fr.tmps).run P w=.ok (if h:vs.toArray.size=1 then vs.toArray[0] else .tuple vs.toArray) w:=λw=>by
  unfold results;rw[bS];refine(di (λr=>Result.andThen r _) (e1 w)).trans ?_
  simp
 have e3:cK P (results c fr.tmps):=by
  unfold results;have e:cK P (c.results.mapM (fU a)):=by
   rw[qp];exact .map q
  exact .bind e λ_=>.pure
 have g:=(l s.w x).1;rw[e2] at g;cases g;exact⟨h1,h2,t,j,c,d,λw _=>⟨e2 w,λe i=>by rw[e3 w #[]] at i;simp at i⟩⟩
def Ev.thaw{P:aq}{X:Cx P} [X.jH] {f:aV}{args:List D}{res:D}{E:ar}{k n:Nat}{es:Nat->List C}(h:Ev X f args [] res [.vec E k n es]){fn:Func}(hf:P.funcs[f]?=aa fn)(ht:vd fn.results.toList=ab)(W:zZ n res=ab)
  (Q:∀ i,i<n->(es i).length=k/\∀ c∈es i,vr c=ab) :
  cD (ι:={ q:qQ×List ak // dT k n es q.2 }) X f args [] (λq=>PC (lu q.1.1 n) res) (λq=>[.dz (ia E k q.1.1 n q.1.2)]):=by
 refine⟨h.1,λs vs hr hh S cs hS=>h.2 s vs hr hh S cs λfr v s' hl mR ld st=>?_⟩
 have T:s.β=[]:=gf hh.len;have r:s'.β.length=1:=ld.len;obtain⟨L,y⟩:∃ L,s'.β=[L]:=by
  match hq:s'.β with
  |[L]=>exact⟨L,rfl⟩
  |[]=>rw[hq] at r;cases r
  |_::_::_=>rw[hq] at r;simp at r
 have hL:s'.β[0]?=aa L:=by rw[y];rfl
 obtain⟨Z0,ZX⟩:=ld.box 0 _ L rfl hL;rcases ZX with⟨⟨Qa,V1⟩,F⟩|⟨b,cap,cells,Pm,N,Ds,ya⟩
 .subst V1;obtain⟨a,cap,vs0,hv,Dy,IF,htc,_⟩:=F.flat;have I:cap=0:=htc rfl;subst I
  let t:St:={ s' with β:=[⟨.nilFunc,[]⟩] }
  have hg:eK s' t:=⟨rfl,λ_ _ _ h=>h,λ_ _ _=>rfl,ld.mem,λb hb=>by
   grind⟩
  have A:dT k 0 es []:=⟨by simp,λi hi=>by omega,λi hi=>by omega⟩
  refine .ghost hg (hS ⟨(.nil a,[]),A⟩ fr v t (hl.tmp hf ht ld.mem) ?_ ?_ ?_)
  .have:=BV (σ':=[aW.dz (ia E k (.nil a) 0 [])]) (s':=t) hL W mR;rw[hv] at this;exact this
  .refine⟨ld.mem,rfl,λl B L' hB ga=>?_,?_,by simp[t],λb hb=>⟨(ld.own b hb).1,by simp[t]⟩⟩
   .cases l with
    |zero=>cases hB;cases ga;exact⟨λ_=>af,⟨rfl,by simp,by simp,rfl,rfl⟩,by simp,by simp,by simp⟩
    |succ l=>simp at hB
   grind
  .refine⟨st.size,st.eB,st.mem,st.jk,λL' ga b hb=>?_,λl B L' hB=>by simp at hB,st.os,st.tape,st.output,st.own⟩
   simp[t] at ga;subst ga;simp at hb
 .subst Pm;have R:b∈(⟨.slice (aa ⟨b,0,af⟩) n cap,[b]⟩:Loc).bs:=by simp
  have aai:s.w.heap.size<=b:=by
   rcases st.uo _ (by rw[y];simp) b R with h1|⟨L0,h1,_⟩
   .exact h1
   .rw[T] at h1;simp at h1
  have WX:b<s'.w.heap.size:=ld.lt _ (by rw[y];simp) b R
  obtain⟨a1,acN,m,hv1,z,U,_,hF,hm⟩:=Z0.flat;cases hv1;have J:m.length=n*k:=hF.len;have acP:∀ p u,m[p]?=aa u->cells[p]?=aa u:=λp u Z=>by
   obtain⟨b1,acQ,e,T7⟩:=hm p u Z;cases e;have:=ld.mem _ _ _ T7;simp only[aZ,N] at this;simpa using this
  have hnk:n*k<=cells.length:=by rw[Ds];exact ei _ z
  have G:cells.take (n*k)=m:=by
   apply iK
   grind
  have P6:m++cells.drop (n*k)=cells:=by rw[<-G,j0]
  have A:dT k n es m:=by
   refine⟨J,λi hi=>(Q i hi).1,λi hi j c hj=>?_⟩
   obtain⟨u,u1,u2⟩:=hF.rd i hi j c hj;exact⟨u,u1,λM=>rC ((Q i hi).2 c (bM hj)) u2⟩
  have K:∀ x∈m,cX x=ab:=λx hx=>by
   obtain⟨p,Z,rfl⟩:=dX hx;have hk:0<k:=by
    grind
   have hi:p / k<n:=pz (by rw[jD,<-J];exact Z)
   have Pa:p / k*k+p % k=p:=pA p k;have hj:p % k<(es (p / k)).length:=by rw[(Q _ hi).1];exact hJ _ hk
   obtain⟨u,u1,u2⟩:=A.at' _ hi _ _ (bl hj);rw[Pa,bl Z] at u1;cases u1;exact(u2 s.M).cell
  have O:∀ g o v',s.M g o=aa v'->g≠b:=λg o v' hm' e=>by
   have:=hh.block hm';omega
  let V:Mem:=λg o=>if g=b then af else s'.M g o
  let Y:St:={ s' with β:=[],own:=λx=>s'.own x∨x=b }
  let s2:St:={ Y with M:=V }
  let t:St:={ s' with β:=[⟨.nilFunc,[b]⟩],M:=V }
  have H:∀ g o v',V g o=aa v'->s'.M g o=aa v':=λg o v' h'=>by
   grind
  have WR:eK s' Y:=⟨rfl,λ_ _ _ h=>h,λ_ _ _=>rfl,ld.mem,λg d=>by
   rcases d with(d|d)|⟨L',ga,_⟩
   .exact .inl d
   .exact .inr ⟨_,by rw[y];simp;rfl,by rw[d];simp⟩
   .simp[Y] at ga⟩
  have ZY:mS Y s2:=⟨rfl,rfl,rfl,H,λg o v' h'=>by
   grind⟩
  have hg3:eK s2 t:=⟨rfl,λ_ _ _ h=>h,λ_ _ _=>rfl,λg o v' h'=>ld.mem _ _ _ (H _ _ _ h'),λg d=>by
   grind⟩
  refine .ghost WR (.forget Cx.jH.ok ZY (.ghost hg3 (hS ⟨(.row b cap,m),A⟩ fr v t (hl.tmp hf ht ld.mem) ?_ ?_ ?_)))
  .exact BV (L:=⟨.slice (aa ⟨b,0,af⟩) n cap,[b]⟩) hL W mR
  .refine⟨λg o v' h'=>ld.mem _ _ _ (H _ _ _ h'),rfl,λl B L' hB ga=>?_,?_,λL' ga g d=>?_,λg d=>⟨(ld.own g d).1,λL' ga=>?_⟩⟩
   .cases l with
    |zero =>
     cases hB;cases ga;refine⟨λg=>if g=b then aa (.cells (m++cells.drop (n*k)).toArray E (0,0)) else af,⟨rfl,K,J,z,U,cells.drop (n*k),?_,rfl⟩,λg o d=>?_,λg=>?_,λg d o=>?_⟩
     .grind
     .grind
     .by_cases e:g=b <;> simp[e]
     grind
    |succ l=>simp at hB
   .grind
   .grind
   .simp[t] at ga;subst ga;have:=(ld.own g d).2 _ (by rw[y];simp;rfl)
    simpa using this
  .refine⟨st.size,st.eB,λg o v' h'=>?_,λg d hn o=>?_,λL' ga g d=>?_,λl B L' hB=>by simp at hB,st.os,st.tape,st.output,st.own⟩
   .simp only[t,V,aY (O g o v' h')];exact st.mem _ _ _ h'
   .have:g≠b:=by omega
    simp only[t,V,aY this];exact st.jk g d hn o
   grind
section
variable {P:aq}{X:Cx P}{N:Nat}{Qf:Post}{K:List It}{φ:Fr}{σ:List aW}{all rest:List aw}{o:aw}
def AK.Jc{p:Prop}(h:∀ s,aJ σ s->p)(k:p->AK X N Qf (.ops all rest::K) .normal φ σ):AK X N Qf (.ops all rest::K) .normal φ σ :=
 λs a b hh=>k (h s hh) s a b hh
def ia.len{E:ar}{k n l:Nat}{bf:qQ}{xs:List ak}(hl:σ[l]?=aa (.dz (ia E k bf n xs)))(s:St)(hh:aJ σ s):xs.length=n*k/\n<=9223372036854775807/\(0<n->∃ b cap,bf=.row b cap)/\∀ a,bf=.nil a->n=0:=by
 have c:l<s.β.length:=by rw[hh.len];grind
 obtain⟨ch,e,_⟩:=hh.box l _ _ hl (bl c);cases bf with
 |nil a=>obtain⟨_,_,f,rfl,_⟩:=e;grind
 |row b cap=>obtain⟨_,_,f,g,h,_⟩:=e;grind
def rE:List A->Bool
 |[]=>ab
 |.c x::r=>match vr x with|true=>rE r|false=>ae
 |_=>ae
def mT(vs:List ak)(cs:List A):Prop:=vs.length=cs.length/\∀ (j:Nat)(c:C),cs[j]?=aa (A.c c)->∃ v,vs[j]?=aa v/\∀ M,Rd M v c
def mT.of{σ:List aW}{s:St}:∀ {vs:List ak}{cs:List A},rE cs=ab->dG σ s vs cs->mT vs cs
 |[],[],_,_=>⟨rfl,λj c h=>by simp at h⟩
 |[],_::_,_,r=>r.elim
 |_::_,[],_,r=>r.elim
 |v::vs,.c x::cs,h,r=>by
  simp only[rE] at h;cases a:vr x with
  |false=>simp[a] at h
  |true =>
   simp only[a] at h;obtain⟨h1,h2⟩:=mT.of h r.2;refine⟨by simp[h1],λj c hj=>?_⟩
   cases j with
   |zero=>simp at hj;subst hj;exact⟨v,rfl,λM=>rC a r.1⟩
   |succ j=>grind
 |_::_,.ptr _ _::_,h,_=>by simp[rE] at h
 |_::_,.vec _ _ _ _::_,h,_=>by simp[rE] at h
 |_::_,.ref _::_,h,_=>by simp[rE] at h
 |_::_,.bp _ _::_,h,_=>by simp[rE] at h
 |_::_,.any::_,h,_=>by simp[rE] at h
def dG.cX{σ:List aW}{s:St}:∀ {vs:List ak}{cs:List A},dG σ s vs cs->∀ v∈vs,AM.cX v=ab
 |[],[],_,v,h=>by simp at h
 |[],_::_,r,_,_=>r.elim
 |_::_,[],r,_,_=>r.elim
 |u::vs,c::cs,r,v,h=>by
  rcases eY.1 h with rfl|h
  .exact gu.cell r.1
  .exact dG.cX r.2 v h
def AK.DC{T:List (Nat×TI)}(hT:db P T)(l:Nat){t:ar}{x y:an}{E:ar}{k n b cap off:Nat}{xs:List ak}{new:List A}{i:TI}(h:o.op=.store t x y)(hi:bA T t=aa i)(q:bX φ x=.e (.one (.v (.pointer (aa ⟨b,off,af⟩)))))(hy:mU (bX φ y)=aa new)(I4:new.length=i.size)(hgn:rE new=ab)
  (hl:σ[l]?=aa (.dz (ia E k (.row b cap) n xs))) (TM:off+new.length<=xs.length) (hg:o.guard=af) (hN:gv N o.dst=ab)
  (kk:∀ vs,mT vs new->AK X N Qf (.ops all rest::K) .normal (lr o.dst .any φ) (σ.set l (.dz (ia E k (.row b cap) n (xs.take off++vs++xs.drop (off+vs.length)))))):AK X N Qf (.ops all (o::rest)::K) .normal φ σ:=by
 refine AK.hand (ι:={ vs:List ak // mT vs new }) (λ_=>.any) (λvs=>σ.set l (.dz (ia E k (.row b cap) n (xs.take off++vs.1++xs.drop (off+vs.1.length))))) hg hN (λs a hf hh=>?_) λvs=>kk vs.1 vs.2
 have S:=dK hf x;rw[q] at S;have S:=Rd.fX S;have z:=m7 hy (dK hf y);have W:l<σ.length:=(cg.1 hl).1;have J:l<s.β.length:=by rw[hh.len];exact W
 have Z:=bl J;generalize s.β[l]=L at Z;obtain⟨ch,hH,H,Qa,WU⟩:=hh.box l _ L hl Z;obtain⟨f,TH,D,TJ⟩:=ia.lookup hH;obtain⟨TK,Pd,ZP,O,IF,_⟩:=hH;have Y:b∈L.bs:=(Qa b).2 (by rw[D];rfl)
 have m:=H b _ D
 let vs:=(a.eval y).cells.toList
 have R:mT vs new:=mT.of hgn z;have SU:vs.length=new.length:=R.1;have B:off+0+vs.length<=(xs++f).toArray.size:=by simp;omega
 have G:=run_storeCells_at P b off E vs 0 (xs++f).toArray s.w m B z.cell;simp only[iM] at G;have F:(xs++f).take off++vs++(xs++f).drop (off+vs.length)=(xs.take off++vs++xs.drop (off+vs.length))++f:=by
  have e1:off-xs.length=0:=by omega
  have e2:off+vs.length-xs.length=0:=by omega
  simp only[List.take_append,uT,e1,e2,List.take_zero,List.drop_zero,ik,ij]
 rw[F] at G;have Q:(xs.take off++vs++xs.drop (off+vs.length)).length=xs.length:=by
  simp only[bG,List.length_take,mO];omega
 have P5:=setRow_heap s.w b (xs++f).toArray ((xs.take off++vs++xs.drop (off+vs.length))++f).toArray E (0,0) m;have U:∀ c,c≠b->(s.w.setRow b ((xs.take off++vs++xs.drop (off+vs.length))++f).toArray).heap[c]?=s.w.heap[c]?:=λc g=>setRow_other s.w b c _ g
 obtain⟨t1,t2⟩:=hh.k5 (l:=l) (H':=ia E k (.row b cap) n (xs.take off++vs++xs.drop (off+vs.length))) (L':=L) (w':=s.w.setRow b ((xs.take off++vs++xs.drop (off+vs.length))++f).toArray) hl Z rfl (by simp)
  (λc g hn=>U c (by grind)) (λc g=>.inl g)
  ⟨λc=>if c=b then aa (.cells ((xs.take off++vs++xs.drop (off+vs.length))++f).toArray E (0,0)) else af,⟨TK,λx q=>by
   rcases fR.1 q with q|q
   .rcases fR.1 q with q|q
    .grind
    .exact dG.cX z x q
   grind,by rw[Q];exact ZP,O,IF,f,by grind,rfl⟩,λc o g=>by
   simp_all,λc=>by
   simp_all⟩ rfl rfl rfl
 have I:(a.eval y).cells.size=i.size:=by grind
 refine⟨⟨vs,R⟩,.skip,_,aj,?_,.inr ⟨rfl,rfl⟩,av,t1,t2,?_⟩
 .have M:(storeCells ⟨b,off,af⟩ (a.eval y).cells.toList).run P s.w=_:=G;simp[ay,h,S,Instr.storeAt,Instr.sureAddr,storeVar,(hT t i hi).run_sizeOf,I,M]
 .intro ev p;have e:ay a.eval o=(do storeVar t ⟨b,off,af⟩ (a.eval y);pure .skip):=by simp[ay,h,S,Instr.storeAt,Instr.sureAddr]
  rw[e] at p;have V:ev∈(storeCells ⟨b,off,af⟩ (a.eval y).cells.toList).events P s.w #[]:=by
   simp only[storeVar,aP,(hT t i hi).run_sizeOf,I,aU,events_sizeOf,cT,fi,b5,bS,b7,Sem.events_pure] at p;generalize (storeCells ⟨b,off,af⟩ (a.eval y).cells.toList).run P s.w=r at p;cases r with
   |ok v w'=>simpa using p
   |halt x w'=>simpa using p
  rcases eD (a.eval y).cells.toList 0 (xs++f).toArray s.w #[] m B z.cell ev V with MJ|⟨j,_,_,rfl⟩
  .simp at MJ
  .exact mn (bM Z) Y (WU b Y _)
def AK.swap(i j:Nat){H1 H2:ak->(Nat->Option Obj)->Prop}{c:Code}(Q:i≠j)(hi:σ[i]?=aa (.dz H1))(hj:σ[j]?=aa (.dz H2))(h1:∀ v ch,H1 v ch->v=.nilFunc)(h2:∀ v ch,H2 v ch->v=.nilFunc)
  (kk:AK X N Qf (.code c::K) .normal φ ((σ.set i (.dz H2)).set j (.dz H1))):AK X N Qf (.code c::K) .normal φ σ:=by
 refine AK.ghost (λs a F hh=>?_) kk
 have A:i<σ.length:=(cg.1 hi).1;have y:j<σ.length:=(cg.1 hj).1;have D:i<s.β.length:=by rw[hh.len];exact A
 have x:j<s.β.length:=by rw[hh.len];exact y
 obtain⟨p,z⟩:∃ L,s.β[i]?=aa L:=⟨_,bl D⟩;obtain⟨m,w⟩:∃ L,s.β[j]?=aa L:=⟨_,bl x⟩;have I:=hh.box i _ p hi z;have J:=hh.box j _ m hj w;have M:p.v=.nilFunc:=by obtain⟨ch,H,_⟩:=I;exact h1 _ _ H
 have O:m.v=.nilFunc:=by obtain⟨ch,H,_⟩:=J;exact h2 _ _ H
 let s':St:={ s with β:=(s.β.set i m).set j p }
 have E:∀ l,((σ.set i (.dz H2)).set j (.dz H1))[l]?=if l=j then aa (.dz H1) else if l=i then aa (.dz H2) else σ[l]?:=λl=>by
  grind
 have r:∀ l,s'.β[l]?=if l=j then aa p else if l=i then aa m else s.β[l]?:=λl=>by
  grind
 have G:∀ L∈s'.β,L∈s.β:=λL f=>by
  grind
 have ex:Ext σ s ((σ.set i (.dz H2)).set j (.dz H1)) s':=by
  refine⟨λ_ _ _ h=>h,λl B L g f=>?_⟩
  rw[E,r]
  by_cases e:l=j
  .subst e;rw[hj] at g;cases g;rw[w] at f;cases f;exact⟨.dz H1,p,by simp,by simp,by show p.v=_;rw[M,O]⟩
  .by_cases t:l=i
   .subst t;rw[hi] at g;cases g;rw[z] at f;cases f;exact⟨.dz H2,m,by simp[e],by simp[e],by show m.v=_;rw[M,O]⟩
   .exact⟨B,L,by simp[e,t,g],by simp[e,t,f],.refl _ _⟩
 have st:Step σ s ((σ.set i (.dz H2)).set j (.dz H1)) s':=by
  exact⟨bc _,λ_ _ _=>rfl,λ_ _ _ h=>h,λ_ _ _ _=>rfl,λL h b hb=>.inr ⟨L,G L h,hb⟩,ex.box,rfl,rfl,rfl,rfl⟩
 refine⟨s',rfl,⟨F.size,F.defers.imp λ_ h1=>h1.mono ex,λu=>(F.slot u).mono ex hh.len⟩,⟨hh.mem,by simp[s',hh.len],?_,?_,λL f b hb=>hh.lt L (G L f) b hb,λb hb=>⟨(hh.own b hb).1,λL f=>(hh.own b hb).2 L (G L f)⟩⟩,st⟩
 .intro l B L g f;rw[E] at g;rw[r] at f;split at g
  .rename_i e
   rw[bg e] at f;cases g;cases f;exact I
  .rename_i e
   rw[aY e] at f;split at g
   .rename_i t
    rw[bg t] at f;cases g;cases f;exact J
   .rename_i t
    rw[aY t] at f;exact(hh.box l B L g f).carry ex hh.len λb hb=>⟨rfl,λ_=>rfl⟩
 .intro l l' L1 L2 q1 q2 b hb rl;rw[r] at q1 q2;have key:∀ l L,(if l=j then aa p else if l=i then aa m else s.β[l]?)=aa L->s.β[if l=j then i else if l=i then j else l]?=aa L:=λl L q=>by
   grind
  have:=hh.fT _ _ L1 L2 (key l L1 q1) (key l' L2 q2) b hb rl
  by_cases e1:l=j <;> by_cases e2:l'=j <;> by_cases e3:l=i <;> by_cases R:l'=i <;> simp_all
def AK.Jd{T:List (Nat×TI)}(hT:db P T){t:ar}{x y:an}{i p:TI}{E:ar}{n:Nat}{L O:IntKind}(h:o.op=.makeSlice t x y)(hi:bA T t=aa i)(hd:i.desc=.slice E)(hE:bA T E=aa p)
  (hx:bX φ x=.e (.one (.c (.int L n)))) (hy:bX φ y=.e (.one (.c (.int O n)))) (hb:n*p.bytes<=140737488355328) (Y:n<=140737488355328) (hg:o.guard=af) (hN:gv N o.dst=ab)
  (kk:∀ b xs,AK X N Qf (.ops all rest::K) .normal (lr o.dst (.e (.one (.v (lu (.row b n) n)))) φ) (σ++[.dz (ia E p.size (.row b n) n xs)])):AK X N Qf (.ops all (o::rest)::K) .normal φ σ:=by
 refine AK.hand (ι:=Nat×List ak) (λq=>.e (.one (.v (lu (.row q.1 n) n)))) (λq=>σ++[.dz (ia E p.size (.row q.1 n) n q.2)]) hg hN (λs a Z hh=>?_) λq=>kk q.1 q.2
 have m:=dK Z x;rw[hx] at m;have m:=fC m;generalize I:a.eval x=vx at m;cases m;have j:=dK Z y;rw[hy] at j;have j:=fC j;generalize F:a.eval y=vy at j;cases j;have l:=(hT t i hi).SY;rw[hd] at l;obtain⟨g,z,J,z2,z3,z4,z5,z6,z7⟩:=(hT E p hE).info;have f:(g.bytes:Int)*(n:Int)<=281474976710656:=by
  grind
 have r:=run_make (P:=P) (w:=s.w) t E g z l J z4 L O n n (by omega) (Int.le_refl _) f (by omega)
 simp only[bt] at r
 let xs:=(madeCells z.cells (n*g.size)).toList
 have G:xs.length=n*p.size:=by
  simp only[xs,iJ,size_madeCells,z2]
 have U:∀ v∈z.cells.toList,cX v=ab:=dG.cX (kI (σ:=σ) (s:=s) z5);have TH:z.cells.toList.length=p.size:=by
  have:=di List.length z5
  grind
 have R:∀ v∈xs,cX v=ab:=by
  intro v hv;simp only[xs,madeCells,Array.toList_map,mh] at hv;obtain⟨q,hq,rfl⟩:=hv;have D:0<z.cells.size:=by
   grind
  rw[getElem!_pos z.cells _ (hJ _ D)];exact U _ (by simp)
 have hB:eJ (σ++[.dz (ia E p.size (.row s.w.heap.size n) n xs)]) { s with w:=s.w.alloc (.cells xs.toArray E),β:=s.β++[⟨.nilFunc,[s.w.heap.size]⟩] } (.dz (ia E p.size (.row s.w.heap.size n) n xs)) ⟨.nilFunc,[s.w.heap.size]⟩:=by
  refine⟨λB=>if B=s.w.heap.size then aa (.cells (xs++[]).toArray E (0,0)) else af,⟨rfl,R,G,bc _,by omega,[],by simp[G],rfl⟩,λB o f=>?_,λB=>?_,λB f o=>?_⟩
  .by_cases e:B=s.w.heap.size
   .subst e;simp only[cj] at f;cases f;rw[ik];exact dt s.w _
   .simp[e] at f
  .by_cases e:B=s.w.heap.size <;> simp[e]
  .simp at f;subst f;cases Q:s.M s.w.heap.size o with
   |none=>rfl
   |some v=>have:=hh.block Q;omega
 have H:aJ σ { s with w:=s.w.alloc (.cells xs.toArray E) }/\Step σ s σ { s with w:=s.w.alloc (.cells xs.toArray E) } :=
  hh.grow (by simp) (λb hb=>cE s.w _ hb) (λb hb o=>rfl) (λb hb o v Q=>by
   have:=hh.block Q;omega) rfl rfl rfl
 obtain⟨g1,g2⟩:=H.1.gT H.2 rfl hh hB (λb hb=>by
   simp_all)
 refine⟨(s.w.heap.size,xs),.value (.slice (aa ⟨s.w.heap.size,0,af⟩) n n),_,_,?_,.inl rfl,Rd.val rfl,g1,g2,?_⟩
 .simp[ay,h,I,F,r,xs]
 .have e:ay a.eval o=(do pure (.value (<-Instr.makeSlice t (.int L n) (.int O n)))):=by simp[ay,h,I,F]
  rw[e];refine eu ?_;intro e A;have hu:∀ u,(underlying t).run P u=.ok (.slice E) u:=λu=>by simp[underlying,l]
  have V:∀ u,(typeInfo E).run P u=.ok g u:=λu=>by simp[typeInfo,J]
  have S:∀ u,(zeroValue E).run P u=.ok z u:=λu=>by simp[zeroValue,typeInfo,J,z4]
  have W:∀ u,(sizeOf E).run P u=.ok g.size u:=λu=>by simp[sizeOf,typeInfo,J]
  have wl:IntKind.i64.wrap (n:Int)=n:=by rw[IntKind.wrap_i64];omega
  have n1:¬(n:Int)<0:=by omega
  have n2:¬(281474976710656<(g.bytes:Int)*n):=by omega
  simp[Instr.makeSlice,hu,V,W,asInt,asIntOf,wl,n1,n2] at A;rw[S] at A;simp only[aU,(cK.newRow (P:=P)) _ _,ite_self] at A;unfold askRoom at A;split at A
  .have:e=⟨.mark .noRoom,ae,ab⟩:=by simpa using A
   rw[this];exact .inl rfl
  .simp at A
end
section
variable {σ σ':List aW}{s s':St}{k n d:Nat}{es:Nat->List C}{u:ak}
end
def uv{α:Type}{xs vs:List α}{a:Nat}(h:a+vs.length<=xs.length)(p:Nat):(xs.take a++vs++xs.drop (a+vs.length))[p]?=if a<=p/\p<a+vs.length then vs[p-a]? else xs[p]?:=by
 have b:(xs.take a).length=a:=by simp;omega
 grind
def dT.eR{k n:Nat}{es es':Nat->List C}{xs vs:List ak}{new:List A}(h:dT k n es xs)(i j:Nat)(hi:i<n)(r:mT vs new)(p:j+new.length<=k)(v:∀ a,a<n->a≠i->es' a=es a)(hl:(es' i).length=k)
  (hn:∀ (q:Nat) (c:C),(es' i)[q]?=aa c->(j<=q/\q<j+new.length/\new[q-j]?=aa (A.c c))∨(¬(j<=q/\q<j+new.length)/\(es i)[q]?=aa c)):dT k n es' (xs.take (i*k+j)++vs++xs.drop (i*k+j+vs.length)):=by
 have x:i*k+k<=n*k:=by rw[<-j6];exact ei _ hi
 have y:=r.1;have z:=h.len;have f:i*k+j+vs.length<=xs.length:=by omega
 refine⟨by grind,λa b=>?_,λa b q c t=>?_⟩
 .by_cases e:a=i
  .subst e;exact hl
  .rw[v a b e];exact h.wid a b
 .rw[uv f]
  by_cases e:a=i
  .subst e;rcases hn q c t with⟨h1,h2,B⟩|⟨h1,h2⟩
   .rw[bg (by omega),show a*k+q-(a*k+j)=q-j by omega]
    exact r.2 _ c B
   .rw[aY (by omega)];exact h.at' a b q c h2
  .have m:(es a)[q]?=aa c:=by grind
   have w:q<k:=by rw[<-h.wid a b];grind
   rw[aY ?_]
   .exact h.at' a b q c m
   .rcases Nat.lt_or_gt_of_ne e with g|l
    .have:a*k+k<=i*k:=by rw[<-j6];exact ei _ g
     omega
    .have:i*k+k<=a*k:=by rw[<-j6];exact ei _ l
     omega
def dT.snoc{k n:Nat}{es es':Nat->List C}{xs vs:List ak}(h:dT k n es xs)(f:∀ i,i<n->es' i=es i)(hl:(es' n).length=k)(j:vs.length=k)(m:∀ (q:Nat)(c:C),(es' n)[q]?=aa c->∃ v,vs[q]?=aa v/\∀ M,Rd M v c):dT k (n+1) es' (xs++vs):=by
 have l:=h.len;refine⟨by grind,λi hi=>?_,λi hi q c p=>?_⟩
 .by_cases e:i=n
  .subst e;exact hl
  .rw[f i (by omega)];exact h.wid i (by omega)
 .by_cases e:i=n
  .grind
  .have a:i<n:=by omega
   have b:(es i)[q]?=aa c:=by grind
   have g:q<k:=by rw[<-h.wid i a];grind
   have:i*k+k<=n*k:=by rw[<-j6];exact ei _ a
   rw[jf (by omega)]
   exact h.at' i a q c b
def zw(T:List (Nat×TI))(φ:Fr):List ResultVar->Option (List D)
 |[]=>aa []
 |.tmp t::r=>match zw T φ r with
  |some q=>aa (look φ t::q)
  |none=>af
 |.cell ad t::r=>match zw T φ r with
  |some q=>match look φ ad with
   |.e (.one (.c (.rp cs)))=>match bA T t with
    |some i=>match m9 i (cs.map A.c) with
     |some e=>aa (.e e::q)
     |none=>af
    |none=>af
   |_=>af
  |none=>af
def zx{P:aq}{T:List (Nat×TI)}(R:db P T){N:Nat}{σ:List aW}{s:St}{φ:Fr}{a:Act}(f:cp N σ s φ a):∀ {rs:List ResultVar}{ds:List D},zw T φ rs=aa ds ->
  ∃ vs,cv σ s vs ds/\∀ w,(∀ b o u,s.M b o=aa u->w.cell? ⟨b,o,af⟩=aa u)->(rs.mapM (fU a)).run P w=Result.ok vs w/\∀ es,∀ e∈(rs.mapM (fU a)).events P w es,e∈es∨∃ b o u,e=⟨.cell ⟨b,o,af⟩,ae,ae⟩/\s.M b o=aa u
 |[],ds,h=>by cases h;exact⟨[],av,λw _=>⟨by simp,λes e l=>.inl (by simpa using l)⟩⟩
 |.tmp t::r,ds,h=>by
  simp only[zw] at h;cases G:zw T φ r with
  |none=>simp[G] at h
  |some q =>
   simp[G] at h;subst h;obtain⟨vs,h1,h2⟩:=zx R f G;refine⟨a.tmps.getD t aj::vs,⟨f.slot t,h1⟩,λw p=>?_⟩
   obtain⟨k1,Y⟩:=h2 w p;refine⟨by simp only[mQ,bS,fU,cW,b7,k1],λes e l=>Y es e ?_⟩
   simpa[mQ,fU,k1] using l
 |.cell ad t::r,ds,h=>by
  simp only[zw] at h;cases G:zw T φ r with
  |none=>simp[G] at h
  |some q =>
   simp only[G] at h;have hs:=f.slot ad;generalize look φ ad=x at h hs;split at h
   case h_2=>cases h
   rename_i cs
   cases hi:bA T t with
   |none=>simp[hi] at h
   |some i =>
    simp only[hi] at h;cases k:m9 i (cs.map A.c) with
    |none=>simp[k] at h
    |some e0 =>
     simp[k] at h;subst h;obtain⟨vs,h1,h2⟩:=zx R f G;have L:=fC hs;generalize hvx:a.tmps.getD ad aj=vx at L;cases L
     rename_i b off g W V
     let F:=(bh cs.length).map g
     have O:dG σ s F (cs.map A.c):=by
      have key:∀ (n:Nat) (ds:List C),(∀ j c,ds[j]?=aa c->Rd s.M (g (n+j)) c)->dG σ s ((bh ds.length).map λj=>g (n+j)) (ds.map A.c):=by
       intro n ds
       induction ds generalizing n with
       |nil=>intro _;trivial
       |cons d ds ih =>
        intro hd;rw[eQ,zb];refine⟨hd 0 d rfl,?_⟩;have:=ih (n+1) (λj c m=>by have:=hd (j+1) c (by simpa using m);grind)
        simpa[Function.comp_def,mf,ln 1] using this
      have:=key 0 cs (by simpa using V)
      simpa using this
     have J:∀ (j:Nat) (v:ak),F[j]?=aa v->s.M b (off+j)=aa v:=λj v m=>by
      simp only[F,nF] at m
      by_cases z:j<cs.length
      .simp[z] at m;subst m;exact W j cs[j] (bl z)
      .simp[z] at m
     let w0:az:={ s.w with heap:=s.w.heap }
     have Q:∃ v,ma σ s v e0/\∀ w,(∀ b o u,s.M b o=aa u->w.cell? ⟨b,o,af⟩=aa u)->(loadVar t ⟨b,off,af⟩).run P w=.ok v w:=by
      have hg:=R t i hi;cases Z:i.agg <;> simp only[m9,Z] at k
      .cases B:fA 0 (cs.map A.c) with
       |none=>simp[B] at k
       |some a0 =>
        simp[B] at k;subst k;obtain⟨v,hv,U⟩:=O.get (dw B);refine⟨v,U,λw p=>?_⟩
        have:=p _ _ _ (J 0 v hv);simp only[loadVar,bS,hg.ju,b7,Z];simp at this;simp[run_load,this]
      .cases B:ot i.size (cs.map A.c) with
       |none=>simp[B] at k
       |some r0 =>
        simp[B] at k;subst k;obtain⟨q1,q2⟩:=na B;have E:=O.take i.size;rw[<-q1] at E;have hl:(F.take i.size).length=i.size:=by rw[E.length,q2]
        refine⟨.agg (F.take i.size).toArray,⟨F.take i.size,rfl,E⟩,λw p=>?_⟩
        have I:=run_loadCells_list (P:=P) w ⟨b,off,af⟩ (F.take i.size) (λj v m=>by
         rw[c9]
         grind)
        rw[hl] at I;simp only[loadVar,bS,hg.ju,b7,Z];simp[hg.run_sizeOf,I]
     obtain⟨v,S,H⟩:=Q;refine⟨v::vs,⟨S,h1⟩,λw p=>?_⟩
     obtain⟨k1,Y⟩:=h2 w p;have y:(fU a (.cell ad t))=loadVar t ⟨b,off,af⟩:=by
      simp[fU,hvx,asAddr]
     refine⟨by simp only[mQ,bS,y,H w p,cW,b7,k1],λes e l=>?_⟩
     rw[mQ,y] at l;simp only[aP,H w p,aU,k1,Sem.events_pure] at l;rcases Y _ e l with l|l
     .rcases Dr l with l|l
      .exact .inl l
      .obtain⟨j,m,rfl⟩:=jl (R t i hi) (w:=w) (n:=cs.length) (λj m=>⟨g j,p _ _ _ (W j cs[j] (bl m))⟩) (by have:=rI k;simpa using this) e l
       exact .inr ⟨b,off+j,g j,rfl,W j cs[j] (bl m)⟩
     .exact .inr l
def Bn.V5{P:aq}{T:List (Nat×TI)}(g:db P T){fn:Func}{φ:Fr}{ds:List D}{d:D}(h:zw T φ fn.results.toList=aa ds)(hj:rH ds=aa d):Bn P fn φ d:=by
 intro N σ s a f;obtain⟨vs,h1,h2⟩:=zx g f h;refine⟨_,Bm hj h1,λw i=>?_⟩
 obtain⟨k1,j⟩:=h2 w i;have e1:(fn.results.mapM (fU a)).run P w=Result.ok vs.toArray w:=by
  rw[qp];simp only[Sem.run_map,k1,b7]
 have e2:∀ es,∀ e∈(fn.results.mapM (fU a)).events P w es,e∈es∨∃ b o u,e=⟨.cell ⟨b,o,af⟩,ae,ae⟩/\s.M b o=aa u:=by
  rw[qp];intro es e c;exact j es e (by simpa using c)
 constructor
 .unfold results;rw[bS];refine(di (λr=>Result.andThen r _) (Eq.trans ?_ e1)).trans ?_
  .congr 2
  .simp
 .intro e c;have k:e∈(fn.results.mapM (fU a)).events P w #[]:=by
   unfold results at c;rw[aP] at c
   change e∈((fn.results.mapM (fU a)).run P w).evThen ((fn.results.mapM (fU a)).events P w #[]) _ at c
   rw[e1] at c;simpa using c
  grind
section
variable {P:aq}{X:Cx P}{N:Nat}{K:List It}{φ:Fr}{σ:List aW}
def M8(T:List (Nat×TI))(rs:List ResultVar)(ks:List Nat)(φ:Fr)(res:D):Option (List Prop) :=
 match zw T φ rs with
 |some ds=>match rH ds with
  |some d=>match uw ks.length res with
   |true=>Bo d (jm ks res)
   |false=>af
  |none=>af
 |none=>af
def AK.mW{T:List (Nat×TI)}(i:db P T){fn:Func}{c:Nat}{res:D}{σ':List aW}(ks:List Nat){ps:List Prop}(h:M8 T fn.results.toList ks φ res=aa ps)(g:ag ps)(f:kA ks σ=aa σ')(a:ki σ'=ab)(hn:dM ks=ab)(e:∀ j,j<c->ks[j]?=aa j) :
  AK X N (Bp P fn c res σ') (.code .ret::K) .normal φ σ:=by
 refine AK.ret ⟨.inl rfl,ks,?_⟩;unfold M8 at h;split at h
 .rename_i ds TO
  split at h
  .rename_i d k
   split at h
   .rename_i b
    exact⟨d,ps,Bn.V5 i TO k,h,g,b,f,a,hn,e⟩
   .cases h
  .cases h
 .cases h
def Ev.gy{f:aV}{fn:Func}{c:Code}{args:List D}{σ σ':List aW}{res:D}(d:P.funcs[f]?=aa fn)(a:(fn.name== "runtime.NumGoroutine")=ae)(hb:fn.body=aa c)(b:bq args.length fn.ntmps=ab)
  (h:Fits args σ->AK X fn.ntmps (Bp P fn σ.length res σ') [.code c] .normal (hU 0 args) σ):Ev X f args σ res σ':=by
 refine⟨⟨fn,d,a,by rw[hb];rfl⟩,λs vs hr hh=>?_⟩
 have:=cD.Ql (X:=X) (ι:=Unit) (σ':=λ_=>σ') (res:=λ_=>res) d a hb (c7 b) (AW.mono (AK.of_code (h ⟨s,vs,hr,hh⟩)) λ_ _ _ q=>⟨(),q⟩)
 exact this.ux.2 s vs hr hh
def bZ.mk{fn:Func}{a:Nat}{res:D}{σ':List aW}(ks:List Nat){ps:List Prop}(h:zy fn.results.toList ks φ res=aa ps)(e:ag ps)(d:kA ks σ=aa σ')(b:ki σ'=ab)(hn:dM ks=ab)(c:∀ j,j<a->ks[j]?=aa j):bZ fn a res σ' .ret φ σ:=by
 refine⟨.inl rfl,ks,?_⟩;unfold zy at h
 grind
end
def Gx{P:aq}{ι:Type}{X:Cx P}{S:au->St->Prop}{b:aO}{k:List Item}{cs:List aO}{a:Act}{s:St}{ops:Array aw}{i:Nat}{rest:List Nat}{o:aw}{σ:List aW}{σ1:ι->List aW}{f:aV}{d:List D}{res:ι->D}{vs:List ak}
  (B:b.kind≠.early) (z:ops[i]?=aa o) (E:bj o (yielded ops a.tmps)=ab) (A:aJ σ s) (q:∀ w,(ay a.eval o).run P w=.ok (.enter f vs.toArray) w) (p:∀ w,(ay a.eval o).events P w #[]=#[])
  (y:cD X f d σ res σ1) (m:cv σ s vs d)
  (h:∀ j v s',c8 (σ1 j) s' v (res j)->aJ (σ1 j) s'->cw σ s (σ1 j) s'->eZ X S (G (b.aT (a.put o.dst v) (.inRegion ops rest::k)) cs) s') :
  eZ X S (G (b.aT a (.inRegion ops (i::rest)::k)) cs) s:=by
 obtain⟨_,n⟩:=y;refine .next rfl λr x=>?_
 have u:=X.iq x;have g:=A.rely u;have e:cv σ r vs d:=m.mono u.stepW.ext A.len;refine⟨_,r,_,oQ z E B (q r.w),?_,n _ vs e g S _ λj F v s2 hl mR Ba oz=>?_⟩
 .refine⟨⟨σ,σ,g,g,.refl _ _⟩,eU.seen ?_⟩;rw[p];exact .nil
 refine pI (cs:=cs) (c:=b.aT a (.inRegion ops (i::rest)::k)) Ba hl λC l=>?_
 have t:=j8 (b:=b) (a:=a) (k:=k) ops i rest v;rw[z] at t;simp only[nG] at t;rw[t];exact h j v C (mR.mono l.stepW.ext Ba.len) (Ba.rely l) (u.stepW.trans (oz.trans l.stepW))
def AK.nO{P:aq}{ι:Type}{X:Cx P}{N:Nat}{Qf:Post}{K:List It}{φ:Fr}{σ:List aW}{all rest:List aw}{o:aw}{z:an}{xs:Array an}{I:Array ar}{f:aV}{cap:List C}{d:List D}{σ1:ι->List aW}{res:ι->D}(x:cD X f d σ res σ1)
  (J:o.guard=af) (M:o.op=.call { callee:=.value z,args:=xs,argTypes:=I }) (y:eO (bX φ z)=aa (f,cap)) {ps:List Prop} (n:xu (xs.toList.map (bX φ)++gj cap) d=aa ps) (F:ag ps) (T:gv N o.dst=ab)
  (k:∀ j,AK X N Qf (.ops all rest::K) .normal (lr o.dst (res j) φ) (σ1 j)):AK X N Qf (.ops all (o::rest)::K) .normal φ σ:=by
 intro s a g hh b kk cs S idx hb jE hQ;cases idx with
 |nil=>exact jE.elim
 |cons i idx =>
 obtain⟨hi,jE⟩:=jE;have r:=dK g z;unfold eO at y;split at y
 case h_2=>cases y
 case h_1 f' IV he =>
  cases y;rw[he] at r;have h:=fC r;generalize O:a.eval z=fv at h;cases h with
  |fn fs l8 hl A8 f1 f2 h1 h2 r1 r2 =>
   have L:fs=[]:=gf hl;subst L;have m:cv σ s l8 (gj cap):=lI (λj c hj=>⟨f2 j,h2 j (by rw[A8];exact(cg.1 hj).1),r2 j c hj⟩) A8
   have p:cv σ s (xs.toList.map a.eval++l8) d:=uW n F ((nP (dK g) xs.toList).append m);obtain⟨fn,u,l,e⟩:=x.1;refine Gx hb hi (dq J) hh (λw=>(gM M u l e O w).1) (λw=>(gM M u l e O w).2) x p λj v s' hr ld st=>?_
   refine k j s' _ ?_ ld b kk cs S idx hb jE λA E R a3 q Q U G=>hQ A E R a3 q Q U (st.trans G)
   have H:=ir T;cases B:o.dst with
   |none=>exact g.mono st hh.len
   |some t=>exact(g.mono st hh.len).put (H t B) hr
def zY{α:Type}{l:Nat}{x:α}:∀ {ks:List Nat}{a r:List α},kA ks a=aa r->l∉ks->kA ks (a.set l x)=aa r
 |[],a,r,h,_=>h
 |k::ks,a,r,h,b=>by
  simp only[eY,not_or] at b;simp only[kA,eW] at h ⊢;rw[fE b.1];cases d:a[k]? with
  |none=>simp[d] at h
  |some y =>
   simp only[d] at h ⊢;cases c:kA ks a with
   |none=>simp[c] at h
   |some q=>rw[zY c b.2];simp only[c] at h;exact h
def BS{k:Nat}{l:List Nat}(h:fI k l=ae):k∉l:=λa=>by rw[rF a] at h;cases h
def NH(T:List (Nat×TI))(fn:Func)(a:Nat)(res:D)(σ':List aW):Post:=λe φ σ1 =>
 (e=.ret∨e=.normal)/\∃ ks l E cs t ty it ps,fn.results.toList=[.cell t ty]/\bA T ty=aa it/\it.agg=ab/\cs.length=it.size/\look φ t=.e (.one (.ptr l 0))/\σ1[l]?=aa (.cells E cs)/\l∉ks /\
  Bo (.e (.agg cs)) (jm ks res)=aa ps/\ag ps/\uw ks.length res=ab/\kA ks σ1=aa σ'/\ki σ'=ab/\dM ks=ab/\(∀ j,j<a->ks[j]?=aa j)
def cD.Q2{P:aq}{ι:Type}{X:Cx P}{T:List (Nat×TI)}(hT:db P T){f:aV}{fn:Func}{c:Code}{args:List D}{σ:List aW}{σ':ι->List aW}{res:ι->D}(hf:P.funcs[f]?=aa fn)(Q3:(fn.name== "runtime.NumGoroutine")=ae)(hb:fn.body=aa c)(hlen:args.length<=fn.ntmps)
  (h:∀ s a,cp fn.ntmps σ s (hU 0 args) a->aJ σ s->∀ (b:aO) (k:List Item) (cs:List aO) (S:au->St->Prop),b.kind≠.early->b.roundOf=af ->
  (∀ e H σ1 s' a',(∃ j,NH T fn σ.length (res j) (σ' j) e H σ1)->cp fn.ntmps σ1 s' H a'->aJ σ1 s'->cw σ s σ1 s'->ends X S b k cs e a' s')->eZ X S (G (b.aT a (.code c::k)) cs) s):cD X f args σ res σ':=by
 refine⟨⟨fn,hf,Q3,by rw[hb];rfl⟩,λs vs hr hh S cs hS=>?_⟩
 obtain⟨hl,hg⟩:=cv.get hr
 let b:aO:={ fn:=f,tmps:=#[],todo:=[],defers:=[],mode:=.run,kind:=.normal,roundOf:=af }
 have C:Frame.enter P f vs.toArray .normal=b.aT { tmps:=vs.toArray++Array.replicate (fn.ntmps-vs.toArray.size) aj,defers:=[] } [.code c]:=by
  simp[Frame.enter,Frame.aT,hf,hb,b]
 rw[C];refine h s { tmps:=vs.toArray++Array.replicate (fn.ntmps-vs.toArray.size) aj,defers:=[] } ⟨by simp;omega,⟨[],av⟩,λt=>?_⟩ hh b [] cs S (by simp[b]) rfl ?_
 .rw[lN];simp only[gh,cj,ll];have:=hg t;rcases cx t vs.length with ur|Pb
  .have e:(vs.toArray++Array.replicate (fn.ntmps-vs.toArray.size) aj).getD t aj=(vs[t]?).getD aj:=by
    simp only[dn]
    grind
   rw[e];exact this
  .rw[qq (by omega)]
   trivial
 .rintro e H σ0 s0 a1 ⟨jj,he,ks,l,E,Ut,t,ty,it,ps,q1,q2,q3,q4,q5,q6,q7,h3,h4,h5,X1,X2,h8,h9⟩ f0 U Ub;obtain⟨h7,X3⟩:=sZ X2;have z:=f0.slot t;rw[q5] at z;obtain⟨_,L,bb,p,X4,Q4⟩:=z;obtain⟨b2,d,Pm,R,Uu,hM⟩:=U.box l _ L q6 p;subst Pm;cases X4
  let M':Mem:=λm o=>if m=bb then d[o]? else s0.M m o
  have Pd:∀ o v,d[o]?=aa v->s0.w.cell? ⟨bb,o,af⟩=aa v:=λo v ho=>by simpa[aZ,R] using ho
  have Pc:∀ m o v,s0.M m o=aa v->M' m o=aa v:=λm o v hv=>by
   grind
  have Uv:∀ m o v,M' m o=aa v->s0.w.cell? ⟨m,o,af⟩=aa v:=λm o v hv=>by
   by_cases e:m=bb
   .grind
   .simp only[M',e,b5] at hv;exact U.mem m o v hv
  obtain⟨h',F⟩:=U.im (M':=M') (w':=s0.w) (B':=.dead) (L':=⟨.pointer (aa ⟨bb,0,af⟩),[]⟩) q6 p rfl (bc _) (λ_ _ _=>rfl) (λm _ Q o=>by
   grind) Pc Uv (by simp) rfl rfl rfl av
  have QO:eK s0 ⟨s0.β.set l ⟨.pointer (aa ⟨bb,0,af⟩),[]⟩,M',s0.w,s0.own⟩:=⟨rfl,Pc,λm Q o=>by
   have:m≠bb:=by rintro rfl;exact Q _ (bM p) (by simp)
   simp only[M',this,b5],Uv,λm Q=>by
   grind⟩
  have f':cp fn.ntmps (σ0.set l .dead) ⟨s0.β.set l ⟨.pointer (aa ⟨bb,0,af⟩),[]⟩,M',s0.w,s0.own⟩ H a1:=⟨f0.size,f0.defers.imp λ_ h1=>h1.mono F.ext,λu=>(f0.slot u).mono F.ext U.len⟩
  have h6:=zY (x:=aW.dead) X1 q7;have Q5:dG (σ0.set l .dead) ⟨s0.β.set l ⟨.pointer (aa ⟨bb,0,af⟩),[]⟩,M',s0.w,s0.own⟩ d Ut:=Uu.mono F.ext U.len;have st:=Ub.trans (F.oo U);have J:∀ w,(∀ b o u,M' b o=aa u->w.cell? ⟨b,o,af⟩=aa u)->(results fn a1.tmps).run P w=.ok (.agg d.toArray) w/\∀ e∈(results fn a1.tmps).events P w #[],∃ b o u,e=⟨.cell ⟨b,o,af⟩,ae,ae⟩/\M' b o=aa u:=by
   intro w hw;have O:=hT ty it q2;have Uw:d.length=it.size:=by rw[Uu.length,q4]
   have Z:∀ j v,d[j]?=aa v->w.cell? ⟨bb,0+j,af⟩=aa v:=λj v hj=>hw _ _ _ (by grind)
   have Qn:=run_loadCells_list (P:=P) w ⟨bb,0,af⟩ d (λj v hj=>by rw[c9];exact Z j v hj)
   rw[Uw] at Qn;have W:(loadVar ty ⟨bb,0,af⟩).run P w=.ok (.agg d.toArray) w:=by
    simp only[loadVar,bS,O.ju,b7,q3];simp[O.run_sizeOf,Qn]
   have V:fn.results=#[.cell t ty]:=by apply hO;simpa using q1
   have K:asAddr (a1.tmps[t]?.getD aj)=(pure ⟨bb,0,af⟩:Sem Addr):=by rw[<-dn,Q4];rfl
   refine⟨by simp[results,V,K,W],λe he=>?_⟩
   have Tr:e∈(loadVar ty ⟨bb,0,af⟩).events P w #[]:=by
    simpa[results,V,K,W] using he
   obtain⟨j,hj,rfl⟩:=jl O (w:=w) (n:=d.length) (λj hj=>⟨_,Z j d[j] (bl hj)⟩) (by rw[q3,Uw];simp) e Tr
   exact⟨bb,0+j,d[j],rfl,by grind⟩
  have fin:∀ (fr:aO) s2,b9 (⟨s0.β.set l ⟨.pointer (aa ⟨bb,0,af⟩),[]⟩,M',s0.w,s0.own⟩:St) s2->fr.fn=f->fr.tmps=a1.tmps->fr.defers=a1.defers->fr.mode=.returning->fr.kind=.normal->eZ X S (G fr cs) s2:=by
   intro fr s2 n6 e1 e2 e3 e4 e5;have f2:=f'.rely n6 h';have r:=h'.rely n6;have g:=st.trans n6.stepW;have r2:c8 (σ0.set l .dead) s2 (.agg d.toArray) (.e (.agg Ut)):=⟨d,rfl,Q5.mono n6.stepW.ext h'.len⟩;obtain⟨i,I⟩:=vv (l':=s2.β) h6 r.len;have r4:=(oU h3 h4 r2).sub h6 I h5;obtain⟨c1,c2⟩:=gE h6;obtain⟨d1,d2⟩:=gE I;have N:∀ L∈i,L∈s2.β:=u4 I;have JU:aJ (σ' jj) { s2 with β:=i }:=by
    obtain⟨g1,_⟩:=r.sub h6 I h7 h8;refine⟨g1.mem,g1.len,λj B L hB p=>?_,g1.fT,g1.lt,λb hb=>⟨(r.own b hb).1,λL p=>(r.own b hb).2 L (N L p)⟩⟩
    exact eJ.plain (σ:=σ' jj) (s:={ s2 with β:=i,own:=xy s2 i }) (s':={ s2 with β:=i }) rfl rfl (jw h7 B (bM hB)) (g1.box j B L hB p)
   have NG:cw σ s (σ' jj) { s2 with β:=i }:=by
    refine⟨g.size,g.eB,g.mem,g.jk,λL p b hb=>g.uo _ (N L p) b hb,λl B L hB p=>?_,g.os,g.tape,g.output,g.own⟩
    have hl:l<σ.length:=(cg.1 hB).1;obtain⟨B',L',p1,p2,p3⟩:=g.box l B L hB p
    grind
   obtain⟨ls,Q6⟩:=f2.defers;refine nY ls fr s2 _ r.kz (by grind) e4 (by rw[e3];exact Q6.taken r) λs3 q=>?_
   have A:b9 { s2 with β:=i } { s3 with β:=i }:=by
    refine⟨rfl,q.M,q.own,q.size,λb hb=>q.eB b (hb.imp id ?_),q.mem,q.os,q.tape,q.output⟩
    rintro⟨L,p,hb⟩;obtain⟨j,hj,rfl⟩:=dX p;have Ux:j<ks.length:=by rw[<-d1];exact hj
    obtain⟨y,y1,y2⟩:=d2 j _ (bl Ux);obtain⟨x,x1,x2⟩:=c2 j _ (bl Ux);rw[bl hj] at y1;cases y1;refine⟨_,_,y2,λhc=>?_,hb⟩
    rw[Q6.yh _ hc] at x2;cases x2;exact lD X3 _ (bM x1) rfl
   have hG:eK s3 { s3 with β:=i }:=⟨rfl,λ_ _ _ h=>h,λ_ _ _=>rfl,λb o v hv=>q.mem b o v (by rw[<-q.M];exact hv),λb hb=>hb.imp id λ⟨L,p,hb⟩=>⟨L,by rw[q.β];exact N L p,hb⟩⟩
   have Y:s2.M=M':=n6.M;refine .ghost hG (hS jj _ (.agg d.toArray) _ ⟨e1,e4,rfl,e5,fn,by grind,λw hw=>?_⟩ (r4.mono A.stepW.ext JU.len) (JU.rely A) (NG.trans A.stepW))
   show (results fn fr.tmps).run P w=_/\∀ e∈(results fn fr.tmps).events P w #[],_;rw[e2];have Uy:∀ b o u,M' b o=aa u->w.cell? ⟨b,o,af⟩=aa u:=λb o u h=>hw b o u (by show s3.M b o=aa u;rw[q.M,Y];exact h)
   refine⟨(J w Uy).1,λe he=>?_⟩
   obtain⟨b,o,u,q1,q2⟩:=(J w Uy).2 e he;exact⟨b,o,u,q1,by show s3.M b o=aa u;rw[q.M,Y];exact q2⟩
  rcases he with rfl|rfl
  .intro pre;exact .ghost QO (.ctl h' rfl (λ_=>zm rfl) λs2 n6=>fin _ s2 n6 rfl rfl (ik _) rfl rfl)
  .exact .ghost QO (.ctl h' rfl (λ_=>zn rfl) λs2 n6=>fin _ s2 n6 rfl rfl (ik _) rfl rfl)
def cD.gy{P:aq}{ι:Type}{X:Cx P}{T:List (Nat×TI)}(n:db P T){f:aV}{fn:Func}{c:Code}{args:List D}{σ:List aW}{σ':ι->List aW}{res:ι->D}(i:P.funcs[f]?=aa fn)(d:(fn.name== "runtime.NumGoroutine")=ae)(hb:fn.body=aa c)(g:bq args.length fn.ntmps=ab)
  (h:Fits args σ->AK X fn.ntmps (λe φ σ1=>∃ j,NH T fn σ.length (res j) (σ' j) e φ σ1) [.code c] .normal (hU 0 args) σ):cD X f args σ res σ':=by
 refine⟨⟨fn,i,d,by rw[hb];rfl⟩,λs0 vs hr MJ=>?_⟩
 have:=cD.Q2 (X:=X) (σ':=σ') (res:=res) n i d hb (c7 g) λs a f hh b k cs S m _ l=>(show AW X fn.ntmps c _ (hU 0 args) σ from AK.of_code (h ⟨s0,vs,hr,MJ⟩)) s a f hh b k cs S m l
 exact this.2 s0 vs hr MJ
def dG.set{σ:List aW}{s:St}{a:A}{v:ak}:∀ {vs:List ak}{cs:List A}{j:Nat},dG σ s vs cs->vs[j]?=aa v->gu σ s v a->dG σ s vs (cs.set j a)
 |[],[],_,_,h,_=>by simp at h
 |[],_::_,_,h,_,_=>h.elim
 |_::_,[],_,h,_,_=>h.elim
 |u::vs,c::cs,0,h,b,d=>by
  simp at b;subst b;exact⟨d,h.2⟩
 |u::vs,c::cs,j+1,h,b,d=>⟨h.1,dG.set h.2 (by simpa using b) d⟩
section
variable {P:aq}{X:Cx P}{N:Nat}{Qf:Post}{K:List It}{φ:Fr}{σ:List aW}{c:Code}
def AK.gi(l j:Nat)(E k:Nat)(es':Nat->List C){E0:ar}{cs:List A}{k':Nat}{r:Nat->List C}(hl:fA l σ=aa (.cells E0 cs))(hj:fA j cs=aa (.c (.sl ab k' 0 r)))
  (kk:AK X N Qf (.code c::K) .normal φ ((σ++[aW.vec E k 0 es']).set l (.cells E0 (cs.set j (.vec σ.length k 0 es'))))):AK X N Qf (.code c::K) .normal φ σ:=by
 refine AK.ghost (λs a q hh=>?_) kk
 have G:=dw hl;have S:=dw hj;have p:l<σ.length:=(cg.1 G).1;have g:l<s.β.length:=by rw[hh.len];exact p
 have D:=bl g;generalize s.β[l]=L at D;obtain⟨b,vs,z,d,n,T⟩:=hh.box l _ L G D;obtain⟨v,Q,R⟩:=n.get S;have h1:Rd s.M v (.sl ab k 0 es'):=(Rd.uV (k:=k') (k':=k) (.inr rfl) R).Dn λi hi=>by omega
 have y:eJ (σ++[aW.vec E k 0 es']) { s with β:=s.β++[⟨v,[]⟩] } (.vec E k 0 es') ⟨v,[]⟩:=⟨h1.loose,.inl ⟨⟨rfl,rfl⟩,h1⟩⟩;obtain⟨H,g2⟩:=hh.gT (.refl _ _) rfl hh y (by simp)
 have x:(σ++[aW.vec E k 0 es'])[l]?=aa (.cells E0 cs):=by grind
 have t:(s.β++[(⟨v,[]⟩:Loc)])[l]?=aa L:=by grind
 have m:(s.β++[(⟨v,[]⟩:Loc)]).set l L=s.β++[⟨v,[]⟩]:=by
  apply iK
  grind
 have F:il (.cells E0 cs) L (.cells E0 (cs.set j (.vec σ.length k 0 es'))) L:=rfl;have O:σ.length≠l:=by omega
 have o:eJ ((σ++[aW.vec E k 0 es']).set l (.cells E0 (cs.set j (.vec σ.length k 0 es')))) ⟨(s.β++[(⟨v,[]⟩:Loc)]).set l L,s.M,s.w,s.own⟩ (.cells E0 (cs.set j (.vec σ.length k 0 es'))) L:=by
  rw[m];refine⟨b,vs,z,d,?_,T⟩;have ex:Ext (σ++[aW.vec E k 0 es']) { s with β:=s.β++[⟨v,[]⟩] } ((σ++[aW.vec E k 0 es']).set l (.cells E0 (cs.set j (.vec σ.length k 0 es')))) { s with β:=s.β++[⟨v,[]⟩] }:=by
   refine⟨λ_ _ _ h=>h,λi B L' l7 ga=>?_⟩
   by_cases e:l=i
   .grind
   .exact⟨B,L',by rw[fE e];exact l7,ga,.refl _ _⟩
  have f:dG (σ++[aW.vec E k 0 es']) { s with β:=s.β++[⟨v,[]⟩] } vs cs:=n.mono g2.ext hh.len;refine dG.set (f.mono ex H.len) Q ?_;refine⟨h1.loose,by simp,λV W Y I h=>?_⟩
  rw[fE (by omega),gg (by omega),pG] at h
  cases h;refine⟨bc _,λ_=>⟨⟨v,[]⟩,?_,rfl⟩⟩
  simp[<-hh.len]
 obtain⟨J,U⟩:=H.im (M':=s.M) (w':=s.w) (L':=L) x t F (bc _) (λ_ _ _=>rfl) (λ_ _ _ _=>rfl) (λ_ _ _ h=>h) hh.mem (λb hb=>⟨.inl hb,hh.lt L (bM D) b hb⟩) rfl rfl rfl o
 have st:=g2.trans U;exact⟨⟨(s.β++[(⟨v,[]⟩:Loc)]).set l L,s.M,s.w,s.own⟩,rfl,⟨q.size,q.defers.imp λ_ h1=>h1.mono st.ext,λu=>(q.slot u).mono st.ext hh.len⟩,J,st⟩
end
section
variable {P:aq}{X:Cx P}{N:Nat}{Qf:Post}{K:List It}{φ:Fr}{σ:List aW}{c:Code}
def AK.Re(t:Nat)(E k:Nat)(es':Nat->List C){k':Nat}{d:Nat->List C}(h:look φ t=.e (.one (.c (.sl ab k' 0 d))))
  (kk:AK X N Qf (.code c::K) .normal ((t,.e (.one (.bp σ.length (.sl 0 k 0 0))))::φ) (σ++[.buf E k 0 es'])):AK X N Qf (.code c::K) .normal φ σ:=by
 refine AK.ghost (λs a b hh=>?_) kk
 have f:=b.slot t;rw[h] at f;obtain⟨g,g2⟩:=hh.gT (B:=.buf E k 0 es') (L:=⟨.slice af 0 0,[]⟩) (.refl _ _) rfl hh (.inl ⟨rfl,rfl⟩) (by simp)
 refine⟨{ s with β:=s.β++[⟨.slice af 0 0,[]⟩] },rfl,⟨b.size,b.defers.imp λ_ h1=>h1.mono g2.ext,λu=>?_⟩,g,g2⟩
 simp only[look];cases hb:aA t u with
 |false=>exact(b.slot u).mono g2.ext hh.len
 |true =>
  have e:=bT hb;subst e;exact uX (E:=E) (es:=es') (fC f) (by simp) (by simp[<-hh.len])
def AK.nq(l j:Nat)(E k:Nat)(es':Nat->List C){E0:ar}{cs:List A}{k':Nat}{x:Nat->List C}(hl:fA l σ=aa (.cells E0 cs))(hj:fA j cs=aa (.c (.sl ab k' 0 x)))
  (kk:AK X N Qf (.code c::K) .normal φ ((σ++[aW.buf E k 0 es']).set l (.cells E0 (cs.set j (.bp σ.length (.sl 0 k 0 0)))))):AK X N Qf (.code c::K) .normal φ σ:=by
 refine AK.ghost (λs a t hh=>?_) kk
 have J:=dw hl;have T:=dw hj;have r:l<σ.length:=(cg.1 J).1;have m:l<s.β.length:=by rw[hh.len];exact r
 have H:=bl m;generalize s.β[l]=L at H;obtain⟨b,vs,F,f,p,U⟩:=hh.box l _ L J H;obtain⟨v,R,S⟩:=p.get T
 let d:Loc:=⟨.slice af 0 0,[]⟩
 obtain⟨O,g2⟩:=hh.gT (B:=.buf E k 0 es') (L:=d) (.refl _ _) rfl hh (.inl ⟨rfl,rfl⟩) (by simp[d])
 have z:(σ++[aW.buf E k 0 es'])[l]?=aa (.cells E0 cs):=by grind
 have y:(s.β++[d])[l]?=aa L:=by grind
 have o:(s.β++[d]).set l L=s.β++[d]:=by
  apply iK
  grind
 have I:il (.cells E0 cs) L (.cells E0 (cs.set j (.bp σ.length (.sl 0 k 0 0)))) L:=rfl;have q:eJ ((σ++[aW.buf E k 0 es']).set l (.cells E0 (cs.set j (.bp σ.length (.sl 0 k 0 0))))) ⟨(s.β++[d]).set l L,s.M,s.w,s.own⟩ (.cells E0 (cs.set j (.bp σ.length (.sl 0 k 0 0)))) L:=by
  rw[o];refine⟨b,vs,F,f,?_,U⟩;have ex:Ext (σ++[aW.buf E k 0 es']) { s with β:=s.β++[d] } ((σ++[aW.buf E k 0 es']).set l (.cells E0 (cs.set j (.bp σ.length (.sl 0 k 0 0))))) { s with β:=s.β++[d] }:=by
   refine⟨λ_ _ _ h=>h,λi B L D G=>?_⟩
   by_cases e:l=i
   .grind
   .exact⟨B,L,by rw[fE e];exact D,G,.refl _ _⟩
  have g:dG (σ++[aW.buf E k 0 es']) { s with β:=s.β++[d] } vs cs:=p.mono g2.ext hh.len;exact dG.set (g.mono ex O.len) R (uX (E:=E) (es:=es') S (by grind) (by simp[<-hh.len,d]))
 obtain⟨Q,V⟩:=O.im (M':=s.M) (w':=s.w) (L':=L) z y I (bc _) (λ_ _ _=>rfl) (λ_ _ _ _=>rfl) (λ_ _ _ h=>h) hh.mem (λb hb=>⟨.inl hb,hh.lt L (bM H) b hb⟩) rfl rfl rfl q
 have st:=g2.trans V;exact⟨⟨(s.β++[d]).set l L,s.M,s.w,s.own⟩,rfl,⟨t.size,t.defers.imp λ_ h1=>h1.mono st.ext,λu=>(t.slot u).mono st.ext hh.len⟩,Q,st⟩
end
def uy:Nat->(Nat->List C)->Nat->List C
 |0,es=>es
 |o+1,es=>jJ (o+1) es
def u6(o:Nat)(es:Nat->List C)(i:Nat):uy o es i=es (o+i):=by cases o <;> simp[uy,jJ]
def z8(l k n:Nat)(es:Nat->List C)(a:A):Option (A×List Prop):=match GG l a with
 |true=>aa (a,[])
 |false=>match a with
  |.bp l' (.sl g k' o m)=>match aA l' l,aA k' k with
   |true,ab=>aa (.c (.sl ae k m (uy o es)),[g=n,o+m<=n])
   |_,_=>af
  |_=>af
def z9(l k n:Nat)(es:Nat->List C):List A->Option (List A×List Prop)
 |[]=>aa ([],[])
 |a::r=>match z8 l k n es a with
  |some (a',p)=>match z9 l k n es r with
   |some (r',q)=>aa (a'::r',kh p q)
   |none=>af
  |none=>af
def wv(l k n:Nat)(es:Nat->List C):E1->Option (E1×List Prop)
 |.one a=>match z8 l k n es a with|some (a,p)=>aa (.one a,p)|none=>af
 |.agg cs=>match z9 l k n es cs with|some (cs,p)=>aa (.agg cs,p)|none=>af
def ve(l k n:Nat)(es:Nat->List C):List E1->Option (List E1×List Prop)
 |[]=>aa ([],[])
 |a::r=>match wv l k n es a with
  |some (a',p)=>match ve l k n es r with
   |some (r',q)=>aa (a'::r',kh p q)
   |none=>af
  |none=>af
def wx(l k n:Nat)(es:Nat->List C):D->Option (D×List Prop)
 |.e x=>match wv l k n es x with|some (x,p)=>aa (.e x,p)|none=>af
 |.eN xs=>match ve l k n es xs with|some (xs,p)=>aa (.eN xs,p)|none=>af
 |.any=>aa (.any,[])
section
variable {σ1:List aW}{s s2:St}{E k n:Nat}{es:Nat->List C}
structure lW (σ1:List aW)(E k n:Nat)(es:Nat->List C)(s s2:St):Prop where
 eB:∀ v a,gu (σ1++[.buf E k n es]) s v a->GG σ1.length a=ab->gu σ1 s2 v a
 Jh:∀ v k' o m,gu (σ1++[.buf E k n es]) s v (.bp σ1.length (.sl n k' o m))->k'=k->o+m<=n->Rd s2.M v (.sl ae k m (uy o es))
def lW.a(h:lW σ1 E k n es s s2){v:ak}{a a':A}{ps:List Prop}(b:z8 σ1.length k n es a=aa (a',ps))(e:ag ps)(r:gu (σ1++[.buf E k n es]) s v a):gu σ1 s2 v a':=by
 unfold z8 at b;split at b
 .rename_i d;cases b;exact h.eB v a r d
 .split at b
  .rename_i l' g k' o m _
   split at b
   .rename_i e1 e2
    cases b;have e1:=bT e1;have e2:=bT e2;subst e1 e2;obtain⟨rfl,h2⟩:g=n/\o+m<=n:=e;exact h.Jh v _ _ _ r rfl h2
   .cases b
  .cases b
def lW.l(h:lW σ1 E k n es s s2):∀ {vs:List ak}{cs l8:List A}{ps:List Prop},z9 σ1.length k n es cs=aa (l8,ps)->ag ps->dG (σ1++[.buf E k n es]) s vs cs->dG σ1 s2 vs l8
 |[],[],_,_,b,_,_=>by cases b;trivial
 |[],_::_,_,_,_,_,r=>r.elim
 |_::_,[],_,_,_,_,r=>r.elim
 |v::vs,c::cs,l8,ps,b,d,r=>by
  simp only[z9] at b;split at b
  .rename_i a' p h1
   split at b
   .rename_i r' q h2
    cases b;rw[ag.cat] at d;exact⟨h.a h1 d.1 r.1,h.l h2 d.2 r.2⟩
   .cases b
  .cases b
def lW.e(h:lW σ1 E k n es s s2){v:ak}{x f:E1}{ps:List Prop}(b:wv σ1.length k n es x=aa (f,ps))(d:ag ps)(r:ma (σ1++[.buf E k n es]) s v x):ma σ1 s2 v f:=by
 cases x with
 |one a =>
  simp only[wv] at b;split at b
  .rename_i a' p h1;cases b;exact h.a h1 d r
  .cases b
 |agg cs =>
  simp only[wv] at b;split at b
  .rename_i a' p h1;cases b
   obtain⟨vs,i,g⟩:=r;exact⟨vs,i,h.l h1 d g⟩
  .cases b
def lW.es'(h:lW σ1 E k n es s s2):∀ {vs:List ak}{cs l8:List E1}{ps:List Prop},ve σ1.length k n es cs=aa (l8,ps)->ag ps->gD (σ1++[.buf E k n es]) s vs cs->gD σ1 s2 vs l8
 |[],[],_,_,a,_,_=>by cases a;trivial
 |[],_::_,_,_,_,_,r=>r.elim
 |_::_,[],_,_,_,_,r=>r.elim
 |v::vs,c::cs,l8,ps,a,b,r=>by
  simp only[ve] at a;split at a
  .rename_i a' p h1
   split at a
   .rename_i r' q h2
    cases a;rw[ag.cat] at b;exact⟨h.e h1 b.1 r.1,h.es' h2 b.2 r.2⟩
   .cases a
  .cases a
def lW.d(h:lW σ1 E k n es s s2){v:ak}{x f:D}{ps:List Prop}(a:wx σ1.length k n es x=aa (f,ps))(b:ag ps)(r:c8 (σ1++[.buf E k n es]) s v x):c8 σ1 s2 v f:=by
 cases x with
 |e x =>
  simp only[wx] at a;split at a
  .rename_i a' p h1;cases a;exact h.e h1 b r
  .cases a
 |eN xs =>
  simp only[wx] at a;split at a
  .rename_i a' p h1;cases a
   obtain⟨vs,i,g⟩:=r;exact⟨vs,i,h.es' h1 b g⟩
  .cases a
 |any=>cases a;trivial
def aJ.Jh(hh:aJ (σ1++[.buf E k n es]) s)(F:rJ σ1.length σ1=ab) :
  ∃ s2:St,aJ σ1 s2/\eK s s2/\lW σ1 E k n es s s2/\∀ {σ0:List aW} {s0:St},cw σ0 s0 (σ1++[.buf E k n es]) s->σ0.length<=σ1.length->cw σ0 s0 σ1 s2:=by
 have B:(σ1++[aW.buf E k n es])[σ1.length]?=aa (.buf E k n es):=by simp
 have O:s.β.length=σ1.length+1:=by rw[hh.len];simp
 have t:s.β[σ1.length]?=aa s.β[σ1.length]:=bl (by omega)
 generalize s.β[σ1.length]=L at t;have A:=hh.box _ _ L B t;obtain⟨M',I,S,H,V⟩:∃ M':Mem,(∀ b o v,s.M b o=aa v->M' b o=aa v)/\(∀ b,b∉L.bs->∀ o,M' b o=s.M b o)/\(∀ b o v,M' b o=aa v->s.w.cell? ⟨b,o,af⟩=aa v) /\
   (∀ v k' o m,gu (σ1++[.buf E k n es]) s v (.bp σ1.length (.sl n k' o m))->k'=k->o+m<=n->Rd M' v (.sl ae k m (uy o es))):=by
  rcases A with⟨rfl,rfl⟩|⟨b,W,vs,zs,rfl,hw,Z,WL,Y,Q,hM⟩
  .refine⟨s.M,λ_ _ _ h=>h,λ_ _ _=>rfl,hh.mem,λv k' o m r e q=>?_⟩
   obtain⟨lv,⟨a,a0,cap,W,l,h1,h2,h3,p,h4⟩,_,D⟩:=r;obtain⟨L',d,f⟩:=(D _ _ _ _ B).2 rfl;rw[t] at d;cases d;rw[p] at f;cases f;have:cap=0:=by omega
   subst this;have:m=0:=by omega
   subst this;rw[l];exact Rd.jG
  .let M':Mem:=λg o=>if g=b then vs[o]? else s.M g o
   have R:∀ g o v,s.M g o=aa v->M' g o=aa v:=λg o v l=>by
    grind
   refine⟨M',R,λg U o=>?_,λg o v l=>?_,λv k' o m r e q=>?_⟩
   .grind
   .by_cases e:g=b
    .subst e;simp only[M',cj] at l;simp only[aZ,hw]
     grind
    .simp only[M',e,b5] at l;exact hh.mem g o v l
   .subst e;obtain⟨lv,⟨a,a0,cap,c1,l,h1,h2,h3,p,h4⟩,_,D⟩:=r;obtain⟨L',d,f⟩:=(D _ _ _ _ B).2 rfl;rw[t] at d;cases d;rw[p] at f;cases f;rw[l];have z:∀ i,i<m->∀ j c,(uy o es i)[j]?=aa c->∃ u,vs[(o+i)*k'+j]?=aa u/\Rd s.M u c:=λi hi j c hj=>by
     rw[u6] at hj;exact Q.rd (o+i) (by omega) j c hj
    refine .sl b (o*k') (λi j=>(vs[(o+i)*k'+j]?).getD aj) h1 (by omega) (by simp) (λi hi=>by rw[u6];exact Q.width _ (by omega)) (λhm=>?_) (λi hi j c hj=>?_) (λi hi j c hj=>?_)
    .grind
    .grind
    .obtain⟨u,u1,T⟩:=z i hi j c hj;rw[u1];exact T.mono R
 have x:(σ1++[aW.buf E k n es]).set σ1.length .dead=σ1++[.dead]:=by simp
 obtain⟨J,G⟩:=hh.im (M':=M') (w':=s.w) (B':=.dead) (L':=⟨L.v,[]⟩) B t av (bc _) (λ_ _ _=>rfl) (λb _ hb o=>S b hb o) I H (by simp) rfl rfl rfl av
 rw[x] at J G;have q3:=J.drop (rest:=[.dead]) F;refine⟨_,q3,⟨rfl,I,λb hb o=>S b (hb L (bM t)) o,H,λb hb=>?_⟩,⟨λv a r y=>?_,λv k' o m r e q=>V v k' o m r e q⟩,λ{σ0 s0} st hle=>(st.trans (G.oo hh)).drop (rest:=[.dead]) hle⟩
 .rcases hb with hb|⟨L',d,hb⟩
  .exact .inl hb
  .have:=iI d
   grind
 .exact(r.mono G.ext hh.len).drop (rest:=[.dead]) y
end
def cD.iW{P:aq}{ι:Type}{X:Cx P}{f:aV}{args:List D}{σ:List aW}{res res':ι->D}{σ1:ι->List aW}{E k:Nat}{n:ι->Nat}{es:ι->Nat->List C}(h:cD X f args σ res (λi=>σ1 i++[.buf E k (n i) (es i)]))
  {ps:ι->List Prop} (g:∀ i,wx (σ1 i).length k (n i) (es i) (res i)=aa (res' i,ps i)) (e:∀ i,ag (ps i)) (b:∀ i,rJ (σ1 i).length (σ1 i)=ab) (a:∀ i,σ.length<=(σ1 i).length):cD X f args σ res' σ1:=by
 refine⟨h.1,λs vs hr hh S cs hS=>h.2 s vs hr hh S cs λi fr v s' hl mR ld st=>?_⟩
 obtain⟨s2,c1,c2,c3,c4⟩:=ld.Jh (b i);exact .ghost c2 (hS i fr v s2 (hl.mono c2.mem) (c3.d (g i) (e i) mR) c1 (c4 st (a i)))
def Ev.iW{P:aq}{X:Cx P}{f:aV}{args:List D}{σ:List aW}{res res':D}{σ1:List aW}{E k n:Nat}{es:Nat->List C}(h:Ev X f args σ res (σ1++[.buf E k n es]))
  {ps:List Prop} (e:wx σ1.length k n es res=aa (res',ps)) (d:ag ps) (b:rJ σ1.length σ1=ab) (a:σ.length<=σ1.length):Ev X f args σ res' σ1 :=
 (cD.iW (ι:=Unit) h.A9 (λ_=>e) (λ_=>d) (λ_=>b) (λ_=>a)).ux
section
variable {P:aq}{T:List (Nat×TI)}{o:aw}{d:an->D}{σ:List aW}
def zz{x:an}{t:ar}(h:o.op=.call { callee:=.builtin .clear,args:=#[x],argTypes:=#[t] })(ρ:an->ak) :
  ay ρ o=(do pure (.value (<-Builtin.clear_ #[t] o.type #[ρ x]))):=by
 simp[ay,h,resolve,invoke,builtin]
def Jg{M:Mem}{z:ak}{f:List C}{m k:Nat}(q:z.cells.toList.map qc=f.map aa)(s:f.length=k):Flat M k m (λ_=>f) (Builtin.zeroCells z.cells m).toList:=by
 have b:z.cells.size=k:=by have:=di List.length q;simp at this;omega
 have n:dG [] ⟨[],M,default,λ_=>False⟩ z.cells.toList (f.map A.c):=kI q
 refine⟨by simp[Builtin.zeroCells,b],λ_ _=>s,λi hi j c r=>?_⟩
 have l:j<k:=by grind
 obtain⟨v,v1,t⟩:=n.get (j:=j) (a:=A.c c) (by rw[nF,r];rfl)
 refine⟨v,?_,t⟩;have g:i*k+j<m*k:=by
  have:i*k+k<=m*k:=by rw[<-j6];exact ei k hi
  omega
 have e:(i*k+j) % k=j:=by rw[ln,Nat.add_mul_mod_self_right];exact Nat.mod_eq_of_lt l
 have p:j<z.cells.size:=by omega
 have u:z.cells[j]=v:=by
  grind
 have h:z.cells[j]! = v:=by rw[getElem!_pos z.cells j p,u]
 simp[Builtin.zeroCells,b,g,e,h]
def bF.DF(hT:db P T){x:an}{t:ar}(h:o.op=.call { callee:=.builtin .clear,args:=#[x],argTypes:=#[t] }){i c:TI}{E:ar}(hi:bA T t=aa i)(hd:i.desc=.slice E)(hE:bA T E=aa c)
  {l n q m:Nat} {K:ar} {es:Nat->List C} (hx:d x=.e (.one (.bp l (.sl n c.size q m)))) (hl:σ[l]?=aa (.buf K c.size n es)) (F:q+m<=n) :
  bF P o d σ .any (σ.set l (.buf K c.size n (oV q (q+m) c.zero es))):=by
 intro s ρ hh hr;have h1:=hr x;rw[hx] at h1
 change gu σ s (ρ x) (.bp l _) at h1
 obtain⟨lv,⟨a,a0,cap,c0,hv,V6,SP,WB,Q,S⟩,_,Y⟩:=h1;obtain⟨L,X,r⟩:=(Y _ _ _ _ hl).2 rfl;rw[Q] at r;have f:=(hT t i hi).SY;rw[hd] at f;rw[zz h,hv]
 by_cases hm:m=0
 .subst hm;have hz:oV q (q+0) c.zero es=es:=by
   funext j
   simp only[oV];rw[aY (by omega)]
  have hs:σ.set l (.buf K c.size n es)=σ:=by
   apply iK
   grind
  rw[hz,hs];refine⟨.value (.tuple #[]),s,?_,av,hh,.refl _ _,?_⟩
  .cases a <;> simp[Builtin.clear_,run_underlying f]
  .intro V p;cases a <;> simp[Builtin.clear_,run_underlying f,aP] at p
 .obtain⟨b,rfl,rfl⟩:=S (by omega)
  rcases hh.box l _ L hl X with⟨_,rfl⟩|⟨b',c1,vs,G,rfl,g,N,O,W,hF,hM⟩
  .cases r
  .cases r;obtain⟨inf,z,z1,z2,z3,z4,z5,z6,z7⟩:=(hT E c hE).info;have A:=Jg (M:=s.M) (m:=m) z5 z7;have Z:(Builtin.zeroCells z.cells m).toList.length=m*c.size:=A.len;have SU:=hF.len;have hb:q*c.size+m*c.size<=n*c.size:=by rw[<-gB];exact ei _ F
   have q2:=hF.Ti A F;have he:(λi=>if q<=i/\i<q+m then (λ_=>c.zero) (i-q) else es i)=oV q (q+m) c.zero es:=rfl
   rw[he] at q2;obtain⟨t1,t2⟩:=hh.dZ hl X N O W g q2 (by grind) hM
   have k:∀ v∈(Builtin.zeroCells z.cells m).toList,v.oneCell'=ab:=A.cell;have y:=run_storeCells_at P b (q*c.size) K (Builtin.zeroCells z.cells m).toList 0 (vs++G).toArray s.w g (by grind) k
   have I:((vs++G).toArray.toList.take (q*c.size+0)++(Builtin.zeroCells z.cells m).toList++(vs++G).toArray.toList.drop (q*c.size+0+(Builtin.zeroCells z.cells m).toList.length))=vs.take (q*c.size)++(Builtin.zeroCells z.cells m).toList++vs.drop (q*c.size+(Builtin.zeroCells z.cells m).toList.length)++G:=by
    grind
   rw[I] at y;have B:∀ u,(zeroValue E).run P u=.ok z u:=λu=>by simp[zeroValue,typeInfo,z1,z4]
   have U:∀ u es,(zeroValue E).events P u es=es:=λu es=>by simp[zeroValue,typeInfo,z1,z4,aP]
   obtain⟨J,rfl⟩:∃ J,m=J+1:=⟨m-1,by omega⟩
   refine⟨.value (.tuple #[]),_,?_,av,t1,t2,?_⟩
   .simp[Builtin.clear_,run_underlying f,B,y]
   .intro V p;have H:V∈(storeCells ⟨b,q*c.size,af⟩ (Builtin.zeroCells z.cells (J+1)).toList).events P s.w #[]:=by
     simp only[Builtin.clear_,aP,iH,kV] at p;simpa[run_underlying f,B,U,y] using p
    rcases eD (Builtin.zeroCells z.cells (J+1)).toList 0 (vs++G).toArray s.w #[] g (by grind) k V H with R|⟨j,_,_,rfl⟩
    .simp at R
    .exact mn (bM X) (by simp) (hM _)
end
section
variable {P:aq}{X:Cx P}{N:Nat}{Qf:Post}{K:List It}{φ:Fr}{σ:List aW}{all rest:List aw}{o:aw}
def AK.QT{d:Fr}{σ':List aW}(h:∀ s a,cp N σ s φ a->aJ σ s->∃ s':St,s'.w=s.w/\cp N σ' s' d a/\aJ σ' s'/\Step σ s σ' s')(k:AK X N Qf (.ops all rest::K) .normal d σ'):AK X N Qf (.ops all rest::K) .normal φ σ:=by
 intro s a i hh b kk cs S idx hb jE hQ;obtain⟨s',j,g,e,st⟩:=h s a i hh;have c:=st.oo hh;refine .ghost (.of hh e j c) ?_;exact k s' a g e b kk cs S idx hb jE λf σ2 s2 a2 q l h2 oz=>hQ f σ2 s2 a2 q l h2 (c.trans oz)
def AK.we(t:Nat)(E k:Nat)(es':Nat->List C){k':Nat}{d:Nat->List C}(h:look φ t=.e (.one (.c (.sl ab k' 0 d))))
  (kk:AK X N Qf (.ops all rest::K) .normal ((t,.e (.one (.bp σ.length (.sl 0 k 0 0))))::φ) (σ++[.buf E k 0 es'])):AK X N Qf (.ops all rest::K) .normal φ σ:=by
 refine AK.QT (λs a b hh=>?_) kk
 have f:=b.slot t;rw[h] at f;obtain⟨g,g2⟩:=hh.gT (B:=.buf E k 0 es') (L:=⟨.slice af 0 0,[]⟩) (.refl _ _) rfl hh (.inl ⟨rfl,rfl⟩) (by simp)
 refine⟨{ s with β:=s.β++[⟨.slice af 0 0,[]⟩] },rfl,⟨b.size,b.defers.imp λ_ h1=>h1.mono g2.ext,λu=>?_⟩,g,g2⟩
 simp only[look];cases hb:aA t u with
 |false=>exact(b.slot u).mono g2.ext hh.len
 |true =>
  have e:=bT hb;subst e;exact uX (E:=E) (es:=es') (fC f) (by simp) (by simp[<-hh.len])
def AK.BN{T:List (Nat×TI)}(I:db P T){t ty:ar}{x:an}{g j:Nat}(h:o.op=.binOp .eql t x (.const (.slice af g j)) ty){i:TI}{E:ar}(hi:bA T t=aa i)(G:i.desc=.slice E){tt:Bool}{k n:Nat}{es:Nat->List C}
  (v:bX φ x=.e (.one (.c (.sl tt k n es)))) (H:o.guard=af) (F:gv N o.dst=ab)
  (kk:∀ b:Bool,(b=ab->n=0)->AK X N Qf (.ops all rest::K) .normal (lr o.dst (.e (.one (.c (.bool b)))) φ) σ):AK X N Qf (.ops all (o::rest)::K) .normal φ σ:=by
 refine AK.hand (ι:={ b:Bool // b=ab->n=0 }) (λb=>.e (.one (.c (.bool b.1)))) (λ_=>σ) H F (λs a A hh=>?_) λb=>kk b.1 b.2
 have m:=dK A x;rw[v] at m;obtain⟨ad,cap,vs,m,_,_,_,_,D⟩:=(fC m).flat;have d:=(I t i hi).SY;rw[G] at d;have q:=fC (by have:=dK A x;rw[v] at this;exact this)
 have p:ad.isNone=ab->n=0:=by
  intro hn;rw[m] at q;cases q with
  |sl b off f z hb ht hk ha D u =>
   grind
 refine⟨⟨ad.isNone,p⟩,.value (.bool ad.isNone),s,.bool ad.isNone,?_,.inl rfl,Rd.bool,hh,.refl _ _,?_⟩
 .have u:(binOp .eql t (.slice ad n cap) (.slice af g j)).run P s.w=.ok (.bool ad.isNone) s.w:=Go.Lib.run_eql_slice_nil s.w t E ad n cap g j d;have l:∀ y,eqGuard .eql t x y (.slice ad n cap) (.slice af g j)=pure ():=λy=>by simp[eqGuard]
  have e1:a.eval (.const (.slice af g j))=.slice af g j:=rfl;simp only[ay,h,m,e1,l];simp[u]
 .have B:∀ es,(Op.equal t (.slice ad n cap) (.slice af g j)).events P s.w es=es:=λes=>by
   show (Op.equalIn (9999+1) t _ _).events P s.w es=es;unfold Op.equalIn;cases ad <;> simp[underlying,d]
  have u:(Op.equal t (.slice ad n cap) (.slice af g j)).run P s.w=.ok ad.isNone s.w:=by
   show (Op.equalIn (9999+1) t _ _).run P s.w=_;exact Go.Lib.run_equalIn_slice_nil s.w 9999 t E ad n cap g j d
  have l:∀ y,eqGuard .eql t x y (.slice ad n cap) (.slice af g j)=pure ():=λy=>by simp[eqGuard]
  have e1:a.eval (.const (.slice af g j))=.slice af g j:=rfl;intro J r;exfalso;simp only[ay,h,m,e1,l,binOp] at r;simp[u,B,aP] at r
end
end
end Go.AM
namespace Go.AM.R1
section
open Go.Proofs
open Go.Sort (swp insInner insOuter ltInt)
variable {X:Cx ah}
def Mg(n:Int):Ev X 172 [dI n] [] (dB ae) []:=by
 refine Ev.bQ Tryz.func172 rfl λa=>?_
 refine aX [(5,ae)] 100 rfl (by simp[ag]) (AK.bo rfl ?_)
 simp[ag]
abbrev VN:dg:=kN aI (λ_=>dB ae) λ_=>[]
def Zl:dD X 172 VN:=.oH λn _=>Mg n
def OU(x y:Int):Ev X 134 [dI x,dI y] [] (dB (ltInt x y)) []:=by
 have a:bD X [(172,VN)]:=.cons Zl .nil;refine Ev.bQ Tryz.func134 rfl λb=>?_
 refine aE a [] 100 rfl (by simp[ag]) (AK.bo rfl ?_)
 simp[ag,ltInt]
abbrev ui:dg:=ow aI aI (λx y=>dB (ltInt x y)) λ_ _=>[]
def xi:dD X 134 ui:=.qG λx y _=>OU x y
def eI(d:Array Int)(j:Nat):List C:=[.int .i64 d[j]!]
abbrev kD(n:Nat):D:=.e (.one (.bp 0 (.sl n 1 0 n)))
abbrev bI(n:Nat)(d:Array Int):aW:=.buf 3 1 n (eI d)
def g7:∀ j,j<1->([0]:List Nat)[j]?=aa j:=λj a=>by
 have:j=0:=by omega
 subst this;rfl
end
section
open Go.Proofs
open Go.Sort (swp insInner insOuter insertionSort ltInt)
variable {X:Cx ah}
def hI{d:Array Int}{i j n:Nat}(h:d.size=n)(hi:i<n)(g:j<n){f:Nat->List C}(c:aR n f (eI d)):aR n (ni j [.int .i64 d[i]!] (ni i [.int .i64 d[j]!] f)) (eI (swp d i j)):=by
 intro k b;have e:(swp d i j)[k]! = if k=j then d[i]! else if k=i then d[j]! else d[k]! := by
  unfold swp
  grind
 have a:=c k b;simp only[eI,ni] at a ⊢
 grind
def size_swp(d:Array Int)(i j:Nat):(swp d i j).size=d.size:=by simp[swp]
def AX{a j:Nat}{d:Array Int}(h:a<j)(b:ltInt d[j]! d[j-1]! = ab):insInner ltInt a j d=insInner ltInt a (j-1) (swp d j (j-1)):=by
 cases j with
 |zero=>omega
 |succ j =>
  simp only[nJ] at b ⊢;rw[insInner,bg]
  grind
def sD{a j:Nat}{d:Array Int}(h:a<j->ltInt d[j]! d[j-1]! = ae):insInner ltInt a j d=d:=by
 cases j with
 |zero=>rfl
 |succ j =>
  simp only[nJ] at h;rw[insInner,aY]
  grind
def SE(n:Nat)(d:Array Int)(a b:Nat)(r:d.size=n)(t:b<=n)(w:a<=n)(v:n<=4000000) :
  Ev X 128 [kD n,dI a,dI b] [bI n d] (.eN []) [bI n (insertionSort ltInt d a b)]:=by
 have k:bD X [(134,ui)]:=.cons xi .nil;refine Ev.bQ Tryz.func128 rfl λu=>?_
 refine bm rfl (by simp[ag,bx];omega) ?_
 refine AK.bJ 1 (λs:Nat×Array Int=>s.2.size=n/\a+1<=s.1/\s.1<=n+1/\insOuter ltInt a b s.1 s.2=insertionSort ltInt d a b) (λs=>[(0,kD n),(1,dI a),(2,dI b),(6,dI s.1)]) (λs=>[bI n s.2]) (λs=>b-s.1) (a+1,d) rfl ?_ rfl ?_ rfl ⟨r,by omega,by simp only;omega,rfl⟩ ?_
 .simp[ag.cat,ag,aR]
 .simp[ag.cat,ag,aR]
 rintro⟨i,d1⟩ ⟨p,hi,l,e⟩;simp only at p hi l e
 by_cases h:i<b
 .refine aX [(12,ab)] 100 rfl (by simp[ag];omega) ?_
  refine AK.bJ 1 (λs:Nat×Array Int=>s.2.size=n/\s.1<=i/\insInner ltInt a s.1 s.2=insInner ltInt a i d1) (λs=>[(0,kD n),(1,dI a),(2,dI b),(6,dI i),(7,dI s.1)]) (λs=>[bI n s.2]) (λs=>s.1) (i,d1) rfl ?_ rfl ?_ rfl ⟨p,by simp,rfl⟩ ?_
  .simp[ag.cat,ag,aR]
  .simp[ag.cat,ag,aR]
  rintro⟨j,d2⟩ ⟨f,q,c⟩;simp only at f q c
  by_cases o:a<j
  .have m:((j:Int)-1).toNat=j-1:=by omega
   by_cases g:ltInt d2[j]! d2[j-1]! = ab
   .refine aE k [(18,ab),(29,ab)] 100 rfl ?_ ?_
    .simp[ag,bx,m,g];omega
    refine AK.aQ (j-1,swp d2 j (j-1)) rfl ?_ ?_ ?_ ?_
    .simp[ag.cat,ag];omega
    .simp only[ag.cat,ag,m,br,bt,aF,aG];exact hI f (by omega) (by omega) (λ_ _=>rfl)
    .refine⟨by rw[size_swp];exact f,by omega,?_⟩
     rw[<-c,AX o g]
    .simp;omega
   .refine aE k [(18,ab),(29,ae)] 100 rfl ?_ (AK.leaveD rfl rfl ?_)
    .simp[ag,bx,m,g];omega
    refine bm rfl ?_ (AK.aQ (i+1,d2) rfl ?_ ?_ ?_ ?_)
    .simp[ag,bx];omega
    .simp[ag.cat,ag]
    .simp[ag.cat,ag,aR]
    .refine⟨f,by omega,by simp only;omega,?_⟩
     simp only;rw[<-e,insOuter.eq_1 ltInt a b i,bg h,<-c,sD λ_=>by simpa using g]
    .simp;omega
  .refine aE k [(18,ae)] 100 rfl ?_ (AK.leaveD rfl rfl ?_)
   .simp[ag,bx];omega
   refine bm rfl ?_ (AK.aQ (i+1,d2) rfl ?_ ?_ ?_ ?_)
   .simp[ag,bx];omega
   .simp[ag.cat,ag]
   .simp[ag.cat,ag,aR]
   .refine⟨f,by omega,by simp only;omega,?_⟩
    simp only;rw[<-e,insOuter.eq_1 ltInt a b i,bg h,<-c,sD λx=>absurd x o]
   .simp;omega
 .refine aX [(12,ae)] 100 rfl (by simp[ag];omega) (AK.leaveD rfl rfl ?_)
  have:insertionSort ltInt d a b=d1:=by rw[<-e,insOuter,aY h]
  rw[this];exact bZ.s9 [0] rfl av rfl rfl rfl g7
end
section
open Go.Proofs
open Go.Sort (swp siftDown ltInt)
variable {X:Cx ah}
def Mp{hi first root:Nat}{d:Array Int}(h:¬2*root+1<hi):siftDown ltInt hi first root d=d:=by
 rw[siftDown,dif_pos (by omega)]
def Mq{hi first root:Nat}{d:Array Int}(h:2*root+1<hi)(b:2*root+1+1<hi->ltInt d[first+(2*root+1)]! d[first+(2*root+1)+1]! = ae)(a:ltInt d[first+root]! d[first+(2*root+1)]! = ab) :
  siftDown ltInt hi first root d=siftDown ltInt hi first (2*root+1) (swp d (first+root) (first+(2*root+1))):=by
 rw[siftDown.eq_1 ltInt hi first root d,dif_neg (by omega),aY (by grind),aY (by simp[a])]
def Gq{hi first root:Nat}{d:Array Int}(h:2*root+1<hi)(b:2*root+1+1<hi->ltInt d[first+(2*root+1)]! d[first+(2*root+1)+1]! = ae)(a:ltInt d[first+root]! d[first+(2*root+1)]! = ae) :
  siftDown ltInt hi first root d=d:=by
 rw[siftDown.eq_1 ltInt hi first root d,dif_neg (by omega),aY (by grind),bg (by simp[a])]
def SH{hi first root:Nat}{d:Array Int}(h:2*root+1+1<hi)(b:ltInt d[first+(2*root+1)]! d[first+(2*root+1+1)]! = ab)(a:ltInt d[first+root]! d[first+(2*root+1+1)]! = ab) :
  siftDown ltInt hi first root d=siftDown ltInt hi first (2*root+1+1) (swp d (first+root) (first+(2*root+1+1))):=by
 rw[siftDown.eq_1 ltInt hi first root d,dif_neg (by omega),bg (by grind),aY (by grind),dif_pos (by omega)]
def OZ{hi first root:Nat}{d:Array Int}(h:2*root+1+1<hi)(b:ltInt d[first+(2*root+1)]! d[first+(2*root+1+1)]! = ab)(a:ltInt d[first+root]! d[first+(2*root+1+1)]! = ae) :
  siftDown ltInt hi first root d=d:=by
 rw[siftDown.eq_1 ltInt hi first root d,dif_neg (by omega),bg (by grind),bg (by grind)]
def O0(n:Nat)(d:Array Int)(lo hi first:Nat)(m:d.size=n)(q:first+hi<=n)(o:lo<=n)(t:n<=4000000) :
  Ev X 167 [kD n,dI lo,dI hi,dI first] [bI n d] (.eN []) [bI n (siftDown ltInt hi first lo d)]:=by
 have j:bD X [(134,ui)]:=.cons xi .nil;refine Ev.bQ Tryz.func167 rfl λr=>?_
 refine bm rfl av ?_;refine AK.bJ 1 (λs:Nat×Array Int=>s.2.size=n/\s.1<=n/\siftDown ltInt hi first s.1 s.2=siftDown ltInt hi first lo d) (λs=>[(0,kD n),(1,dI lo),(2,dI hi),(3,dI first),(8,dI s.1)]) (λs=>[bI n s.2]) (λs=>hi-s.1) (lo,d) rfl ?_ rfl ?_ rfl ⟨m,o,rfl⟩ ?_
 .simp[ag.cat,ag,aR]
 .simp[ag.cat,ag,aR]
 rintro⟨root,d1⟩ ⟨i,p,a⟩;simp only at i p a
 by_cases h:2*root+1<hi
 .have g:((first:Int)+(2*(root:Int)+1)).toNat=first+(2*root+1):=by omega
  have f:((first:Int)+(2*(root:Int)+1)+1).toNat=first+(2*root+1+1):=by omega
  by_cases k:2*root+1+1<hi
  .by_cases e:ltInt d1[first+(2*root+1)]! d1[first+(2*root+1+1)]! = ab
   .have l:((first:Int)+(2*(root:Int)+1+1)).toNat=first+(2*root+1+1):=by omega
    have c:((first:Int)+(root:Int)).toNat=first+root:=by omega
    by_cases b:ltInt d1[first+root]! d1[first+(2*root+1+1)]! = ab
    .refine aE j [(16,ae),(20,ab),(35,ab),(51,ab)] 200 rfl ?_ (AK.aQ (2*root+1+1,swp d1 (first+root) (first+(2*root+1+1))) rfl ?_ ?_ ?_ ?_)
     .simp only[ag,br,g,f,c,l,e,b,bx,bd,bR,aG,aF];and_intros <;> omega
     .simp only[ag.cat,ag,aG,aF];and_intros <;> omega
     .simp only[ag.cat,ag,br,g,f,c,l,aF,aG];exact hI i (by omega) (by omega) (λ_ _=>rfl)
     .refine⟨by rw[size_swp];exact i,by simp only;omega,?_⟩
      rw[<-a,SH k e b]
     .simp only;omega
    .rw[mc] at b;rw[show siftDown ltInt hi first lo d=d1 by rw[<-a,OZ k e b]]
     refine aE j [(16,ae),(20,ab),(35,ab),(51,ae)] 200 rfl ?_ (AK.ee (bZ.mk [0] rfl av rfl rfl rfl g7));simp only[ag,br,g,f,c,l,e,b,bx,bd,bR,aG,aF];and_intros <;> omega
   .rw[mc] at e;have c:((first:Int)+(root:Int)).toNat=first+root:=by omega
    by_cases b:ltInt d1[first+root]! d1[first+(2*root+1)]! = ab
    .refine aE j [(16,ae),(20,ab),(35,ae),(51,ab)] 200 rfl ?_ (AK.aQ (2*root+1,swp d1 (first+root) (first+(2*root+1))) rfl ?_ ?_ ?_ ?_)
     .simp only[ag,br,g,f,c,e,b,bx,bd,bR,aG,aF];and_intros <;> omega
     .simp only[ag.cat,ag,aG,aF];and_intros <;> omega
     .simp only[ag.cat,ag,br,g,f,c,aF,aG];exact hI i (by omega) (by omega) (λ_ _=>rfl)
     .refine⟨by rw[size_swp];exact i,by simp only;omega,?_⟩
      rw[<-a,Mq h (λ_=>e) b]
     .simp only;omega
    .rw[mc] at b;rw[show siftDown ltInt hi first lo d=d1 by rw[<-a,Gq h (λ_=>e) b]]
     refine aE j [(16,ae),(20,ab),(35,ae),(51,ae)] 200 rfl ?_ (AK.ee (bZ.mk [0] rfl av rfl rfl rfl g7));simp only[ag,br,g,f,c,e,b,bx,bd,bR,aG,aF];and_intros <;> omega
  .have e:True:=av;have c:((first:Int)+(root:Int)).toNat=first+root:=by omega
   by_cases b:ltInt d1[first+root]! d1[first+(2*root+1)]! = ab
   .refine aE j [(16,ae),(20,ae),(51,ab)] 200 rfl ?_ (AK.aQ (2*root+1,swp d1 (first+root) (first+(2*root+1))) rfl ?_ ?_ ?_ ?_)
    .simp only[ag,br,g,f,c,b,bx,bd,bR,aG,aF];and_intros <;> omega
    .simp only[ag.cat,ag,aG,aF];and_intros <;> omega
    .simp only[ag.cat,ag,br,g,f,c,aF,aG];exact hI i (by omega) (by omega) (λ_ _=>rfl)
    .refine⟨by rw[size_swp];exact i,by simp only;omega,?_⟩
     rw[<-a,Mq h (λx=>absurd x k) b]
    .simp only;omega
   .rw[mc] at b;rw[show siftDown ltInt hi first lo d=d1 by rw[<-a,Gq h (λx=>absurd x k) b]]
    refine aE j [(16,ae),(20,ae),(51,ae)] 200 rfl ?_ (AK.ee (bZ.mk [0] rfl av rfl rfl rfl g7));simp only[ag,br,g,f,c,b,bx,bd,bR,aG,aF];and_intros <;> omega
 .refine aX [(16,ab)] 100 rfl (by simp only[ag,bx,bd,aG,aF];and_intros <;> omega) (AK.leaveD rfl rfl ?_)
  rw[<-a,Mp h];exact bZ.s9 [0] rfl av rfl rfl rfl g7
end
section
open Go.Proofs
open Go.Sort (swp order2 median medianAdjacent choosePivot Hint ltInt)
variable {X:Cx ah}
abbrev bN(k:Nat):aW:=.cells 3 [.c (.int .i64 k)]
abbrev Tf:D:=.e (.one (.ptr 1 0))
abbrev tII(a b:Nat):D:=.eN [.one (.c (.int .i64 a)),.one (.c (.int .i64 b))]
def Gr:∀ j,j<2->([0,1]:List Nat)[j]?=aa j:=λj a=>by
 grind
def tC(n:Nat)(d:Array Int)(a b sw:Nat)(k:a<n)(g:b<n)(j:n<=4000000)(f:sw<=1000) :
  Ev X 210 [kD n,dI a,dI b,Tf] [bI n d,bN sw] (tII (order2 ltInt d a b sw).1 (order2 ltInt d a b sw).2.1) [bI n d,bN (order2 ltInt d a b sw).2.2]:=by
 have c:bD X [(134,ui)]:=.cons xi .nil;refine Ev.bQ Tryz.func210 rfl λi=>?_
 by_cases h:ltInt d[b]! d[a]! = ab
 .have e:order2 ltInt d a b sw=(b,a,sw+1):=by simp[order2,h]
  rw[e];refine aE c [(18,ab)] 200 rfl ?_ (AK.dA [0,1] rfl ?_ rfl rfl rfl Gr)
  .simp only[ag,br,bt,h,bx,aG,aF];and_intros <;> omega
  .simp[ag,ag.cat]
 .have e:order2 ltInt d a b sw=(a,b,sw):=by simp[order2,h]
  rw[e];rw[mc] at h;refine aE c [(18,ae)] 200 rfl ?_ (AK.dA [0,1] rfl ?_ rfl rfl rfl Gr)
  .simp only[ag,br,bt,h,bx,aG,aF];and_intros <;> omega
  .simp[ag,ag.cat]
def nD{d:Array Int}{a b sw n:Nat}(e:a<n)(c:b<n):(order2 ltInt d a b sw).1<n/\(order2 ltInt d a b sw).2.1<n/\(order2 ltInt d a b sw).2.2<=sw+1:=by
 unfold order2;split <;> simp only <;> omega
def y5(n:Nat)(d:Array Int)(a b c sw:Nat)(i:a<n)(g:b<n)(h:c<n)(f:n<=4000000)(k:sw<=900) :
  Ev X 171 [kD n,dI a,dI b,dI c,Tf] [bI n d,bN sw] (dI (median ltInt d a b c sw).1) [bI n d,bN (median ltInt d a b c sw).2]:=by
 refine Ev.bQ Tryz.func171 rfl λl=>?_
 have e:=nD (d:=d) (sw:=sw) i g;have j:=nD (d:=d) (sw:=(order2 ltInt d a b sw).2.2) e.2.1 h;refine dE rfl av ?_;refine AK.cQ (tC n d a b sw i g f (by omega)) [0,1] rfl ?_
 refine dE rfl av ?_;refine AK.cQ (tC n d (order2 ltInt d a b sw).2.1 c (order2 ltInt d a b sw).2.2 e.2.1 h f (by omega)) [0,1] rfl ?_
 refine dE rfl av ?_;refine AK.cQ (tC n d (order2 ltInt d a b sw).1 (order2 ltInt d (order2 ltInt d a b sw).2.1 c (order2 ltInt d a b sw).2.2).1 (order2 ltInt d (order2 ltInt d a b sw).2.1 c (order2 ltInt d a b sw).2.2).2.2 e.1 j.1 f (by omega)) [0,1] rfl ?_
 refine dE rfl av (AK.dA [0,1] rfl ?_ rfl rfl rfl Gr);simp[ag,ag.cat,median]
def Io{d:Array Int}{a b c sw n:Nat}(j:a<n)(f:b<n)(h:c<n):(median ltInt d a b c sw).1<n/\(median ltInt d a b c sw).2<=sw+3:=by
 have e:=nD (d:=d) (sw:=sw) j f;have g:=nD (d:=d) (sw:=(order2 ltInt d a b sw).2.2) e.2.1 h;have i:=nD (d:=d) (sw:=(order2 ltInt d (order2 ltInt d a b sw).2.1 c (order2 ltInt d a b sw).2.2).2.2) e.1 g.1;unfold median;exact⟨i.2.1,by simp only;omega⟩
def AY(n:Nat)(d:Array Int)(a sw:Nat)(g:1<=a)(e:a+1<n)(c:n<=4000000)(b:sw<=900) :
  Ev X 170 [kD n,dI a,Tf] [bI n d,bN sw] (dI (medianAdjacent ltInt d a sw).1) [bI n d,bN (medianAdjacent ltInt d a sw).2]:=by
 refine Ev.bQ Tryz.func170 rfl λf=>?_
 obtain⟨a,rfl⟩:∃ a',a=a'+1:=⟨a-1,by omega⟩
 refine dE rfl (by simp only[ag,bx];and_intros <;> omega) ?_
 have key:∀ x y z:Int,x=(a:Int)->y=((a+1:Nat):Int)->z=((a+1+1:Nat):Int)->Ev X 171 [kD n,dI x,dI y,dI z,Tf] [bI n d,bN sw] (dI (median ltInt d a (a+1) (a+1+1) sw).1) [bI n d,bN (median ltInt d a (a+1) (a+1+1) sw).2]:=by
  rintro x y z rfl rfl rfl;exact y5 n d a (a+1) (a+1+1) sw (by omega) (by omega) (by omega) c b
 refine AK.cQ (key (((a+1:Nat):Int)-1) _ (((a+1:Nat):Int)+1) (by omega) rfl (by omega)) [0,1] rfl ?_
 refine dE rfl av (AK.dA [0,1] rfl ?_ rfl rfl rfl Gr);simp[ag,ag.cat,medianAdjacent]
end
end Go.AM.R1
namespace Go.AM
section
open Go.Conc (G)
section
variable {P:aq}{X:Cx P}{N:Nat}{Qf:Post}{φ:Fr}{σ:List aW}
def AK.XY{c:Code}{K:List It}{a:Fr}{σ':List aW}(k:AK X N Qf (.code c::K) .normal a σ'){ps qs:List Prop}(h1:qA φ a=aa ps)(b:ag ps)(h2:sX σ σ'=aa qs)(d:ag qs):AK X N Qf (.code c::K) .normal φ σ :=
 AK.norm σ' h2 d (AW.le k (dC h1 b))
def tL:List It->List It
 |.blk _::K=>tL K
 |K=>K
def AK.tL:∀ {K:List It},AK X N Qf (tL K) .normal φ σ->AK X N Qf K .normal φ σ
 |[],h=>h
 |.blk _::K,h=>AK.tL (K:=K) h
 |.code _::_,h=>h
 |.ops _ _::_,h=>h
def AK.kM{S S2:Type}{c c2:Code}(id:Nat){K e i:List It}(h2:kL id K=aa e)(k:Go.AM.tL e=.code c2::i)(O:S2->Prop)(m6:S2->Fr)(a:S2->List aW)(n:Nat)(I:S->Prop)(fr:S->Fr)(st:S->List aW)(h:S->Nat)(x:S)
  {ps qs:List Prop} (g:qA φ (fr x)=aa ps) (f:ag ps) (b:sX σ (st x)=aa qs) (d:ag qs) (hn:σ.length=n) (j:I x)
  (round:(∀ (y:S2) {φ:Fr} {σ:List aW} {ps qs:List Prop},O y->qA φ (m6 y)=aa ps->ag ps->sX σ (a y)=aa qs->ag qs->AK X N Qf e .normal φ σ) ->
   ∀ x,I x->AK X N (lU X N Qf K I fr st h n x) [.code c] .normal (fr x) (st x))
  (after:∀ y,O y->AK X N Qf (.code c2::i) .normal (m6 y) (a y)):AK X N Qf (.code (.loop c)::K) .normal φ σ :=
 AK.bJ n I fr st h x g f b d hn j (round λy _ _ _ _ l h1 f h2 d=>AK.tL (by rw[k];exact(after y l).XY h1 f h2 d))
end
end
end Go.AM
namespace Go.AM.R1
section
open Go.Proofs
open Go.Sort (swp order2 median medianAdjacent choosePivot Hint ltInt)
variable {X:Cx ah}
def nC:Hint->Int|.unknown=>0|.increasing=>1|.decreasing=>2
def xl(n:Nat)(d:Array Int){a b c:Nat}(sw:Nat)(l:a<n)(g:b<n)(k:c<n)(j:n<=4000000)(e:sw<=900){x y z:Int}(h:x=a)(i:y=b)(f:z=c) :
  Ev X 171 [kD n,dI x,dI y,dI z,Tf] [bI n d,bN sw] (dI (median ltInt d a b c sw).1) [bI n d,bN (median ltInt d a b c sw).2]:=by
 subst h i f;exact y5 n d a b c sw l g k j e
def mY(n:Nat)(d:Array Int){a:Nat}(sw:Nat)(g:1<=a)(e:a+1<n)(f:n<=4000000)(b:sw<=900){x:Int}(c:x=a) :
  Ev X 170 [kD n,dI x,Tf] [bI n d,bN sw] (dI (medianAdjacent ltInt d a sw).1) [bI n d,bN (medianAdjacent ltInt d a sw).2]:=by
 subst c;exact AY n d a sw g e f b
def om{d:Array Int}{a sw n:Nat}(c:1<=a)(b:a+1<n):(medianAdjacent ltInt d a sw).1<n/\(medianAdjacent ltInt d a sw).2<=sw+3 :=
 Io (by omega) (by omega) (by omega)
abbrev px(k:Nat):Hint:=if k=0 then .increasing else if k=12 then .decreasing else .unknown
def Mr{d:Array Int}{a l:Nat}(c:8<=l)(b:l<50):choosePivot ltInt d a (a+l)=((median ltInt d (a+l / 4*1) (a+l / 4*2) (a+l / 4*3) 0).1,px (median ltInt d (a+l / 4*1) (a+l / 4*2) (a+l / 4*3) 0).2):=by
 unfold choosePivot
 grind
abbrev mA(d:Array Int)(a l:Nat):=medianAdjacent ltInt d (a+l / 4*1) 0
abbrev mB(d:Array Int)(a l:Nat):=medianAdjacent ltInt d (a+l / 4*2) (mA d a l).2
abbrev mC(d:Array Int)(a l:Nat):=medianAdjacent ltInt d (a+l / 4*3) (mB d a l).2
def Ms{d:Array Int}{a l:Nat}(b:50<=l):choosePivot ltInt d a (a+l)=((median ltInt d (mA d a l).1 (mB d a l).1 (mC d a l).1 (mC d a l).2).1,px (median ltInt d (mA d a l).1 (mB d a l).1 (mC d a l).1 (mC d a l).2).2):=by
 unfold choosePivot
 grind
def Il(n:Nat)(d:Array Int)(a b:Nat)(j:a<=b)(k:b<=n)(i:8<=b-a)(g:n<=4000000) :
  Ev X 131 [kD n,dI a,dI b] [bI n d] (.eN [.one (.c (.int .i64 (choosePivot ltInt d a b).1)),.one (.c (.int .i64 (nC (choosePivot ltInt d a b).2)))]) [bI n d]:=by
 refine Ev.bQ Tryz.func131 rfl λm=>?_
 obtain⟨l,rfl⟩:∃ l,b=a+l:=⟨b-a,by omega⟩
 rw[uJ] at i
 by_cases h:l<50
 .refine aX [(32,ab),(34,ae)] 200 rfl ?_ ?_
  .simp only[ag,bx,bd,bR,aG,aF];and_intros <;> omega
  refine AK.cQ (xl n d (a:=a+l / 4*1) (b:=a+l / 4*2) (c:=a+l / 4*3) 0 (by omega) (by omega) (by omega) g (by omega) (by omega) (by omega) (by omega)) [0,1] rfl ?_
  rw[Mr i h];generalize median ltInt d (a+l / 4*1) (a+l / 4*2) (a+l / 4*3) 0=r
  by_cases e:r.2=0
  .refine aX [(52,ab)] 200 rfl (by simp[ag,e]) (AK.dA [0] rfl ?_ rfl rfl rfl g7)
   simp[ag,ag.cat,e,nC,px]
  by_cases f:r.2=12
  .refine aX [(52,ae),(55,ab)] 200 rfl (by simp[ag,f]) (AK.dA [0] rfl ?_ rfl rfl rfl g7)
   simp[ag,ag.cat,f,nC,px]
  .refine aX [(52,ae),(55,ae)] 200 rfl (by simp[ag,e];omega) (AK.dA [0] rfl ?_ rfl rfl rfl g7)
   simp[ag,ag.cat,e,f,nC,px]
 .refine aX [(32,ab),(34,ab)] 200 rfl ?_ ?_
  .simp only[ag,bx,bd,bR,aG,aF];and_intros <;> omega
  have o:(mA d a l).1<n/\(mA d a l).2<=0+3:=om (d:=d) (a:=a+l / 4*1) (sw:=0) (n:=n) (by omega) (by omega)
  have q:(mB d a l).1<n/\(mB d a l).2<=(mA d a l).2+3:=om (d:=d) (a:=a+l / 4*2) (sw:=(mA d a l).2) (n:=n) (by omega) (by omega)
  have p:(mC d a l).1<n/\(mC d a l).2<=(mB d a l).2+3:=om (d:=d) (a:=a+l / 4*3) (sw:=(mB d a l).2) (n:=n) (by omega) (by omega)
  refine AK.cQ (mY n d (a:=a+l / 4*1) 0 (by omega) (by omega) g (by omega) (by omega)) [0,1] rfl ?_
  refine dE rfl av ?_;refine AK.cQ (mY n d (a:=a+l / 4*2) (mA d a l).2 (by omega) (by omega) g (by omega) (by omega)) [0,1] rfl ?_
  refine dE rfl av ?_;refine AK.cQ (mY n d (a:=a+l / 4*3) (mB d a l).2 (by omega) (by omega) g (by omega) (by omega)) [0,1] rfl ?_
  refine dE rfl av ?_;refine AK.cQ (xl n d (a:=(mA d a l).1) (b:=(mB d a l).1) (c:=(mC d a l).1) (mC d a l).2 (by omega) (by omega) (by omega) g (by omega) rfl rfl rfl) [0,1] rfl ?_
  rw[Ms (by omega)]
  generalize median ltInt d (mA d a l).1 (mB d a l).1 (mC d a l).1 (mC d a l).2=r
  by_cases e:r.2=0
  .refine aX [(52,ab)] 200 rfl (by simp[ag,e]) (AK.dA [0] rfl ?_ rfl rfl rfl g7)
   simp[ag,ag.cat,e,nC,px]
  by_cases f:r.2=12
  .refine aX [(52,ae),(55,ab)] 200 rfl (by simp[ag,f]) (AK.dA [0] rfl ?_ rfl rfl rfl g7)
   simp[ag,ag.cat,f,nC,px]
  .refine aX [(52,ae),(55,ae)] 200 rfl (by simp[ag,e];omega) (AK.dA [0] rfl ?_ rfl rfl rfl g7)
   simp[ag,ag.cat,e,f,nC,px]
end
section
open Go.Proofs
open Go.Sort (swp reverseLoop reverseRange siftDown heapBuild heapPop heapSort ltInt)
variable {X:Cx ah}
def SG(n:Nat)(d:Array Int)(a b:Nat)(k:d.size=n)(l:1<=b)(q:a<=n)(m:b<=n)(p:n<=4000000):Ev X 132 [kD n,dI a,dI b] [bI n d] (.eN []) [bI n (reverseRange d a b)]:=by
 refine Ev.bQ Tryz.func132 rfl λo=>?_
 refine bm rfl (by simp[ag,bx];omega) ?_
 refine AK.bJ 1 (λs:Nat×Nat×Array Int=>s.2.2.size=n/\s.1<=n/\s.2.1<n+1/\s.2.1<n/\reverseLoop s.1 s.2.1 s.2.2=reverseRange d a b) (λs=>[(0,kD n),(6,dI s.1),(7,dI s.2.1)]) (λs=>[bI n s.2.2]) (λs=>s.2.1-s.1) (a,b-1,d) rfl ?_ rfl ?_ rfl ⟨k,by simp only;omega,by simp only;omega,by simp only;omega,rfl⟩ ?_
 .simp[ag.cat,ag];omega
 .simp[ag.cat,ag,aR]
 rintro⟨i,j,d1⟩ ⟨f,hi,_,g,c⟩;simp only at f hi g c
 by_cases h:i<j
 .refine aX [(13,ab)] 200 rfl ?_ (AK.aQ (i+1,j-1,swp d1 i j) rfl ?_ ?_ ?_ ?_)
  .simp only[ag,br,bt,bx,bd,aG,aF];and_intros <;> omega
  .simp only[ag.cat,ag,aG,aF];and_intros <;> omega
  .simp only[ag.cat,ag,br,bt,aF,aG];exact hI f (by omega) (by omega) (λ_ _=>rfl)
  .refine⟨by rw[size_swp];exact f,by simp only;omega,by simp only;omega,by simp only;omega,?_⟩
   rw[<-c,reverseLoop.eq_1 i j d1,bg h]
  .simp only;omega
 .have e:reverseRange d a b=d1:=by rw[<-c,reverseLoop,aY h]
  rw[e];refine aX [(13,ae)] 100 rfl (by simp[ag];omega) (AK.leaveD rfl rfl ?_)
  exact bZ.s9 [0] rfl av rfl rfl rfl g7
def C4(n:Nat)(d:Array Int){lo hi first:Nat}(e:d.size=n)(b:first+hi<=n)(h:lo<=n)(g:n<=4000000){x y z:Int}(c:x=lo)(f:y=hi)(a:z=first) :
  Ev X 167 [kD n,dI x,dI y,dI z] [bI n d] (.eN []) [bI n (siftDown ltInt hi first lo d)]:=by
 subst c f a;exact O0 n d lo hi first e b h g
def y6(hi first:Nat):∀ (m root:Nat)(d:Array Int),hi-root<=m->(siftDown ltInt hi first root d).size=d.size:=by
 intro m
 induction m with
 |zero=>intro root d h;rw[siftDown,dif_pos (by omega)]
 |succ m a =>
  intro root d h;rw[siftDown];split
  .rfl
  split
  .split
   .rfl
   split
   .rw[a _ _ (by omega),size_swp]
   .rfl
  .split
   .rfl
   .rw[a _ _ (by omega),size_swp]
def OX(n:Nat)(d:Array Int)(a b:Nat)(t:d.size=n)(q:a<=b)(p:1<=b-a)(r:b<=n)(o:n<=4000000):Ev X 129 [kD n,dI a,dI b] [bI n d] (.eN []) [bI n (heapSort ltInt d a b)]:=by
 refine Ev.bQ Tryz.func129 rfl λu=>?_
 obtain⟨l,rfl⟩:∃ l,b=a+l:=⟨b-a,by omega⟩
 rw[uJ] at p;refine dE rfl (by simp only[ag,bx,aG,aF];and_intros <;> omega) ?_
 refine AK.kM (S2:=Array Int) 0 rfl rfl (λd2=>d2.size=n/\d2=heapBuild ltInt l a ((l-1) / 2+1) d) (λ_=>[(0,kD n),(6,dI a),(7,dI 0),(8,dI l)]) (λd2=>[bI n d2]) 1 (λs:Nat×Array Int=>s.2.size=n/\s.1<=(l-1) / 2+1/\heapBuild ltInt l a s.1 s.2=heapBuild ltInt l a ((l-1) / 2+1) d) (λs=>[(0,kD n),(6,dI a),(7,dI 0),(8,dI l),(9,dI ((s.1:Int)-1))]) (λs=>[bI n s.2]) (λs=>s.1) ((l-1) / 2+1,d) rfl ?_ rfl ?_ rfl ⟨t,bc _,rfl⟩ ?_ ?_
 .simp[ag.cat,ag];omega
 .simp[ag.cat,ag,aR]
 .rintro out ⟨k,d1⟩ ⟨e,i,c⟩;simp only at e i c;cases k with
  |zero =>
   refine aX [(19,ae)] 100 rfl (by simp[ag]) (AK.leaveD rfl rfl ?_)
   exact out d1 ⟨e,c⟩ rfl (by simp[ag,ag.cat]) rfl (by simp[ag,ag.cat,aR])
  |succ k =>
   refine aX [(19,ab)] 100 rfl (by simp only[ag,bd];omega) ?_
   refine AK.cQ (C4 n d1 (lo:=k) (hi:=l) (first:=a) e r (by omega) o (by omega) rfl rfl) [0] rfl ?_
   refine dE rfl ?_ (AK.aQ (k,siftDown ltInt l a k d1) rfl ?_ ?_ ?_ ?_)
   .simp only[ag,bx];omega
   .simp only[ag.cat,ag,aG,aF];omega
   .simp[ag.cat,ag,aR]
   .exact⟨by rw[y6 _ _ _ _ _ (bc _)];exact e,by simp only;omega,c⟩
   .simp
 rintro g ⟨j,h⟩;refine dE rfl (by simp only[ag,bx];omega) ?_
 have f:heapSort ltInt d a (a+l)=heapPop ltInt a l g:=by
  unfold heapSort;rw[uJ,<-h]
 rw[f];refine AK.bJ 1 (λs:Nat×Array Int=>s.2.size=n/\s.1<=l/\heapPop ltInt a s.1 s.2=heapPop ltInt a l g) (λs=>[(0,kD n),(6,dI a),(7,dI 0),(8,dI l),(10,dI ((s.1:Int)-1))]) (λs=>[bI n s.2]) (λs=>s.1) (l,g) rfl ?_ rfl ?_ rfl ⟨j,bc _,rfl⟩ ?_
 .simp[ag.cat,ag]
 .simp[ag.cat,ag,aR]
 rintro⟨k,d1⟩ ⟨e,i,c⟩;simp only at e i c;cases k with
 |zero =>
  rw[<-c];refine aX [(30,ae)] 100 rfl (by simp[ag]) (AK.leaveD rfl rfl ?_)
  exact bZ.s9 [0] rfl av rfl rfl rfl g7
 |succ k =>
  have m:((a:Int)+(((k+1:Nat):Int)-1)).toNat=a+k:=by omega
  refine aX [(30,ab),(1000011,ab)] 200 rfl ?_ ?_
  .simp only[ag,br,bt,m,bx,bd,aG,aF];and_intros <;> omega
  refine AK.norm [bI n (swp d1 a (a+k))] rfl ?_ ?_
  .simp only[ag.cat,ag,br,bt,m,aF,aG];exact hI e (by omega) (by omega) (λ_ _=>rfl)
  refine dE rfl av ?_;refine AK.cQ (C4 n (swp d1 a (a+k)) (lo:=0) (hi:=k) (first:=a) (by rw[size_swp];exact e) (by omega) (by omega) o rfl (by omega) rfl) [0] rfl ?_
  refine dE rfl ?_ (AK.aQ (k,siftDown ltInt k a 0 (swp d1 a (a+k))) rfl ?_ ?_ ?_ ?_)
  .simp only[ag,bx];omega
  .simp only[ag.cat,ag,aG,aF];omega
  .simp[ag.cat,ag,aR]
  .exact⟨by rw[y6 _ _ _ _ _ (bc _),size_swp];exact e,by simp only;omega,c⟩
  .simp
end
end Go.AM.R1
