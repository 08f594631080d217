/- Part 2. No condition. -/
import Derived.Test.YtonljemllpgcbaaGreatDoorA1
import Derived.KernelRfl
import Derived.Test.YtonljemllpgcbaaGreatDoorProg
import Derived.MapKept
import Derived.Maps.RangeRun
import Derived.Laws.MakeOwn
import Derived.Lib.SliceRun
import Derived.Lib.FrozenHead
import Derived.Lib.UnsafeStr
import Derived.Lib.MakeNoZero
set_option linter.all false
set_option maxHeartbeats 8000000
open Go.Proofs
open Go.Proofs.Tryz
open Go.Conc (G)
open List renaming length → c, range → az, getD_eq_getElem?_getD → aj, all_eq_true → aX
open Go renaming Value → X, TypeId → al, Event → aR, undef → I, World → ar, Frame → aG, FuncId → a1, execOp → ab, Operand → ae, Program → aE, Goroutine → ai, stepG → aq, Oper → ao
open Option renaming some → f, none → n
open Bool renaming true → l, false → v
open Nat renaming beq → ad, ble → ay
open Go.Region renaming wanted → aS, ready → aP
open Go.World renaming cell? → aJ
open Go.Op renaming bytesLess → aT, equalIn → aN
open Go.Sem renaming events_bind → aD
open Go.Result renaming evThen_ok → aF
open Go.Instr renaming sliceBounds → aV
open Go.Proofs.Tryz renaming prog → V
namespace Go.AM
variable {j z:Nat}{h:Int}{d i e t:Nat}{W:al}{H:X->(Nat->Option Obj)->Prop}{L:Array Bool}{bz:Mem}{E:Nat}{P:aE}{br:ai->a6->Prop}{r:Code}{B:ai}{q:ao}{b:a6}{o:al}{aa:X}{α:Type}{η:ae->x}{ι:Type}{k:m ap}{F:bJ}{all:m ao}{ds:Array al}{cap:m K}{cQ:m x}{k5:Nat->Option Obj}{ag:m aG}{bf:m (Nat×Bool)}{U:Nat->m K}{cP:ae}{gs:Array ai}{aU:m Nat}{cl:m Prop}{off:Nat}{op:BinOp}{aM:Array ao}{Y:m Prop}{bq:m ao}{aB:a6}{ty:al}{val:Nat->Nat->X}{y:m X}{bg:ar}{af:Array ae}{an dh:m ap}{res:ι->x}{aQ:ι->m ap}
section force
variable {S:Type}
def u9:K->(K->Option S)->Option S
 |.int g h,a=>a (.int g h)
 |.bool e,a=>a (.bool e)
 |.V m,a=>a (.V m)
 |.A l g h d,a=>a (.A l g h d)
 |.A v g h d,a=>a (.A v g h d)
 |.O b,a=>eX b λb=>a (.O b)
 |.cD o b,a=>eX b λb=>a (.cD o b)
 |.fn k i e,a=>eX i λi=>eX e λe=>a (.fn k i e)
 |j,a=>a j
def Ys(r)(b:K->Option S):u9 r b=b r:=by
 cases r with
 |A d=>cases d<;>rfl
 |O a=>simp[u9,hF]
 |cD d a=>simp[u9,hF]
 |fn h e g=>simp[u9,hF]
 |_=>rfl
def u7:O->(O->Option S)->Option S
 |.c j,a=>u9 j λj=>a (.c j)
 |.ptr b i,a=>a (.ptr b i)
 |.w b d h e,a=>a (.w b d h e)
 |.aV b,a=>a (.aV b)
 |.N b (.A g d i h),a=>a (.N b (.A g d i h))
 |.N b (.bt g d m k),a=>a (.N b (.bt g d m k))
 |.any,a=>a .any
def Jv(a)(b:O->Option S):u7 a b=b a:=by
 cases a with
 |N e d=>cases d<;>simp[u7]
 |_=>simp[u7,Ys]
def yd:m O->(m O->Option S)->Option S
 |[],b=>b []
 |a::d,b=>u7 a λa=>yd d λd=>b (a::d)
def Yr(d)(a:m O->Option S):yd d a=a d:=by
 induction d generalizing a with
 |nil=>rfl
 |cons e g b=>simp[yd,Jv,b]
def yf:E1->(E1->Option S)->Option S
 |.R b,d=>u7 b λb=>d (.R b)
 |.agg a,d=>yd a λa=>d (.agg a)
def Jw(a)(b:E1->Option S):yf a b=b a:=by cases a<;>simp[yf,Jv,Yr]
def yg:m E1->(m E1->Option S)->Option S
 |[],b=>b []
 |a::d,b=>yf a λa=>yg d λd=>b (a::d)
def Yt(d)(a:m E1->Option S):yg d a=a d:=by
 induction d generalizing a with
 |nil=>rfl
 |cons e g b=>simp[yg,Jw,b]
def o8:x->(x->Option S)->Option S
 |.n d,b=>yf d λd=>b (.n d)
 |.Q a,b=>yg a λa=>b (.Q a)
 |.any,b=>b .any
theorem u_(a)(b:x->Option S):o8 a b=b a:=by cases a<;>simp[o8,Jw,Yt]
end force
def qH:x->Option (Bool×Nat×Nat×(Nat->m K))
 |.n (.R (.c (.A e b d a)))=>f (e,b,d,a)
 |.n (.R (.w _ b d a))=>f (v,b,d,a)
 |_=>n
theorem tD{d}{o}{h}(a:qH d=f (o,h,j,U))(k)(b)(aa)(e:bv k b aa d):Rd b.C aa (.A o h j U):=by
 unfold qH at a;split at a
 .cases a;exact e
 .cases a;exact e.1
 grind
def kG(b:m UInt8)(a:Int):UInt8:=b.getD a.toNat 0
def C6(b:m (Nat×cm))(h:al)(a:x):Option x:=
 match bW b h with
 |none=>n
 |some d=>match d.desc with
  |.slice _=>match qH a with
   |some (_,_,e,_)=>f (ax (.int .i64 e))
   |none=>n
  |.string=>match a with
   |.n (.R (.c (.V g)))=>f (ax (.int .i64 (c g)))
   |_=>n
  |_=>n
def BP(e:m (Nat×cm))(b dst:al)(d:x):Option (x×m Prop):=
 match bW e b with
 |none=>n
 |some h=>match bW e dst with
  |none=>n
  |some i=>match i.desc with
   |.int a=>match d with
    |.n (.R (.c (.int _ k)))=>f (ax (.int a k),[a8 a k])
    |_=>n
   |.string=>match d with
    |.n (.R (.c (.V s)))=>f (ax (.V s),[])
    |d=>match h.desc with
     |.slice o=>match bW e o with
      |some j=>match j.desc with
       |.int .u8=>match qH d with
        |some (_,p,q,g)=>match ad p 1 with
         |true=>match uM g 0 q with
          |some r=>f (ax (.V r),[])
          |none=>n
         |false=>n
        |none=>n
       |_=>n
      |none=>n
     |_=>n
   |_=>n
def D7(j:m (Nat×cm))(a:ae->x)(t:al)(p:ae)(i h:Option ae):Option (x×m Prop):=
 match bW j t with
 |none=>n
 |some r=>match kF a i with
  |none=>n
  |some d=>match kF a h with
   |none=>n
   |some e=>match r.desc with
    |.string=>match a p with
     |.n (.R (.c (.V o)))=>f (ax (.V (mo o d e)),ji (c o) d e)
     |_=>n
    |.slice q=>match bW j q with
     |none=>n
     |some b=>match qH (a p)with
      |some (eN,s,k,g)=>match ad s b.size with
       |true=>f (ax (.A (xF eN e) b.size (bU k e-bU 0 d) (fs (bU 0 d) g)),ji k d e)
       |false=>n
      |none=>n
    |_=>n
def sE(d:BinOp)(e:IntKind)(g:Int)(b:IntKind)(h:Int):Option (x×m Prop):=
 match uH d e g b h with
 |some (i,a)=>f (ax (.int e i),a)
 |none=>n
theorem Ss{h a}{b i}{e}(g:sE op h b a i=f (e,cl)):∃d,e=ax (.int h d)/\uH op h b a i=f (d,cl):=by unfold sE at g;grind
def Gr(q:m (Nat×cm))(e:BinOp)(r:al)(t u:x):Option (x×m Prop):=
 match t,u with
 |.n (.R (.c (.bool b))),.n (.R (.c (.bool a)))=>match bW q r with
  |some p=>match p.desc with
   |.bool=>match h_ e (b==a)with
    |some g=>f (ax (.bool g),[])
    |none=>n
   |_=>n
  |none=>n
 |.n (.R (.c b)),.n (.R (.c a))=>match e with
  |.xor=>match b,a with
   |.int .i64 b,.int .i64 a=>f (ax (.int .i64 ((b.toNat ^^^ a.toNat:Nat):Int)),[0<=b,0<=a])
   |.int .u64 b,.int d a=>sE .xor .u64 b d a
   |_,_=>n
  |.shl=>match b,a with
   |.int h b,.int d a=>sE .shl h b d a
   |_,_=>n
  |.shr=>match b,a with
   |.int h b,.int d a=>sE .shr h b d a
   |_,_=>n
  |.and=>match b,a with
   |.int h b,.int d a=>sE .and h b d a
   |_,_=>n
  |_=>match xc e b a with
   |some (g,i)=>f (ax g,i)
   |none=>n
 |.n (.agg j),.n (.agg o)=>match bW q r with
  |some p=>match p.eq with
   |[]=>n
   |s::k=>match qd (s::k) j o with
    |some a=>match h_ e a with
     |some g=>f (ax (.bool g),[])
     |none=>n
    |none=>n
  |none=>n
 |_,_=>n
def yM(g:m (Nat×cm))(A:m (Nat×bK))(b:bJ)(O:ao):Option (x×m Prop):=
 match O.op with
 |.move a|.assign a=>f (bD b a,[])
 |.index d a y=>match bW g d with
  |some k=>match k.desc with
   |.string=>match bD b a,bD b y with
    |.n (.R (.c (.V r))),.n (.R (.c (.int _ i)))=>f (ax (.int .u8 (kG r i).toNat),[0<=i,i<c r])
    |_,_=>n
   |_=>n
  |none=>n
 |.indexAddr d a y=>match bW g d with
  |some k=>match k.desc with
   |.slice M=>match bW g M with
    |some I=>match qH (bD b a),bD b y with
     |some (_,o,z,p),.n (.R (.c (.int _ i)))=>match ad o I.size with
      |true=>f (ax (.O (p i.toNat)),[0<=i,i<z])
      |false=>n
     |_,_=>n
    |none=>n
   |_=>n
  |none=>n
 |.slice d a J F n=>D7 g (bD b) d a J F
 |.convert w dst a=>BP g w dst (bD b a)
 |.call h=>match h.callee with
  |.builtin .len=>match h.args.toList,h.argTypes[0]? with
   |[a],f d=>match C6 g d (bD b a)with
    |some N=>f (N,[])
    |none=>n
   |_,_=>n
  |.value E=>BA A b E h.args.toList
  |_=>n
 |.pick h s t=>match bD b h with
  |.n (.R (.c (.bool l)))=>f (bD b s,[])
  |.n (.R (.c (.bool v)))=>f (bD b t,[])
  |_=>n
 |.binOp q d a y _=>Gr g q d (bD b a) (bD b y)
 |.unOp q _ a=>match bD b a with
  |.n (.R (.c s))=>match zy q s with
   |some h=>f (ax h,[])
   |none=>n
  |_=>n
 |.extract a i=>match bD b a with
  |.Q K=>match c' i K with
   |some u=>f (.n u,[])
   |none=>n
  |_=>n
 |.fieldAddr d a D=>match lb g d D with
  |some (o,_)=>match bD b a with
   |.n (.R (.ptr r j))=>f (aI r (j+o),[])
   |.n (.R (.c (.O e)))=>f (ax (.O (f_ o e)),[])
   |_=>n
  |none=>n
 |.field d a D=>match lb g d D with
  |some (o,i)=>match bD b a with
   |.n (.agg e)=>match hj i (f_ o e)with
    |some u=>f (.n u,[])
    |none=>n
   |_=>n
  |none=>n
 |.nilCheck a=>match bD b a with
  |.n (.R (.ptr r j))=>f (aI r j,[])
  |.n (.R (.c (.O e)))=>f (ax (.O e),[])
  |_=>n
 |.build d parts=>match xg g (bD b) d parts.toList with
  |some e=>f (.n (.agg e),[])
  |none=>n
 |.buildSlice d z parts=>match rP g (bD b) d z parts.toList with
  |some (o,p)=>f (ax (.A l o z λk=>p.getD k []),[])
  |none=>n
 |.makeFunc fn s t=>match rx (bD b) s.toList with
  |some B=>match rx (bD b) t.toList with
   |some C=>f (ax (.fn fn B C),[])
   |none=>n
  |none=>n
 |.makeInterface d a=>match bW g d with
  |some k=>match vl k.desc with
   |false=>match yD d (bD b a)with
    |some h=>f (ax h,[])
    |none=>n
   |true=>n
  |none=>n
 |.typeAssert a _ d l=>match bW g d with
  |some k=>match vl k.desc with
   |false=>match bD b a with
    |.n (.R (.c h))=>match sC d k h with
     |some (u,t)=>f (.Q [u,.R (.c (.bool t))],[])
     |none=>n
    |_=>n
   |true=>n
  |none=>n
 |_=>n
def C_(h:m (Nat×cm))(g:bJ)(i:m ap)(k:al)(o:ae):Option x:=
 match bW h k with
 |some e=>match bD g o with
  |.n (.R (.ptr j b))=>match c' j i with
   |some (.cells _ a)=>match hj e (f_ b a)with
    |some d=>f (.n d)
    |none=>n
   |_=>n
  |.n (.R (.c (.O a)))=>match hj e (a.map O.c)with
   |some d=>f (.n d)
   |none=>n
  |_=>n
 |none=>n
def Ds(k:m (Nat×cm))(b:bJ)(J:ao):Option (x×m Prop):=
 match J.op with
 |.indexAddr j g w=>match bW k j with
  |some a=>match a.desc with
   |.slice q=>match bW k q with
    |some e=>match bD b g,bD b w with
     |.n (.R (.N s (.A r o u h))),.n (.R (.c (.int _ d)))=>match ad o e.size with
      |true=>f (cD s (.bt r e.size (u+d.toNat) 0),[0<=d,d<h])
      |false=>n
     |.n (.R (.c (.val (.slice (f ⟨z,i,n⟩) p _)))),.n (.R (.c (.int _ d)))=>f (ax (.val (.pointer (f ⟨z,i+d.toNat*e.size,n⟩))),[0<=d,d<p])
     |_,_=>n
    |none=>n
   |_=>n
  |none=>n
 |.fieldAddr j g I=>match lb k j I with
  |some (o,_)=>match bD b g with
   |.n (.R (.N s (.bt r y a u)))=>f (cD s (.bt r y a (u+o)),[])
   |.n (.R (.c (.val (.pointer (f ⟨z,i,n⟩)))))=>f (ax (.val (.pointer (f ⟨z,i+o,n⟩))),[])
   |_=>n
  |none=>n
 |.nilCheck g=>match bD b g with
  |.n (.R (.N s (.bt r y a u)))=>f (cD s (.bt r y a u),[])
  |_=>n
 |.slice j g D C n=>match bW k j with
  |none=>n
  |some a=>match kF (bD b) D with
   |none=>n
   |some t=>match kF (bD b) C with
    |none=>n
    |some F=>match a.desc with
     |.slice q=>match bW k q with
      |none=>n
      |some e=>match bD b g with
       |.n (.R (.N s (.A r o u h)))=>match ad o e.size with
        |true=>f (cD s (.A r e.size (u+bU 0 t) (bU h F-bU 0 t)),ji h t F)
        |false=>n
       |_=>n
     |_=>n
 |.slice j g n (f w) (f E)=>match bW k j with
  |none=>n
  |some a=>match a.desc with
   |.slice q=>match bW k q with
    |none=>n
    |some _=>match qH (bD b g),bD b w,bD b E with
     |some (_,o,p,B),.n (.R (.c (.int _ d))),.n (.R (.c (.int _ h)))=>f (ax (.A v o d.toNat B),[0<=d,d<=h,h<=p])
     |_,_,_=>n
   |_=>n
 |.slice j g (f K) (f w) (f E)=>match bW k j with
  |none=>n
  |some a=>match a.desc with
   |.slice q=>match bW k q with
    |none=>n
    |some _=>match bD b g,bD b K,bD b w,bD b E with
     |.n (.R (.N _ (.A _ _ _ p))),.n (.R (.c (.int _ a))),.n (.R (.c (.int _ d))),.n (.R (.c (.int _ h)))=>f (.n (.R .any),[0<=a,a<=d,d<=h,h<=p])
     |_,_,_,_=>n
   |_=>n
 |.call A=>match A.callee with
  |.builtin .len=>match A.args.toList,A.argTypes[0]? with
   |[g],f j=>match bW k j with
    |some a=>match a.desc with
     |.slice _=>match bD b g with
      |.n (.R (.N _ (.A _ _ _ h)))=>f (ax (.int .i64 h),[])
      |.n (.R (.c (.val (.slice _ p _))))=>f (ax (.int .i64 p),[p<=9223372036854775807])
      |_=>n
     |_=>n
    |none=>n
   |_,_=>n
  |_=>n
 |_=>n
def yu(i:m (Nat×cm))(h:bJ)(j:m ap)(s:al)(t:ae):Option (x×m Prop):=
 match bW i s with
 |some b=>match bD h t with
  |.n (.R (.N r (.bt p q e o)))=>match c' r j with
   |some (.p _ d g a)=>match ad d q with
    |true=>match hj b ((f_ o (a e)).map O.c)with
     |some k=>f (.n k,[p=g,e<g])
     |none=>n
    |false=>n
   |_=>n
  |_=>n
 |none=>n
def adG:Nat->m K->Nat->Bool
 |0,a,b=>ad (c a) b
 |_+1,_,_=>v
def Eg(u:m (Nat×cm))(q:bJ)(i:m ap)(w:al)(y z:ae):Option (x×m ap×m Prop):=
 match bW u w with
 |some k=>match bD q y with
  |.n (.R (.N o (.bt s t h r)))=>match c' o i with
   |some (.p p e g d)=>match ad e t with
    |true=>match mm (bD q z)with
     |some new=>match ad (c new) k.size with
      |true=>match h5 new with
       |some b=>match adG r b t with
        |true=>eX (db.cu o (.p p e g (l3 h b d)) i) λa=>f (.any,a,[s=g,h<g])
        |false=>match i4 r b (d h)with
         |some j=>eX (db.cu o (.p p e g (l3 h j d)) i) λa=>f (.any,a,[s=g,h<g])
         |none=>n
       |none=>n
      |false=>n
     |none=>n
    |false=>n
   |_=>n
  |_=>n
 |none=>n
def pg(b:m (Nat×cm))(d:m (Nat×bK))(a:bJ)(g:m ap)(e:ao):Option (x×m Prop):=
 match e.op with
 |.load h i=>match C_ b a g h i with
  |some j=>f (j,[])
  |none=>yu b a g h i
 |_=>match yM b d a e with
  |some k=>f k
  |none=>Ds b a e
def w8(e:m (Nat×cm))(i t2:al):Option (al×cm):=
 match bW e i with
 |none=>n
 |some h=>match bW e t2 with
  |none=>n
  |some g=>match h.desc with
   |.slice b=>match g.desc with
    |.slice d=>match ad d b with
     |false=>n
     |true=>match bW e b with
      |none=>n
      |some a=>match ay 1 a.bytes,ay 1 a.size with
       |true,l=>f (b,a)
       |_,_=>n
    |_=>n
   |_=>n
def uD(h:m (Nat×cm))(e:ae->x)(k:ae)(j t2:al):Option (al×cm×Nat×(Nat->m K)):=
 match w8 h j t2 with
 |none=>n
 |some (g,b)=>match qH (e k)with
  |none=>n
  |some (_,d,i,a)=>match ad d b.size with
   |false=>n
   |true=>f (g,b,i,a)
def AN(t:m (Nat×cm))(s:ae->x)(j:m ap)(y z:ae)(w t2:al):Option (x×m ap×m Prop):=
 match uD t s z w t2 with
 |none=>n
 |some (q,a,i,b)=>match s y with
  |.n (.R (.c (.A l r d g)))=>match ad r a.size with
   |true=>eX (j++[.w q a.size (d+i) (cf d g b)]) λh=>f (.n (.R (.w (c j) a.size (d+i) (cf d g b))),h,[(d+i)*a.bytes<=140737488355328,d=0∨0<i])
   |false=>match ad d 0 with
    |true=>eX (j++[.w q a.size (d+i) (cf d g b)]) λh=>f (.n (.R (.w (c j) a.size (d+i) (cf d g b))),h,[(d+i)*a.bytes<=140737488355328,d=0∨0<i])
    |false=>n
  |.n (.R (.w p r d g))=>match c' p j with
   |some (.w k o e kJ)=>match ad k q,ad r a.size,ad o a.size with
    |true,l,l=>eX (db.cu p (.w q a.size (d+i) (cf d g b)) j) λh=>f (.n (.R (.w p a.size (d+i) (cf d g b))),h,[e=d,kJ=g,(d+i)*a.bytes<=140737488355328])
    |_,_,_=>n
   |_=>n
  |.n (.R (.N p (.A u r 0 d)))=>match c' p j with
   |some (.p k o e kJ)=>match ad k q,ad r a.size,ad o a.size with
    |true,l,l=>eX (db.cu p (.p q a.size (e+i) (cf e kJ b)) j) λh=>f (cD p (.A (e+i) a.size 0 (e+i)),h,[u=e,d=e,(e+i)*a.bytes<=140737488355328])
    |_,_,_=>n
   |_=>n
  |_=>n
def Dv(d:m (Nat×cm))(g:m (Nat×bK))(a:bJ)(b:m ap)(i:ao):Option (x×m ap×m Prop):=
 match i.op with
 |.alloc _|.box _ _=>yL d a b i
 |.store j k o=>match yL d a b i with
  |some p=>f p
  |none=>Eg d a b j k o
 |.call e=>match e.callee with
  |.builtin .append=>match e.args.toList,e.argTypes.toList with
   |[k,o],[j,t2]=>AN d (bD a) b k o j t2
   |_,_=>n
  |.value h=>Bz g a b h e.args.toList
  |_=>n
 |_=>n
def AL(i:m (Nat×cm))(e:ae->x)(k o:ae)(j t2:al):Option (x×m Prop):=
 match uD i e o j t2 with
 |none=>n
 |some (_,b,h,a)=>match e k with
  |.n (.R (.c (.A l p d g)))=>match ad d 0 with
   |true=>f (ax (.A v b.size (d+h) (cf d g a)),[(d+h)*b.bytes<=140737488355328,d=0∨0<h])
   |false=>n
  |_=>n
def Dt(d:m (Nat×cm))(b:bJ)(e:ao):Option (x×m Prop):=
 match e.op with
 |.call a=>match a.callee with
  |.builtin .append=>match a.args.toList,a.argTypes.toList with
   |[h,i],[g,t2]=>AL d (bD b) h i g t2
   |_,_=>n
  |_=>n
 |_=>n
def vr:m (Nat×Bool)->Nat->Option Bool
 |[],_=>n
 |(d,b)::e,a=>match ad d a with|true=>f b|false=>vr e a
def C1(a:m (Nat×Bool)):Option Nat->Bool
 |none=>v
 |some b=>match vr a (2000000+b)with
  |some l=>l
  |_=>v
def Y9(a:m (Nat×Bool)):Option Nat->Bool
 |none=>v
 |some b=>match vr a (3000000+b)with
  |some l=>l
  |_=>v
def AO(s:al)(a:cm)(d:ae->x)(t:m ap)(z A:ae):Option (x×m ap×m Prop):=
 match d z,d A with
 |.n (.R (.N e (.A w y 0 o))),.n (.R (.N r (.A k p u g)))=>match ad r e with
  |false=>n
  |true=>match c' e t with
   |some (.p h q b j)=>match ad h s,ad y a.size,ad p a.size,ad q a.size with
    |true,l,l,l=>eX (db.cu e (.p s a.size b (qA o u g j)) t) λi=>f (cD e (.A b a.size 0 (o+g)),i,[w=b,k=b,o+g<=b,u+g<=b])
    |_,_,_,_=>n
   |_=>n
 |_,_=>n
def AP(s:Bool)(k:m (Nat×cm))(b:ae->x)(h:m ap)(p q:ae)(o t2:al):Option (x×m ap×m Prop):=
 match s with
 |true=>match uD k b q o t2 with
  |none=>n
  |some (g,a,e,d)=>match b p with
   |.n (.R (.c (.A l _ r j)))=>match ad r 0 with
    |true=>eX (h++[.p g a.size (0+e) (cf 0 j d)]) λi=>f (cD (c h) (.A (0+e) a.size 0 (0+e)),i,[(0+e)*a.bytes<=140737488355328])
    |false=>n
   |_=>n
 |false=>match w8 k o t2 with
  |none=>n
  |some (g,a)=>AO g a b h p q
def yN(i:Bool)(d:m (Nat×cm))(b:bJ)(e:m ap)(g:ao):Option (x×m ap×m Prop):=
 match g.op with
 |.call a=>match a.callee with
  |.builtin .append=>match a.args.toList,a.argTypes.toList with
   |[j,k],[h,t2]=>AP i d (bD b) e j k h t2
   |_,_=>n
  |_=>n
 |_=>n
def vC(h:m (Nat×Bool))(e:m (Nat×cm))(b:m (Nat×bK))(d:bJ)(g:m ap)(a:ao):Option (x×m ap×m Prop):=
 match Y9 h a.dst with
 |true=>yN l e d g a
 |false=>match Dv e b d g a with
  |some i=>f i
  |none=>yN v e d g a
def uZ(b:m (Nat×Bool))(g:Option Nat)(d:x)(a:m Prop):Option (x×m Prop):=
 match g with
 |none=>f (d,a)
 |some i=>match vr b i with
  |none=>f (d,a)
  |some e=>match d with
   |.n (.R (.c (.bool h)))=>f (ax (.bool e),gM a [h=e])
   |_=>n
def Td{g}{d e}{b}(a:uZ bf g d cl=f (e,b))(h:T b):e=d/\T cl:=by
 unfold uZ at a;split at a
 .grind
 split at a
 .grind
 split at a
 .cases a;simp_all
 grind
def iA(j:m (Nat×cm))(g:m (Nat×bK))(d:m (Nat×Bool))(h:m ao)(i:bJ)(q:m ap)(e:ao):Option (x×Option (m ap)×m Prop):=
 let go:Option (x×Option (m ap)×m Prop):=match pg j g i q e with
  |some (b,a)=>match uZ d e.dst b a with
   |some (p,r)=>o8 p λp=>f (p,n,r)
   |none=>n
  |none=>match C1 d e.dst with
   |true=>match Dt j i e with
    |some (b,a)=>o8 b λb=>f (b,n,a)
    |none=>n
   |false=>match vC d j g i q e with
    |some (b,k,a)=>o8 b λb=>f (b,f k,a)
    |none=>n
 match e.guard with
 |none=>go
 |some (t,s)=>match yl i h t with
  |some (f o)=>match s,o with
   |true,l=>go
   |false,v=>go
   |_,_=>f (.Q [],n,[])
  |some n=>f (.Q [],n,[])
  |none=>n
section
variable {p:ah P}{ac:m (Nat×cm)}{CT:m (Nat×bK)}
def Gg(aY:bZ P ac){j k:ae}{t2:al}{a4}(g:q.op=.call {callee:=.builtin .append,args:=#[j,k],argTypes:=#[o,t2]})(a:w8 ac o t2=f (W,a4)):j0 P q j k W a4:=by
 unfold w8 at a;split at a
 .cases a
 rename_i i e;split at a
 .cases a
 rename_i h r;split at a
 case h_2=>cases a
 rename_i W s;split at a
 case h_2=>cases a
 rename_i m b;split at a
 .cases a
 rename_i p;have t:=dn p;subst t;split at a
 .cases a
 rename_i a4 d;split at a
 case h_2=>cases a
 rename_i u w;cases a;exact⟨⟨o,t2,i,h,g,aY o i e,s,aY t2 h r,b⟩,aY _ _ d,by exact lH,by exact lH⟩
def AQ(aY:bZ P ac){p h:ae}{t2:al}{a4}{a:Nat->m K}(j:q.op=.call {callee:=.builtin .append,args:=#[p,h],argTypes:=#[o,t2]})(b:uD ac η h o t2=f (W,a4,z,a)):
  j0 P q p h W a4/\∃d,∀i e g,bv i e g (η h)->Rd e.C g (.A d a4.size z a):=by
 unfold uD at b;split at b
 .cases b
 rename_i t;split at b
 .cases b
 rename_i d u z a k;split at b
 .cases b
 rename_i r;have s:=dn r;subst s;cases b;exact⟨Gg aY j t,d,λi e g=>tD k i e g⟩
theorem Sh(aY:bZ P ac)(z:∀k i m,bX E k i F m->aS q (yielded all.toArray m.tmps)=l){u w:ae}{t2:al}{s}(e:q.op=.call {callee:=.builtin .append,args:=#[u,w],argTypes:=#[o,t2]})(a:AL ac (bD F) u w o t2=f (s,cl))(r:T cl):aZ p E all q F k s k:=by
 unfold AL at a;split at a
 .cases a
 rename_i x A I t d;obtain⟨y,C,b⟩:=AQ aY e d;have b:=λi D=>b k i D;split at a
 .rename_i h j U g;split at a
  .rename_i B;cases a;exact(aZ.a1 z (a0.gb y g (.inr (dn B)) b r.1 r.2)).e4
  grind
 grind
theorem Si(aY:bZ P ac){E F:ae}{t2:al}{C}(s:q.op=.call {callee:=.builtin .append,args:=#[E,F],argTypes:=#[o,t2]})(a:AN ac η k E F o t2=f (C,an,cl))(e:T cl):a0 P q η k C an:=by
 unfold AN at a;split at a
 .cases a
 rename_i J M S D r;obtain⟨i,Q,g⟩:=AQ aY s r;have g:=λN R=>g k N R;split at a
 .rename_i h j U b;split at a
  .rename_i b2;rw[hF]at a;cases a;exact a0.gb i b (.inl (dn b2)) g e.1 e.2
  split at a
  .rename_i W;rw[hF]at a;cases a;exact a0.gb i b (.inr (dn W)) g e.1 e.2
  grind
 .rename_i d h j U b;split at a
  .rename_i K I m kJ gQ;split at a
   .rename_i z w A;rw[hF,mM]at a;cases a;obtain⟨t,O,x⟩:m=j/\kJ=U/\_:=e;subst t;subst O;have u:=dn z;subst u;have y:=dn w;have p:=dn A;subst p;subst y;exact a0.ig i b (eo gQ) g x
   grind
  grind
 .rename_i d B h j b;split at a
  .rename_i K I m kJ gQ;split at a
   .rename_i z w A;rw[hF,mM]at a;cases a;obtain⟨t,O,x⟩:B=m/\j=m/\_:=e;subst t;subst O;have u:=dn z;subst u;have y:=dn w;have p:=dn A;subst p;subst y;exact a0.ib i b (eo gQ) g x
   grind
  grind
 grind
theorem Zf(aY:bZ P ac){i:ae}{g}(d:q.op=.call {callee:=.builtin .len,args:=#[i],argTypes:=ds})(p:ds[0]?=f o)(a:C6 ac o (η i)=f g):a0 P q η k g k:=by
 unfold C6 at a;split at a
 .cases a
 rename_i t b;split at a
 .rename_i W m;split at a
  .rename_i eN h j U e;cases a;exact a0.jo aY d p b m (λr s=>tD e k r s)
  grind
 .grind [a0.jq]
 grind
theorem SZ(aY:bZ P ac){b dst:al}{u:ae}{s}(i:q.op=.convert b dst u)(a:BP ac b dst (η u)=f (s,cl))(w:T cl):a0 P q η k s k:=by
 unfold BP at a;split at a
 .cases a
 rename_i D g;split at a
 .cases a
 rename_i E p;split at a
 .rename_i z e;split at a
  .rename_i h t d;cases a;exact a0.iH aY i g p e d w
  grind
 .rename_i e;split at a
  .grind [a0.iJ]
  split at a
  .rename_i W y;split at a
   .rename_i a4 m;split at a
    .rename_i r;split at a
     .rename_i eN h j U o;split at a
      .rename_i b2;have x:=dn b2;subst x;split at a
       .rename_i F B;cases a;exact a0.iF aY i g p y e m r (λA C=>tD o k A C) B
       grind
      grind
     grind
    grind
   grind
  grind
 grind
theorem abB(aY:bZ P ac){d:ae}{e5 bp}{b}(e:q.op=.slice o d e5 bp n)(a:D7 ac η o d e5 bp=f (b,cl))(g:T cl):a0 P q η k b k:=by
 unfold D7 at a;split at a
 .cases a
 rename_i m h;split at a
 .cases a
 rename_i p j;split at a
 .cases a
 rename_i r i;split at a
 .grind [a0.jW]
 .grind [Nat.eq_of_beq_eq_true,a0.jV,tD]
 grind
theorem AR{a:Array α}{b:α}(d:a.toList=[b]):a=#[b]:=Array.ext' d
theorem AS{a:Array α}{b d:α}(e:a.toList=[b,d]):a=#[b,d]:=Array.ext' e
theorem ZW(aY:bZ P ac)(L:ba p CT){I:x}(s:yM ac CT F q=f (I,cl))(m:T cl)(a9:∀k y g,bX E k y F g->aS q (yielded all.toArray g.tmps)=l):aZ p E all q F k I k:=by
 unfold yM at s;split at s
 .grind [aZ.a1,a0.move]
 .grind [aZ.a1,a0.assign]
 .rename_i o X B a;split at s
  .rename_i e bp;split at s
   .rename_i A;split at s
    .rename_i d h t b O;cases s;obtain⟨N,M⟩:0<=t/\t<(c d:Int):=m;have:=a0.jh (k:=k) (z:=t.toNat) aY a bp A b O u u;have J:kG d t=d[t.toNat]'u:=by simp[kG,aj,bI (by omega:t.toNat<c d)]
     grind[aZ.a1]
    grind
   grind
  grind
 .rename_i o X B a;split at s
  .rename_i e bp;split at s
   .rename_i W A;split at s
    .rename_i a4 w;split at s
     .rename_i eN h j U S t b O;split at s
      .rename_i b2;cases s;obtain⟨N,M⟩:0<=t/\t<(j:Int):=m;have J:=dn b2;subst J;exact aZ.a1 a9 (a0.indexAddr (z:=t.toNat) aY a bp A w (λy V=>tD b k y V) O u u)
      grind
     grind
    grind
   grind
  grind
 .grind [aZ.a1,abB]
 .grind [aZ.a1,SZ]
 .rename_i r a;obtain⟨H,args,D⟩:=r;grind[AR,aZ.a1,Zf,aZ.iE]
 .rename_i r g i bi;split at s
  .exact O8
  .exact O8
  grind
 .rename_i op o B Z ty bi;unfold Gr at s;split at s
  .grind [aZ.a1,a0.iz]
  .rename_i g i _ K C;split at s
   .split at s
    .rename_i _ _ Q R _ _;cases s;exact aZ.a1 a9 (a0.kh bi K C m.1 m.2)
    .exact zJ
    grind
   .exact zJ
   .exact zJ
   .exact zJ
   grind[aZ.a1,a0.binOp]
  .rename_i ag U K C;split at s
   .grind [aZ.a1,a0.j7]
   grind
  grind
 .grind [aZ.a1,a0.unOp]
 .grind [aZ.a1,a0.extract,eo]
 .rename_i o B Y bi;split at s
  .rename_i h t G;split at s
   .rename_i d off b;cases s;exact aZ.a1 a9 (a0.g8 aY bi b G)
   .grind [aZ.a1,a0.g_]
   grind
  grind
 .grind [aZ.a1,a0.field]
 .grind [aZ.a1,a0.hD,a0.hF]
 .grind [aZ.a1,a0.build]
 .grind [aZ.a1,a0.buildSlice]
 .grind [aZ.a1,a0.makeFunc]
 .grind [aZ.a1,a0.makeInterface]
 .grind [aZ.a1,a0.typeAssert]
 grind
theorem ZT(aY:bZ P ac){J:x}(a:Ds ac F q=f (J,cl))(p:T cl):a0 P q (bD F) k J k:=by
 unfold Ds at a;split at a
 .rename_i o u N b;split at a
  .rename_i e bp;split at a
   .rename_i W O;split at a
    .rename_i a4 m;split at a
     .rename_i d B h M z C t g y;split at a
      .rename_i b2;cases a;obtain⟨K,w⟩:0<=t/\t<(z:Int):=p;grind[Nat.eq_of_beq_eq_true,a0.jf]
      grind
     .rename_i i off j cap C t g y;cases a;obtain⟨K,w⟩:0<=t/\t<(j:Int):=p;grind[a0.jg]
     grind
    grind
   grind
  grind
 .rename_i o u af b;split at a
  .rename_i h t H;split at a
   .rename_i d B aL e M g;cases a;exact a0.iS aY b g H
   .rename_i i off g;cases a;exact a0.iT aY b g H
   grind
  grind
 .grind [a0.jA]
 .rename_i o u e5 bp b;split at a
  .cases a
  rename_i e D;split at a
  .cases a
  rename_i Y aa;split at a
  .cases a
  grind[Nat.eq_of_beq_eq_true,a0.sliceB]
 .rename_i o u N S b;split at a
  .cases a
  rename_i e D;split at a
  .rename_i W O;split at a
   .cases a
   rename_i a4 m;split at a
   .rename_i eN h j U A t L z g y G;cases a;obtain⟨K,w,E⟩:0<=t/\t<=z/\z<=(j:Int):=p;exact a0.jS aY b D O m (λQ R=>tD g k Q R) y G K w E
   grind
  grind
 .rename_i o u ag N S b;split at a
  .cases a
  rename_i e D;split at a
  .rename_i W O;split at a
   .cases a
   rename_i a4 m;split at a
   .rename_i d B h M j ab e A t L z g Z y G;cases a;obtain⟨K,w,E,X⟩:0<=e/\e<=t/\t<=z/\z<=(j:Int):=p;grind[a0.slice3B]
   grind
  grind
 .rename_i r b;obtain⟨V,args,I⟩:=r;simp only at a;split at a
  .split at a
   .rename_i u o g av;split at a
    .rename_i e bp;split at a
     .rename_i W O;split at a
      .grind [AR,a0.jk]
      .rename_i ae j cap s;cases a;have:=AR g;subst this;exact a0.jr aY b av bp O s p
      grind
     grind
    grind
   grind
  grind
 grind
theorem Zk(aY:bZ P ac){s:ae}(b:q.op=.load o s){m}(a:yu ac F k o s=f (m,cl))(g:T cl):a0 P q (bD F) k m k:=by
 unfold yu at a;split at a
 .rename_i t bp;split at a
  .rename_i d B h e w r;split at a
   .rename_i W u j U aH;split at a
    .rename_i b2;have p:=dn b2;subst p;split at a
     .rename_i p i;cases a;exact a0.e8 aY b r g.1 (eo aH) bp i g.2
     grind
    grind
   grind
  grind
 grind
theorem ab3(aY:bZ P ac){y A:ae}(i:q.op=.store o y A){x}(a:Eg ac F k o y A=f (x,an,cl))(p:T cl):a0 P q (bD F) k x an:=by
 unfold Eg at a;split at a
 .rename_i D bp;split at a
  .rename_i d B h e s r;split at a
   .rename_i W u j U aH;split at a
    .rename_i b2;have C:=dn b2;subst C;split at a
     .rename_i new m;split at a
      .rename_i t;split at a
       .rename_i gN b;split at a
        .rename_i z;rw[hF,mM]at a;cases a;have w:s=0/\c gN=u:=by
          cases s with
          |zero=>exact⟨rfl,dn z⟩
          |succ s=>exact cS
         obtain⟨rfl,w⟩:=w;exact a0.h4 aY i r p.1 (eo aH) bp m (dn t) b (λE=>Mj M) p.2
        split at a
        .rename_i ci g;rw[hF,mM]at a;cases a;exact a0.h4 aY i r p.1 (eo aH) bp m (dn t) b (λ_=>g) p.2
        grind
       grind
      grind
     grind
    grind
   grind
  grind
 grind
theorem ZY(aY:bZ P ac)(h:ba p CT){d}(a:pg ac CT F k q=f (d,cl))(g:T cl)(m:∀k e b,bX E k e F b->aS q (yielded all.toArray b.tmps)=l):aZ p E all q F k d k:=by
 unfold pg at a;split at a
 .rename_i o r j;split at a
  .rename_i B i;cases a;unfold C_ at i;split at i
   .grind [aZ.a1,a0.ho,eo,a0.hp]
   grind
  grind[aZ.a1,Zk]
 grind[ZW,aZ.a1,ZT]
theorem ZU(aY:bZ P ac)(o:ba p CT){d:x}(e:Dv ac CT F k q=f (d,an,cl))(i:T cl)(m:∀k h a,bX E k h F a->aS q (yielded all.toArray a.tmps)=l):aZ p E all q F k d an:=by
 unfold Dv at e;split at e
 .grind [aZ.a1,Du]
 .grind [aZ.a1,Du]
 .grind [aZ.a1,Du,ab3]
 .rename_i r g;obtain⟨j,args,b⟩:=r;grind[AS,aZ.a1,Si,aZ.call]
 grind
def Sj{i m:ae}{a4}{g}(r:j0 P q i m W a4)(a:AO W a4 η k i m=f (g,an,cl))(p:T cl):a0 P q η k g an:=by
 unfold AO at a;split at a
 .rename_i d B h e A x y t z M D;split at a
  .cases a
  rename_i s;have b:=dn s;subst b;split at a
  .rename_i K N j U gQ;split at a
   .rename_i o DK tn DL;have u:=dn o;have J:=dn DK;have w:=dn tn;have E:=dn DL;rw[hF]at a;cases a;obtain⟨O,I,C,F⟩:=p;subst O I u J w E;have:=a0.ic (k:=k) r M D (eo gQ) C F;grind[mM]
   grind
  grind
 grind
theorem Sk(aY:bZ P ac){D}{p r:ae}{t2:al}{i}(b:q.op=.call {callee:=.builtin .append,args:=#[p,r],argTypes:=#[o,t2]})(a:AP D ac η k p r o t2=f (i,an,cl))(g:T cl):a0 P q η k i an:=by
 unfold AP at a;split at a
 .split at a
  .cases a
  rename_i s y E m d;obtain⟨t,A,u⟩:=AQ aY b d;split at a
  .rename_i h j U e;split at a
   .rename_i B;have w:=dn B;subst w;rw[hF]at a;cases a;exact a0.ie t e (λz C=>u _ z C) g
   grind
  grind
 split at a
 .cases a
 rename_i x;exact Sj (Gg aY b x) a g
theorem ZV(aY:bZ P ac)(s:ba p CT){a:x}(b:vC bf ac CT F k q=f (a,an,cl))(j:T cl)(o:∀k i d,bX E k i F d->aS q (yielded all.toArray d.tmps)=l):aZ p E all q F k a an:=by
 have key:∀g,yN g ac F k q=f (a,an,cl)->aZ p E all q F k a an:=by
  intro g b;unfold yN at b;split at b
  .rename_i r h;obtain⟨m,args,e⟩:=r;grind[AS,aZ.a1,Sk]
  grind
 unfold vC at b;grind[ZU]
def ef(aY:bZ P ac)(J:ba p CT){i}{an}(a:iA ac CT bf all F k q=f (i,an,cl))(A:T cl):aZ p E all q F k i (an.getD k):=by
 have go:(∀k g d,bX E k g F d->aS q (yielded all.toArray d.tmps)=l)->(match pg ac CT F k q with
  |some (b,cl)=>match uZ bf q.dst b cl with
   |some (m,y)=>o8 m λm=>f (m,n,y)
   |none=>n
  |none=>match C1 bf q.dst with
   |true=>match Dt ac F q with
    |some (b,cl)=>o8 b λb=>f (b,n,cl)
    |none=>n
   |false=>match vC bf ac CT F k q with
    |some (b,an,cl)=>o8 b λb=>f (b,f an,cl)
    |none=>n)=f (i,an,cl)->aZ p E all q F k i (an.getD k):=by
  intro O a;split at a
  .rename_i b e K;split at a
   .rename_i m z B;rw[u_]at a;cases a;obtain⟨rfl,M⟩:=Td B A;grind[ZY]
   grind
  split at a
  .split at a
   .rename_i b e j;rw[u_]at a;cases a;unfold Dt at j;split at j
    .rename_i r x;obtain⟨I,args,s⟩:=r;grind[AS,Sh]
    grind
   grind
  grind[u_,ZV]
 unfold iA at a;simp only at a;split at a
 .grind [i_]
 rename_i D t u;split at a
 .rename_i w o;have C:∀k g d,bX E k g F d->aS q (yielded all.toArray d.tmps)=(f w==f t):=λk g d h=>by simp only[aS,u,ym o h]
  split at a
  .grind
  .grind
  cases a;refine aZ.hM (λk g d h=>(C k g d h).trans ?_);cases t<;>cases w<;>simp_all
 .rename_i o;cases a;exact aZ.hM (λk g d h=>by simp only[aS,u,ym o h];rfl)
 grind
end
variable {CT:m (Nat×bK)}{av:m im}{bd:fw}{ac:m (Nat×cm)}{a4:cm}
def mC(a:bJ)(b:ao):Bool:=match b.op with
 |.load _ d=>match bD a d with
  |.n (.R (.c (.O _)))=>v
  |_=>l
 |_=>v
def ZX{fe}(d:mC F q=v):pg ac CT F k q=pg ac CT F fe q:=by
 unfold pg;split
 .rename_i o e a;simp[mC,a]at d;split at d
  .rename_i ag b;simp[C_,yu,b]
  grind
 simp
def ZZ{d}(j:mC F q=v)(a:iA ac CT bf all F k q=f (d,n,cl))(fe):
  iA ac CT bf all F fe q=f (d,n,cl):=by
 unfold iA at a⊢;simp only at a⊢;rw[ZX (fe:=k) j];cases i:pg ac CT F k q with
 |some o=>grind
 |none=>
  simp[i]at a⊢;cases h:C1 bf q.dst with
  |true=>grind
  |false=>
   simp[h]at a⊢;have key:∀{g:Option (x×Option (m ap)×m Prop)},(match vC bf ac CT F k q with|some (e,b,cl)=>o8 e λe=>f (e,f b,cl)|none=>n)=g->g≠f (d,n,cl):=by grind[u_]
   split at a
   .grind
   grind
def jL(a:Nat):m ao->Bool
 |[]=>v
 |e::b=>match e.dst with
  |some d=>match ad d a with|true=>l|false=>jL a b
  |none=>jL a b
theorem vd{o}:∀{d:m ao}{e:Nat}{a:ao},d[e]?=f a->a.dst=f o->jL o d=l
 |[],_,_,s,_=>by grind
 |h::g,0,a,s,b=>by simp at s;subst s;simp[jL,b,sz]
 |h::g,e+1,a,s,b=>by have:=vd (d:=g) wz b;simp[jL];grind
theorem CM{o}:∀{b:m ao},jL o b=l->∃(e:Nat)(q:ao),b[e]?=f q/\q.dst=f o
 |[],s=>by cases s
 |d::j,s=>by
  simp[jL]at s;split at s
  .rename_i g r;split at s
   .rename_i h;exact⟨0,d,a,by grind[Nat.eq_of_beq_eq_true]⟩
   exact Q4
  exact Q4
def lk:m ao->Bool
 |[]=>l
 |d::a=>match d.dst with
  |some b=>match jL b a with|true=>v|false=>lk a
  |none=>lk a
theorem Dr{o}:∀{k:m ao}{g h:Nat}{b d:ao},lk k=l->k[g]?=f b->k[h]?=f d->b.dst=f o->d.dst=f o->g=h
 |[],_,_,_,_,_,t,_,_,_=>by grind
 |p::e,0,0,_,_,_,_,_,_,_=>rfl
 |p::e,0,h+1,b,d,a,i,j,d1,d2=>by simp at i;subst i;simp[lk,d1]at a;grind[vd]
 |p::e,g+1,0,b,d,a,i,j,d1,d2=>by simp at j;subst j;simp[lk,d2]at a;grind[vd]
 |p::e,g+1,h+1,b,d,a,i,j,d1,d2=>by
  have:lk e=l:=by simp[lk]at a;grind
  have r:e[g]?=f b:=M;have q:e[h]?=f d:=M;have s:=Dr this r q d1 d2;omega
def mK(a:m ao):bJ->bJ
 |[]=>[]
 |(d,e)::b=>match jL d a with|true=>mK a b|false=>(d,e)::mK a b
def td{all}{o}:∀{b:bJ},look (mK all b) o=if jL o all=l then .any else look b o
 |[]=>by simp[mK,look]
 |(a,i)::j=>by
  simp[mK];by_cases g:ad a o=l
  .have h:=dn g;subst h;cases e:jL a all with
   |true=>simp only;rw[td];grind
   |false=>simp[look]
  have d:ad a o=v:=M;cases e:jL a all with
  |true=>simp only;rw[td];simp[look,d]
  |false=>simp[look,d,cond];rw[td]
def c_:m Edge->m Nat
 |[]=>[]
 |b::a=>match b.ground with
  |.textOnly _=>c_ a
  |.gcOnly _=>c_ a
  |_=>b.on::c_ a
theorem lZ{t}:∀{d:m Edge},t∈c_ d↔∃a∈d,eQ a=l/\a.on=t
 |[]=>by simp[c_]
 |a::b=>by
  have k:=lZ (t:=t) (d:=b);have h:c_ (a::b)=a.on::c_ b->eQ a=l->(t∈c_ (a::b)↔∃e∈a::b,eQ e=l/\e.on=t):=M;have g:c_ (a::b)=c_ b->eQ a=v->(t∈c_ (a::b)↔∃e∈a::b,eQ e=l/\e.on=t):=M;cases i:a.ground with
  |textOnly j=>exact g EJ NO
  |gcOnly j=>exact g EJ NO
  |_=>exact h EJ (by unfold eQ Region.binds;rw[i])
def nn(a b:Nat):m ao->Bool
 |[]=>v
 |e::d=>match e.dst with
  |some g=>match ad g b with
   |true=>match ei a (c_ e.after.toList)with
    |true=>nn a b d
    |false=>l
   |false=>nn a b d
  |none=>nn a b d
def JL{e o}:∀{i:m ao},nn e o i=v->∀(d:Nat)a,i[d]?=f a->a.dst=f o->ei e (c_ a.after.toList)=l
 |[],_,d,a,b,_=>by grind
 |k::j,b,0,a,h,g=>by simp at h;subst h;simp[nn,g,sz]at b;grind
 |k::j,b,d+1,a,h,g=>by
  have:nn e o j=v:=by simp[nn]at b;grind
  exact JL this d a M g
def oo(a:m ao):bJ->m (Nat×x×Bool)
 |[]=>[]
 |(b,d)::e=>match jL b a with
  |true=>(b,d,l)::oo a e
  |false=>(b,d,v)::oo a e
def hg(b:Nat)(a:m ao):m (Nat×x×Bool)->bJ
 |[]=>[]
 |(e,g,h)::d=>match h with
  |false=>(e,g)::hg b a d
  |true=>match nn b e a with
   |true=>hg b a d
   |false=>(e,g)::hg b a d
def Kh{e}{all}{o}:∀{F:bJ},look (hg e all (oo all F)) o=if jL o all=l/\nn e o all=l then .any else look F o
 |[]=>by simp[oo,hg,look]
 |(bx,b)::a=>by
  have h:=Kh (e:=e) (all:=all) (o:=o) (F:=a);have g:look ((bx,b)::hg e all (oo all a)) o=if ad bx o=l then b else look (hg e all (oo all a)) o:=NA;have d:look ((bx,b)::a) o=if ad bx o=l then b else look a o:=NA;cases w:jL bx all with
  |false=>
   simp[oo,w,hg];exact t0
  |true=>
   cases au:nn e bx all with
   |true=>
    exact OB
   |false=>
    exact OB
def fU(d:Nat->Bool):Nat->m (Option Nat×x)->bJ->bJ
 |_,[],a=>a
 |b,(g,i)::e,a=>match d b with
  |true=>match g with
   |some h=>(h,i)::fU d (b+1) e a
   |none=>fU d (b+1) e a
  |false=>fU d (b+1) e a
def vs{z:Nat->Bool}{F}{o}:∀{d:m (Option Nat×x)}{e:Nat},(∃t b,d[t]?=f (f o,b)/\z (e+t)=l/\look (fU z e d F) o=b)∨look (fU z e d F) o=look F o
 |[],e=>.inr rfl
 |(h,b)::g,e=>by
  have u:=vs (z:=z) (F:=F) (o:=o) (d:=g) (e:=e+1);have step:look (fU z e ((h,b)::g) F) o=look (fU z (e+1) g F) o->((∃t i,((h,b)::g)[t]?=f (f o,i)/\z (e+t)=l/\look (fU z e ((h,b)::g) F) o=i)∨look (fU z e ((h,b)::g) F) o=look F o):=by
   intro p;rw[p];rcases u with⟨t,i,q,j,B⟩|y
   .exact .inl ⟨t+1,i,by grind,by grind,B⟩
   grind
  cases k:z e with
  |false=>exact step (by simp[fU,k])
  |true=>
   cases h with
   |none=>exact step (by simp[fU,k])
   |some r=>
    by_cases w:ad r o=l
    .have p:=dn w;subst p;exact .inl ⟨0,b,a,by grind,by simp[fU,k,look]⟩
    have s:ad r o=v:=M;exact step (by simp[fU,k,look,s])
structure kW where
 a8:Nat
 pre:m (Option Nat×x)
 b:m ap
 cb:m (m Bool)
 dA:m Bool
 dD:m Bool
 cy:m Prop
def te(a:Nat):m Nat->Bool
 |[]=>l
 |b::d=>match Nat.blt b a with|true=>te a d|false=>v
def Da{e}:∀{g:m Nat},te e g=l->∀d∈g,d<e
 |[],_,d,b=>by grind
 |i::j,b,d,a=>by
  simp[te]at b;cases h:Nat.blt i e with
  |false=>grind
  |true=>
   simp[h]at b;rcases e8.1 a with rfl|a
   .simp_all
   exact Da b d a
def gx:m Bool->Nat->Bool
 |[],_=>v
 |a::_,0=>a
 |_::d,b+1=>gx d b
def jO:m Bool->m Bool->m Bool
 |[],b=>b
 |true::a,[]=>l::a
 |false::a,[]=>v::a
 |true::a,_::b=>l::jO a b
 |false::a,l::b=>l::jO a b
 |false::a,v::b=>v::jO a b
def p7:∀{a b:m Bool}{d:Nat},gx (jO a b) d=(gx a d||gx b d)
 |[],b,d=>by exact cS
 |true::a,[],d=>by simp[jO,gx]
 |false::a,[],d=>by simp[jO,gx]
 |true::a,e::b,0=>by exact cS
 |true::a,e::b,d+1=>by simp[jO,gx];exact p7
 |false::a,l::b,0=>by exact cS
 |false::a,l::b,d+1=>by simp[jO,gx];exact p7
 |false::a,v::b,0=>by exact cS
 |false::a,v::b,d+1=>by simp[jO,gx];exact p7
def nB:Nat->m Bool
 |0=>[l]
 |a+1=>v::nB a
theorem xd:∀{b a:Nat},gx (nB b) a=decide (b=a)
 |0,0=>rfl
 |0,a+1=>by exact cS
 |b+1,0=>by exact cS
 |b+1,a+1=>by simp only[nB,gx,xd];simp
def lJ(a:m (m Bool)):m Nat->m Bool
 |[]=>[]
 |b::d=>match c' b a with
  |some e=>jO (jO e (nB b)) (lJ a d)
  |none=>jO (nB b) (lJ a d)
theorem BI{i}{t}:∀{k:m Nat},gx (lJ i k) t=l->∃d∈k,d=t∨∃b,i[d]?=f b/\gx b t=l
 |[],a=>by exact cS
 |d::o,a=>by
  simp[lJ,ld]at a;have qO:∀{j:Nat},gx (nB d) j=l->d=j:=by grind[xd]
  have h:gx (lJ i o) t=l->∃g∈d::o,g=t∨∃b,i[g]?=f b/\gx b t=l:=by intro a;obtain⟨g,q,p⟩:=BI a;grind
  split at a
  .rename_i b e;rw[p7,p7,jC,jC]at a;grind
  rw[p7,jC]at a;grind
def pw:m Bool->m Bool->Bool
 |[],_=>l
 |true::a,l::b=>pw a b
 |true::_,_=>v
 |false::a,_::b=>pw a b
 |false::a,[]=>pw a []
theorem tH:∀{b d:m Bool}{t:Nat},pw b d=l->gx b t=l->gx d t=l
 |[],d,t,_,a=>by exact cS
 |true::b,l::d,0,_,_=>rfl
 |true::b,l::d,t+1,e,a=>by simp[gx]at a⊢;exact tH cS a
 |true::b,v::d,t,e,_=>by exact cS
 |true::b,[],t,e,_=>by exact cS
 |false::b,g::d,0,_,a=>by exact cS
 |false::b,g::d,t+1,e,a=>by simp[gx]at a⊢;exact tH cS a
 |false::b,[],0,_,a=>by exact cS
 |false::b,[],t+1,e,a=>by simp[gx]at a;have:=tH (t:=t) (by simpa[pw]using e) a;exact cS
def pv(u:m (Nat×cm))(o:m (Nat×bK))(t:Nat)(q:m (Nat×Bool))(e:m ao)(k:m (Nat×x×Bool))(a:kW)(j:ao):Option kW:=
 match fi t j.dst with
 |false=>n
 |true=>
  eX (c_ j.after.toList) λh=>
  match te a.a8 h with
  |false=>n
  |true=>match iA u o q e (fU (λr=>ei r h) 0 a.pre (hg a.a8 e k)) a.b j with
   |none=>n
   |some (s,i,b)=>
    eX (lJ a.cb h) λg=>
    match i,mC (fU (λr=>ei r h) 0 a.pre (hg a.a8 e k)) j with
    |none,v=>eX (a.pre++[(j.dst,s)]) λpre=>eX (a.cb++[g]) λd=>eX (gM b a.cy) λb=>f ⟨a.a8+1,pre,a.b,d,a.dA,a.dD,b⟩
    |none,l=>match pw a.dA g with
     |true=>eX (a.pre++[(j.dst,s)]) λpre=>eX (a.cb++[g]) λd=>eX (gM b a.cy) λb=>eX (jO a.dD (nB a.a8)) λp=>f ⟨a.a8+1,pre,a.b,d,a.dA,p,b⟩
     |false=>n
    |some i,_=>match pw a.dD g with
     |true=>eX (a.pre++[(j.dst,s)]) λpre=>eX (a.cb++[g]) λd=>eX (gM b a.cy) λb=>eX (jO a.dD (nB a.a8)) λp=>eX (jO a.dA (nB a.a8)) λw=>f ⟨a.a8+1,pre,i,d,w,p,b⟩
     |false=>n
def y3(j:m (Nat×cm))(d:m (Nat×bK))(i:Nat)(g:m (Nat×Bool))(a:m ao)(e:m (Nat×x×Bool)):m ao->kW->Option kW
 |[],b=>f b
 |k::o,b=>match pv j d i g a e b k with
  |some h=>y3 j d i g a e o h
  |none=>n
def xU(k:m (Nat×cm))(d:m (Nat×bK))(j:Nat)(h:m (Nat×Bool))(a:m ao)(i:bJ)(o:m ap):Option (bJ×m ap×m Prop):=
 match lk a with
 |false=>n
 |true=>eX (oo a i) λg=>match y3 k d j h a g a ⟨0,[],o,[],[],[],[]⟩with
  |some b=>eX (fU (λ_=>l) 0 b.pre (mK a i)) λe=>f (e,b.b,b.cy)
  |none=>n
def et:ao:=⟨n,.move (.tmp 0),0,"",#[],n⟩
section
variable (ac:m (Nat×cm))(CT:m (Nat×bK))(E:Nat)(bf:m (Nat×Bool))(all:m ao)(cJ:m (Nat×x×Bool))
def jE(a:kW):Nat->kW
 |0=>a
 |b+1=>(pv ac CT E bf all cJ (jE a b) (all.getD b et)).getD (jE a b)
def ql(a:kW)(b:Nat):bJ:=fU (λd=>ei d (c_ (all.getD b et).after.toList)) 0 (jE ac CT E bf all cJ a b).pre (hg (jE ac CT E bf all cJ a b).a8 all cJ)
def y2(a:kW)(b:Nat):Option (x×Option (m ap)×m Prop):=iA ac CT bf all (ql ac CT E bf all cJ a b) (jE ac CT E bf all cJ a b).b (all.getD b et)
def r9(a:kW)(b:Nat):x:=match y2 ac CT E bf all cJ a b with|some (d,_,_)=>d|none=>.any
def jl(a:kW)(b:Nat):Bool:=match y2 ac CT E bf all cJ a b with|some (_,f _,_)=>l|_=>v
def qn(a:kW)(b:Nat):Bool:=!mC (ql ac CT E bf all cJ a b) (all.getD b et)&&!jl ac CT E bf all cJ a b
def qa(a:kW)(b:Nat):m Bool:=lJ (jE ac CT E bf all cJ a b).cb (c_ (all.getD b et).after.toList)
end
section
variable {ac:m (Nat×cm)}{CT:m (Nat×bK)}{E:Nat}{bf:m (Nat×Bool)}{all:m ao}{cJ:m (Nat×x×Bool)}
structure FV(ac:m (Nat×cm))(CT:m (Nat×bK))(E:Nat)(bf:m (Nat×Bool))(all:m ao)(cJ:m (Nat×x×Bool))(b7 rX:kW)(q:ao)(D:x)(an:Option (m ap))(cy:m Prop):Prop where
 dst:fi E q.dst=l
 lt:te b7.a8 (c_ q.after.toList)=l
 op:iA ac CT bf all (fU (λt=>ei t (c_ q.after.toList)) 0 b7.pre (hg b7.a8 all cJ)) b7.b q=f (D,an,cy)
 a8:rX.a8=b7.a8+1
 pre:rX.pre=b7.pre++[(q.dst,D)]
 cb:rX.cb=b7.cb++[lJ b7.cb (c_ q.after.toList)]
 b:rX.b=an.getD b7.b
 cy:rX.cy=gM cy b7.cy
 iN:rX.dA=if an.isSome=l then jO b7.dA (nB b7.a8)else b7.dA
 jz:rX.dD=if(mC (fU (λt=>ei t (c_ q.after.toList)) 0 b7.pre (hg b7.a8 all cJ)) q||an.isSome)=l then jO b7.dD (nB b7.a8)else b7.dD
 load:mC (fU (λt=>ei t (c_ q.after.toList)) 0 b7.pre (hg b7.a8 all cJ)) q=l->an.isSome=v->pw b7.dA (lJ b7.cb (c_ q.after.toList))=l
 b6:an.isSome=l->pw b7.dD (lJ b7.cb (c_ q.after.toList))=l
def Mo{b7 h}(b:pv ac CT E bf all cJ b7 q=f h):∃k d g,FV ac CT E bf all cJ b7 h q k d g:=by
 unfold pv at b;split at b
 .cases b
 rename_i j;simp[hF]at b;split at b
 .cases b
 rename_i i;split at b
 .cases b
 rename_i k d g e;refine⟨k,d,g,?_⟩;cases d with
 |none=>
  cases m:mC (fU (λo=>ei o (c_ q.after.toList)) 0 b7.pre (hg b7.a8 all cJ)) q with
  |false=>
   simp[m,hF]at b;cases b;exact⟨j,i,e,a,a,a,a,a,by simp,by grind,by grind,by simp⟩
  |true=>
   simp[m,hF]at b;split at b
   .rename_i r;cases b;exact⟨j,i,e,a,a,a,a,a,by simp,by grind,λ_ _=>r,by simp⟩
   grind
 |some d=>
  simp[hF]at b;split at b
  .rename_i r;cases b;exact⟨j,i,e,a,a,a,a,a,by simp,by simp,by simp,λ_=>r⟩
  grind
def LP{b7 d}:∀{bq:m ao}{h:Nat},(∀a,bq[a]?=all[h+a]?)->y3 ac CT E bf all cJ bq (jE ac CT E bf all cJ b7 h)=f d ->
  (∀a g,bq[a]?=f g->pv ac CT E bf all cJ (jE ac CT E bf all cJ b7 (h+a)) g=f (jE ac CT E bf all cJ b7 (h+a+1)))/\jE ac CT E bf all cJ b7 (h+c bq)=d
 |[],h,_,b=>by cases b;grind
 |p::q,h,e,b=>by
  simp[y3]at b;have k:all[h]?=f p:=by have:=e 0;grind
  split at b
  .rename_i i j;have o:jE ac CT E bf all cJ b7 (h+1)=i:=by simp[jE,aj,k,h3,j]
   rw[<-o]at b;obtain⟨s,r⟩:=LP (bq:=q) (h:=h+1) (λa=>by have:=e (a+1);grind) b;grind
  grind
theorem qz:∀{a:m Nat},ei t a=l->t∈a:=by
 intro a;induction a with
 |nil=>intro b;cases b
 |cons d g e=>
  intro b;simp[ei]at b;exact t0
def Ti{aQ:ah P}(a5:P.follows Departure.mixedOrders=l)(aY:bZ P ac)(aS:ba aQ CT){aP}(t:xU ac CT E bf aM.toList F k=f (aP,an,cl))(bK:T cl){aL}(bE:aL .normal aP an)(id):
  b0 aQ E (.region id aM l) aL F k:=by
 unfold xU at t;split at t
 .cases t
 rename_i bn;rw[hF]at t;split at t
 case h_2=>cases t
 rename_i ag aE;rw[hF]at t;cases t;generalize bF:aM.toList=g at *;generalize aF:oo g F=cJ at *;have bt:∀e:Nat,aM[e]?=g[e]?:=λe=>by grind
 have bd:aM.size=c g:=M;let m:kW:=⟨0,[],k,[],[],[],[]⟩
 obtain⟨bR,bS⟩:=LP (ac:=ac) (CT:=CT) (E:=E) (bf:=bf) (cJ:=cJ) (b7:=m) (bq:=g) (h:=0) (λe=>by simp) aE;simp only[cW]at bR bS;let j:=jE ac CT E bf g cJ m;have aK:∀e q,g[e]?=f q->g.getD e et=q:=λe q t=>by grind
 have ai:∀e q,g[e]?=f q->ql ac CT E bf g cJ m e=(fU (λi=>ei i (c_ (q).after.toList)) 0 (j e).pre (hg (j e).a8 g cJ)):=λe q t=>by unfold ql;grind
 have D:∀e q,g[e]?=f q->∃br,FV ac CT E bf g cJ (j e) (j (e+1)) q (r9 ac CT E bf g cJ m e) (if jl ac CT E bf g cJ m e=l then f (j (e+1)).b else n) br:=by
  intro e q cv;obtain⟨aN,A,br,p⟩:=Mo (bR e q cv);have aJ:=p.op;have aA:y2 ac CT E bf g cJ m e=f (aN,A,br):=by unfold y2 ql;grind
  have bM:r9 ac CT E bf g cJ m e=aN:=by unfold r9;rw[aA]
  cases A with
  |none=>
   have O:jl ac CT E bf g cJ m e=v:=by unfold jl;rw[aA]
   grind
  |some bk=>
   have O:jl ac CT E bf g cJ m e=l:=by unfold jl;rw[aA]
   have bN:(j (e+1)).b=bk:=p.b;grind
 have bs:∀e,e<=c g->(j e).a8=e:=by
  intro e;induction e with
  |zero=>intro _;rfl
  |succ e K=>
   intro bp;obtain⟨_,p⟩:=D e _ (bI u);rw[p.a8,K u]
 have W:∀e,e<=c g->∀i,(j e).pre[i]?=if i<e then(g[i]?).map (λq=>(q.dst,r9 ac CT E bf g cJ m i))else n:=by
  intro e;induction e with
  |zero=>intro _ i;exact cS
  |succ e K=>
   intro bp i;obtain⟨_,p⟩:=D e _ (bI u);have U:(j e).pre.length=e:=by
    apply Nat.le_antisymm
    .grind
    grind
   rw[p.pre];grind
 have aw:∀e,e<=c g->∀i,(j e).cb[i]?=if i<e then f (qa ac CT E bf g cJ m i)else n:=by
  intro e;induction e with
  |zero=>intro _ i;exact cS
  |succ e K=>
   intro bp i;obtain⟨_,p⟩:=D e _ (bI u);have U:(j e).cb.length=e:=by
    apply Nat.le_antisymm
    .apply Nat.le_of_not_lt;intro aI;have:=K u e;grind
    grind
   rw[p.cb];by_cases S:i<e
   .grind
   rw[ho u];by_cases r:i=e
   .subst r;rw[bo u,U,sw];simp only[mf,qa,aK i _ (bI (by omega:i<c g))];rfl
   grind
 have bz:∀e,e<=c g->∀i,gx (j e).dA i=(decide (i<e)&&jl ac CT E bf g cJ m i):=by
  intro e;induction e with
  |zero=>intro _ i;exact cS
  |succ e K=>
   intro bp i;obtain⟨_,p⟩:=D e _ (bI u);rw[p.iN];cases O:jl ac CT E bf g cJ m e with
   |false=>
    grind
   |true=>
    simp only[dA,Option.isSome_some];rw[p7,K u i,xd,bs e u];by_cases r:i=e
    .grind
    grind
 have bg:∀e,e<=c g->∀i,gx (j e).dD i=(decide (i<e)&&!qn ac CT E bf g cJ m i):=by
  intro e;induction e with
  |zero=>intro _ i;exact cS
  |succ e K=>
   intro bp i;obtain⟨_,p⟩:=D e _ (bI u);have af:(if jl ac CT E bf g cJ m e=l then f (j (e+1)).b else n).isSome=jl ac CT E bf g cJ m e:=by cases jl ac CT E bf g cJ m e<;>rfl
   have ao:qn ac CT E bf g cJ m e=!(mC (fU (λi=>ei i (c_ (g[e]'u).after.toList)) 0 (j e).pre (hg (j e).a8 g cJ)) (g[e]'u)||jl ac CT E bf g cJ m e):=by unfold qn;rw[ai e _ (bI u),aK e _ (bI u)];simp
   rw[p.jz,af];cases O:(mC (fU (λi=>ei i (c_ (g[e]'u).after.toList)) 0 (j e).pre (hg (j e).a8 g cJ)) (g[e]'u)||jl ac CT E bf g cJ m e)with
   |false=>
    grind
   |true=>
    simp only[dA];rw[p7,K u i,xd,bs e u];by_cases r:i=e
    .grind
    grind
 have V:∀e,e<=c g->T (j e).cy:=by
  have av:∀h e,e+h=c g->T (j e).cy:=by
   intro h;induction h with
   |zero=>
    grind
   |succ h K=>
    intro e bp;obtain⟨_,p⟩:=D e _ (bI u);have:=K (e+1) u;rw[p.cy,T.Z]at this;exact this.2
  intro e bp;exact av (c g-e) e u
 have b5:∀e q,g[e]?=f q->aZ aQ E g q (ql ac CT E bf g cJ m e) (j e).b (r9 ac CT E bf g cJ m e) (j (e+1)).b:=by intro e q cv;have bp:e<c g:=(cO.1 cv).1;obtain⟨_,p⟩:=D e q cv;have np:=V (e+1) u;rw[p.cy,T.Z]at np;have:=ef (P:=P) (E:=E) aY aS p.op np.1;rw[p.b];grind
 let idx:Nat->Option Nat:=λo=>(az (c g)).find? (λe=>decide ((g.getD e et).dst=f o));have b6:∀o i,idx o=f i->∃q,g[i]?=f q/\q.dst=f o:=M;have bQ:∀e q ax,g[e]?=f q->q.dst=f ax->idx ax=f e:=by
  intro e q ax cv Q;have bp:e<c g:=(cO.1 cv).1;cases bM:idx ax with
  |none=>
   grind
  |some i=>
   grind[Dr]
 have b_:∀o,jL o g=l↔∃i,idx o=f i:=by grind[CM,vd]
 have b9:∀e q,g[e]?=f q->∀r∈q.after,eQ r=l->r.on<e:=by intro e q cv r O Y;have bp:e<c g:=(cO.1 cv).1;obtain⟨_,p⟩:=D e q cv;have:=Da p.lt r.on (lZ.2 ⟨r,by grind,Y,rfl⟩);grind
 have bl:=b9;have Q:q2 aQ E aM F (λe=>(j e).b) (r9 ac CT E bf g cJ m) (ql ac CT E bf g cJ m) (qn ac CT E bf g cJ m) (λe=>decide (e<c g)&&jl ac CT E bf g cJ m e) (λe i=>e<c g/\gx (qa ac CT E bf g cJ m e) i=l) idx (fU (λ_=>l) 0 ag.pre (mK g F)):=by
  refine⟨a5,M,?_,?_,?_,?_,?_,?_,?_,?_,?_⟩
  .intro e q ax cv Q;rw[bt]at cv;obtain⟨_,p⟩:=D e q cv;exact⟨bQ e q ax cv Q,k8 p.dst ax Q⟩
  .grind
  .intro e O;rcases dW e (c g) with bp|bp
   .obtain⟨_,p⟩:=D e _ (bI bp);have:jl ac CT E bf g cJ m e=v:=M;have b4:=p.b;grind
   have bB:g.getD e et=et:=M;show(j (e+1)).b=(j e).b;have:pv ac CT E bf g cJ (j e) et=n∨∃aH,pv ac CT E bf g cJ (j e) et=f aH:=by
    cases pv ac CT E bf g cJ (j e) et with
    |none=>grind
    |some aH=>grind
   show((pv ac CT E bf g cJ (j e) (g.getD e et)).getD (j e)).b=(j e).b;rw[bB];rcases this with t|⟨aH,t⟩
   .grind
   rw[t];obtain⟨aN,A,bO,p⟩:=Mo t;have aJ:=p.op;have:A=n:=by unfold iA at aJ;simp only[et,pg,yM,uZ,u_]at aJ;grind
   rw[h3,p.b,this];rfl
  .grind
  .intro e q cv ae;rw[bt]at cv;have bp:e<c g:=(cO.1 cv).1;have aG:mC (fU (λi=>ei i (c_ (q).after.toList)) 0 (j e).pre (hg (j e).a8 g cJ)) q=v/\jl ac CT E bf g cJ m e=v:=by unfold qn at ae;grind
   refine⟨by grind,λh=>?_⟩;obtain⟨bO,p⟩:=D e q cv;have aJ:=p.op;rw[aG.2]at aJ;have aD:=ZZ aG.1 (by simpa using aJ) (j h).b;have np:=V (e+1) u;rw[p.cy,T.Z]at np;have:=ef (P:=P) (E:=E) aY aS aD np.1;grind
  .intro L cd e i ⟨bp,Y⟩;have ak:∀e,e<c g->L e->∀r,r∈c_ (g.getD e et).after.toList->L r:=by intro e bp al r O;rw[aK e _ (bI bp)]at O;obtain⟨bx,s,w,rfl⟩:=lZ.1 O;grind
   have key:∀e,e<c g->∀i,gx (qa ac CT E bf g cJ m e) i=l->(∀r∈c_ (g.getD e et).after.toList,L r)->L i:=by
    intro e;induction e using Nat.strongRecOn with
    |_ e K=>
     intro bp i Y aU;obtain⟨r,O,t⟩:=BI Y;have aI:r<e:=by have R:=O;rw[aK e _ (bI bp)]at R;obtain⟨bx,s,w,rfl⟩:=lZ.1 R;grind
     rcases t with rfl|⟨bU,bG,a1⟩
     .grind
     have:=aw e u r;rw[bo aI]at this;have a0:(j e).cb[r]?=f bU:=bG;rw[a0]at this;cases this;exact K r aI u i a1 (ak r u (aU r O))
   refine⟨λal=>key e bp i Y (ak e bp al),g[e],by grind,λbL=>key e bp i Y ?_⟩;grind[List.getElem?_eq_getElem,lZ]
  .intro e Z bp y O b1 ar;rw[bd]at bp y;have R:jl ac CT E bf g cJ m Z=l:=M;rcases dW Z e with aI|bY
   .refine .inl ⟨aI,bp,?_⟩;obtain⟨_,p⟩:=D e _ (bI bp);have N:qa ac CT E bf g cJ m e=lJ (j e).cb (c_ (g[e]).after.toList):=by unfold qa;grind
    rw[N];cases a3:jl ac CT E bf g cJ m e with
    |true=>
     have s:=p.b6 M;refine tH s ?_;rw[bg e u Z];have:qn ac CT E bf g cJ m Z=v:=by unfold qn;grind
     grind
    |false=>
     have a9:mC (fU (λi=>ei i (c_ (g[e]).after.toList)) 0 (j e).pre (hg (j e).a8 g cJ)) g[e]=l:=by unfold qn at ar;rw[ai e _ (bI bp),aK e _ (bI bp),a3]at ar;grind
     have s:=p.load a9 M;grind[tH]
   have aI:e<Z:=u;refine .inr ⟨aI,y,?_⟩;obtain⟨_,p⟩:=D Z _ (bI y);have N:qa ac CT E bf g cJ m Z=lJ (j Z).cb (c_ (g[Z]).after.toList):=by unfold qa;grind
   rw[N];have s:=p.b6 M;grind[tH]
  .intro e q cv o k b aa ab;rw[bt]at cv;have bp:e<c g:=(cO.1 cv).1;unfold ql;rw[aK e q cv];rcases vs (z:=λi=>ei i (c_ q.after.toList)) (F:=hg (j e).a8 g cJ) (o:=o) (d:=(j e).pre) (e:=0)with⟨i,aN,s,w,x⟩|x
   .have J:look (fU (λi=>ei i (c_ q.after.toList)) 0 (jE ac CT E bf g cJ m e).pre (hg (jE ac CT E bf g cJ m e).a8 g cJ)) o=aN:=x;rw[J];have B:=W e u i;rw[s]at B;have S:i<e:=M;rw[bo S,bI (by omega:i<c g)]at B;simp only[lD,e1,lE]at B;obtain⟨bc,b3⟩:=B;have aO:=bQ i _ o (bI (by omega:i<c g)) bc.symm;rw[aO]at ab;simp only at ab;rw[bo]at ab
    .grind
    have aC:i∈c_ q.after.toList:=by simp only[cW]at w;exact qz w
    obtain⟨r,bT,b',bU⟩:=lZ.1 aC;grind
   have J:look (fU (λi=>ei i (c_ q.after.toList)) 0 (jE ac CT E bf g cJ m e).pre (hg (jE ac CT E bf g cJ m e).a8 g cJ)) o=look (hg (j e).a8 g cJ) o:=x;rw[J,bs e u,<-aF,Kh];split
   .trivial
   rename_i b2;cases aO:idx o with
   |some i=>
    have cc:=(b_ o).2 ⟨i,aO⟩;have bD:nn e o g=v:=M;obtain⟨bh,a_,a2⟩:=b6 o i aO;have bJ:=qz (JL bD i bh a_ a2);obtain⟨r,O,Y,heq⟩:=lZ.1 bJ;rw[aO]at ab;simp only at ab;split at ab
    ·
     rename_i a4;obtain⟨cb,bW,bV,bH⟩:=a4;grind
    rw[bo ⟨bh,by grind,r,by grind,Y,heq⟩]at ab;exact ab
   |none=>grind
  intro o k b aa ab;have bC:j (c g)=ag:=bS;rcases vs (z:=λ_=>l) (F:=mK g F) (o:=o) (d:=ag.pre) (e:=0)with⟨i,aN,s,_,x⟩|x
  .rw[x];have B:=W (c g) (bA _) i;rw[bC,s]at B;have S:i<c g:=M;grind
  rw[x,td];split
  .trivial
  grind
 intro b bT ao a6 b' cf ca b8 Y aV;have aT:j aM.size=ag:=M;refine .next a λI H=>?_;have H:=aQ.bI H;have G:=a6.rely H;have aB:=ao.rely H a6;have X:cN k I k {I with a:={I.a with drawn:=I.a.drawn+1}}:=cN.same rfl rfl rfl rfl;have aq:bb k {I with a:={I.a with drawn:=I.a.drawn+1}}:=G.same rfl;have bj:=H.aI.trans (X.tooQ G);refine⟨_,{I with a:={I.a with drawn:=I.a.drawn+1}},#[],D4,⟨⟨k,k,G,aq,X⟩,.nil⟩,?_⟩;simp only[Region.schedule,a5,Bool.true_or,dA];refine Q.eO Y (cG:={I with a:={I.a with drawn:=I.a.drawn+1}}) (λbP bu aR w au=>?_) aM.size _ C ?_ ?_ 0 _ bT u ?_ ?_ aq (.refl _ _) _
 .simp only[aT]at aR w au;exact aV .normal _ _ bP bu bE aR w (bj.trans au)
 .simp
 .exact EX
 .intro Z y bX;exact wm
 have aG:=aB.mono (X.tooQ G) G.len;refine⟨aG.size,aG.defers,λo=>?_⟩;unfold gH;cases aO:idx o with
 |none=>exact aG.ak o
 |some i=>
  simp only;rw[bm]
  .exact aG.ak o
  exact wm
end
section
variable {p:ah P}
theorem g.iL(e:P.follows Departure.mixedOrders=l)(aY:bZ P ac)(b:ba p CT){a}{id}(h:xU ac CT E bf aM.toList F k=f (a,an,cl))(d:T cl)(i:g p E bd av .normal a an):g p E bd (.code (.region id aM l)::av) .normal F k:=
 Ti e aY b h d i id
end
def rY(x:m (Nat×cm))(p:m (Nat×bK))(k:m (Nat×Bool))(w:Nat)(b:m im)(a:bJ)(e:m ap):Option (m im×bJ×m ap×m Prop):=
 match b with
 |[]=>n
 |.blk _::b=>f (b,a,e,[])
 |.S _ []::b=>f (b,a,e,[])
 |.S g (q::i)::b=>match fi w q.dst with
  |true=>match iA x p k g a e q with
   |some (o,n,d)=>eX (gb q.dst o a) λa=>f (.S g i::b,a,e,d)
   |some (o,f j,d)=>eX (gb q.dst o a) λa=>f (.S g i::b,a,j,d)
   |none=>n
  |false=>n
 |.code t::b=>match t with
  |.skip=>f (b,a,e,[])
  |.seq o u=>f (.code o::.code u::b,a,e,[])
  |.block id t=>f (.code t::.blk id::b,a,e,[])
  |.region id h y=>match vr k (id+900)with
   |some _=>n
   |none=>match y with
    |false=>f (.S h.toList h.toList::b,a,e,[])
    |true=>match xU x p w k h.toList a e with
     |some (r,j,d)=>f (b,r,j,d)
     |none=>n
  |.exit id=>match iV id b with
   |some s=>f (s,a,e,[])
   |none=>n
  |.cond (.tmp z) o u=>match look a z with
   |.n (.R (.c (.bool l)))=>f (.code o::b,a,e,[])
   |.n (.R (.c (.bool v)))=>f (.code u::b,a,e,[])
   |_=>n
  |_=>n
theorem abV{d:ah P}(p:P.follows Departure.mixedOrders=l)(aY:bZ P ac)(au:ba d CT){B}{a}(s:rY ac CT bf E av F k=f (B,a,an,cl))(cv:T cl)(h:g d E bd B .normal a an):g d E bd av .normal F k:=by
 unfold rY at s;split at s
 .cases s
 .grind [g.iy]
 .grind [g.hJ]
 .rename_i all q bq b;cases e:fi E q.dst with
  |false=>grind
  |true=>
   simp[e]at s;have ak:=k8 e;split at s
   .rename_i m j i;exact QW
   .rename_i m aQ j i;exact QW
   grind
 rename_i o b;split at s
 .grind [g.skip]
 .grind [g.seq]
 .grind [g.block]
 .grind [g.region,g.iL]
 .grind [g.exit]
 .grind [g.cond]
 grind
def kS(o:m (Nat×cm))(b:m (Nat×bK))(d:m (Nat×Bool))(k:Nat):Nat->m im->bJ->m ap->m Prop->Option (m im×bJ×m ap×m Prop)
 |0,g,e,h,a=>eX a λa=>f (g,e,h,a)
 |q+1,g,e,h,a=>match rY o b d k g e h with
  |some (p,i,j,r)=>kS o b d k q p i j (gM r a)
  |none=>eX a λa=>f (g,e,h,a)
def LO{P}{q:ah P}(u:P.follows Departure.mixedOrders=l){ac}(aY:bZ P ac){CT}(w:ba q CT){bf}{E}{bd}:∀{s:Nat}{i p:m im}{h d:bJ}{j e:m ap}{b a:m Prop},
  kS ac CT bf E s i h j b=f (p,d,e,a)->T a->g q E bd p .normal d e->g q E bd i .normal h j/\T b
 |0,i,p,h,d,j,e,b,a,k,o,r=>by simp[kS,hF]at k;grind
 |s+1,i,p,h,d,j,e,b,a,k,o,r=>by
  simp[kS]at k;cases x:rY ac CT bf E i h j with
  |none=>
   grind[hF]
  |some y=>
   obtain⟨A,z,t,D⟩:=y;simp[x]at k;obtain⟨C,B⟩:=LO u aY w k o r;grind[T.Z,abV]
def g.aO{b:ah P}(m:P.follows Departure.mixedOrders=l)(aY:bZ P ac)(d:ba b CT)(bf)(j){i}{a}{h}(o:AM.kS ac CT bf E j av F k []=f (i,a,an,h))(e:T h)(p:g b E bd i .normal a an):g b E bd av .normal F k:=(LO m aY d o e p).1
section
variable {p:ah P}
def pr(e:m ResultVar)(b:m Nat)(g:bJ)(a:x):Option (m Prop):=
 match ox g e with
 |some d=>match pc d with
  |some h=>match hQ (c b) a with
   |true=>ko h (fc b a)
   |false=>n
  |none=>n
 |none=>n
def g.aJ{fn}{w}{res}(aU)(s:pr fn.results.toList aU F res=f Y)(N:T Y)(b2:∀t,t<w->aU[t]?=f t)(r:dx aU k=f an:=by exact rfl)(i:l1 an=l:=by exact rfl)(jm:fb aU=l:=by exact rfl):
  g p E (bY fn w res an) (.code .ret::av) .normal F k:=by refine g.ret ⟨.inl a,aU,?_⟩;unfold pr at s;grind
def g.aq{fn}{res}(s:pr fn.results.toList [] F res=f Y)(w:T Y:=by simp):g p E (bY fn 0 res []) (.code .ret::av) .normal F k:=
 g.aJ [] s w (λt s=>by omega)
def bY.zero{fn}{res}(s:pr fn.results.toList [] F res=f Y)(r:T Y:=by simp):bY fn 0 res [] .ret F k:=by
 refine⟨.inl a,[],?_⟩;unfold pr at s;split at s
 .rename_i bf YF;split at s
  .rename_i N i;split at s
   .rename_i w;exact⟨bf,N,Y,YF,i,s,r,w,a,a,a,λt s=>by omega⟩
   grind
  grind
 grind
def g.bs{id}{O:bJ->m ap->Prop}{Aj}{d B}(j:iV id av=n)(o:iV id d=f B)(w:g p E Aj B .normal F k):
  g p E (λh b e=>match h with
   |.normal=>O b e
   |h=>g p E Aj d h b e) (.code (.exit id)::av) .normal F k:=by
 have key:∀{av:m im},iV id av=n->∀{aL:fw},aL (.exit id) F k->g p E aL av (.exit id) F k:=by
  intro av;induction av with
  |nil=>intro _ aL i;exact i
  |cons u A r=>
   intro a aL i;cases u with
   |code z=>exact r (by simpa[iV]using a) i
   |S x y=>exact r (by simpa[iV]using a) i
   |blk s=>
    simp[iV]at a;cases q:ad id s with
    |true=>grind
    |false=>
     simp[q]at a;have t:id≠s:=λh=>by grind[Nat.beq_refl]
     simp[g,t,dm];grind
 exact b0.exit (key j (g.toExit o w))
def g.bR{O:bJ->m ap->Prop}{a}{h}(i:a .ret F k):
  g p E (λe b d=>match e with
   |.normal=>O b d
   |e=>g p E a h e b d) (.code .ret::av) .normal F k:=g.ret (g.dL (bd:=a) i)
def g.again{i:Type}{r:i->Prop}{e:i->bJ}{h:i->m ap}{j:i->Nat}{s}{o:fw}(a)(w:iZ F (e a)=f Y)(x:T Y)(y:r a)(u:j a<j s)(t:k=h a):
  g p E (λq b d=>match q with
   |.normal=>∃a,r a/\j a<j s/\iE b (e a)/\d=h a
   |q=>o q b d) [] .normal F k:=⟨a,y,u,eH w x,t⟩
def g.ef{j:Type}(i:j->Prop)(a:j->bJ)(b:j->m ap)(q:j->Nat)(d)(u:iZ F (a d)=f Y)(w:T Y)(x:i d)(t:b d=k)(round:∀d,i d->g p E (λs e h=>match s with
   |.normal=>∃o,i o/\q o<q d/\iE e (a o)/\h=b o
   |s=>g p E bd av s e h) [.code r] .normal (a d) (b d)):g p E bd (.code (.loop r)::av) .normal F k:=
 g.loop i a b q d x (eH u w) t round
def kA(args:m x)(a:m ap):Prop:=∃b y,b4 a b y args/\bb a b
def kA.at{args}(e:kA args k){a}(g:args[t]?=f a):∃b h,bv k b h a:=by obtain⟨b,y,d,_⟩:=e;obtain⟨_,i⟩:=b4.get d;grind
def kA.V{args}{k}(e:kA args k)(h:Nat){d}(a:args[h]?=f (ax (.V d))):c d<=9223372036854775807:=by
 obtain⟨i,j,g⟩:=e.at a;cases b6 g with
 |V e b=>exact b
def kA.A{args}{k}(g:kA args k)(p:Nat){o}{h j}{a:Nat->m K}(b:args[p]?=f (ax (.A o h j a))):j<=9223372036854775807:=by
 obtain⟨t,u,e⟩:=g.at b;cases b6 e with
 |A r d s q i=>omega
def Z.body{i}{fn}{args}{res}(h:P.funcs[i]?=f fn)(e:(fn.name== "runtime.NumGoroutine")=v)(d:fn.body=f r)(m:ay args.length fn.ntmps=l)(o:kA args k->g p fn.ntmps (bY fn k.length res an) [.code r] .normal (h4 0 args) k):Z p i args k res an:=by refine⟨⟨fn,h,e,by grind⟩,λj y b a=>?_⟩;exact(Z.intro h e d (fq m) (g.aR (o ⟨j,y,b,a⟩))).2 j y b a
def Z.I{b}{fn}{r}{args}{k an}{res}(d:P.funcs[b]?=f fn)(a:(fn.name== "runtime.NumGoroutine",fn.body,ay args.length fn.ntmps)=(v,f r,l))(e:kA args k->g p fn.ntmps (bY fn k.length res an) [.code r] .normal (h4 0 args) k):Z p b args k res an:=by simp only[lE]at a;exact Z.body d a.1 a.2.1 a.2.2 e
def g.cf{i}(a)(an)(j:(∀h(b:m Prop),iZ h a=f b->T b->g p E bd (.code r::i) .normal h an)->g p E bd av .normal F k)(o:g p E bd (.code r::i) .normal a an):g p E bd av .normal F k:=
 j λ_ _ d e=>b0.le o (eH d e)
end
def lV{e}(a:P.types[o]?=f e):P.info? o=f e:=by unfold Tables.info?;rw[bo (jd.1 a).1];exact a
def bZ.nil:bZ P []:=λ_ _ a=>by cases a
def bZ.cons{e}(g:eL P o e)(h:bZ P ac):bZ P ((o,e)::ac):=by
 intro t2 d a;simp only[bW]at a;cases b:ad o t2 with
 |true=>rw[b]at a;cases a;rw[<-dn b];exact g
 |false=>rw[b]at a;exact h t2 d a
abbrev EG:K:=.A l 0 0 (λ_=>[])
def wY:X->K
 |.int a _=>.int a 0
 |.bool _=>.bool v
 |.string _=>.V []
 |.slice _ _ _=>EG
 |.pointer _=>.bp
 |.nilIface=>.bE
 |_=>.dr
def cc(a b:TypeInfo)(d:m TypeDesc:=[]):cm:=⟨a.size,a.bytes,vk b.desc,b.desc,a.zero.elim [] λe=>e.cells.toList.map wY,d⟩
def yK(b i:TypeInfo):Bool:=match b.zero with
 |some a=>a.cells.size==b.size&&a.cells.toList.all (λj=>match j with|.int e g=>g==0&&vi e 0|.bool d=>!d|.string h=>h.data.toList.isEmpty|.slice n 0 0|.pointer n|.nilIface|.nilFunc=>l|_=>v)&&(!vk i.desc||match a with|.agg _=>l|_=>v)
 |none=>v
def eL.h_{j k:TypeInfo}{r:m TypeDesc}(A:P.underlying o=f k.desc)(B:P.types[o]?=f j)(g:yK j k=l)(C:r≠[]->P.eqGuardType P.depth o=v/\∀(s:ar)(y e:m X)(t:Bool),nc r y e=f t->(Op.equal o (.agg y.toArray) (.agg e.toArray)).run P s=.ok t s/\∀i,(Op.equal o (.agg y.toArray) (.agg e.toArray)).events P s i=i):eL P o (cc j k r):=by
 unfold yK at g;cases h:j.zero with
 |none=>rw[h]at g;cases g
 |some u=>
  simp only[h,cn,gL,aX]at g;obtain⟨⟨p,q⟩,w⟩:=g;refine⟨A,a,⟨j,u,lV B,a,a,h,?_,?_,by simp[cc,h,p]⟩,C⟩
  .simp only[cc,h,Option.elim,ux];refine p0 λD x=>?_;have:=q D x;split at this<;>try simp only[cn,gL,List.isEmpty_iff,je]at this
   .obtain⟨rfl,d⟩:=this;simp[k0,wY,d]
   .simp[k0,wY,this]
   .rename_i b;have d:b.size=0:=by rw[show b.size=c b.data.toList from a,this];rfl
    simp only[Function.comp,k0,wY,this,d];rfl
   all_goals first|rfl|cases this
  by_cases z:vk k.desc=l
  .cases u<;>simp_all[cc]
  exact⟨#[],(bm z).symm⟩
def bZ.dW{d e:TypeInfo}(b:P.underlying o=f e.desc)(h:P.types[o]?=f d)(g:yK d e=l)(i:bZ P ac):bZ P ((o,cc d e)::ac):=.cons (.h_ b h g λb=>absurd a b) i
def bZ.ki{d b:TypeInfo}{e:TypeDesc}{g:m TypeDesc}{a:m Field}(h:P.underlying o=f b.desc)(r:P.types[o]?=f d)(i:yK d b=l)(k:b.desc=.struct a.toArray)(j:P.stoodInHeld o=v)(p:P.eqGuardType P.depth o=v)(q:wI P (e::g) a 0)(s:bZ P ac):bZ P ((o,cc d b (e::g))::ac):=.cons (.h_ h r i λ_=>Yn (h.trans (eD f k)) j p q) s
namespace R1
section
noncomputable def d9:cm:=cc t3 t3
noncomputable def s3:cm:=cc t9 t9
noncomputable def YN:cm:=cc t31 t31
noncomputable def CV:cm:=cc t43 t43
noncomputable def yp:cm:=cc t58 t57 [.int .i64,.int .i64]
noncomputable def rI:cm:=cc t91 t90 [.string,.string]
noncomputable def YO:cm:=cc t93 t93
noncomputable def rG:cm:=cc t104 t103
noncomputable def CS:cm:=cc t105 t105
noncomputable def nq:cm:=cc t107 t106
noncomputable def mz:cm:=cc t138 t137 [.int .i64,.string]
noncomputable def vf:cm:=cc t140 t139 [.int .i64,.int .i64]
noncomputable def yn:cm:=cc t144 t143
noncomputable def o':cm:=cc t220 t219 [.int .i64,.int .i64]
noncomputable def CU:cm:=cc t250 t105
noncomputable def yo:cm:=cc t286 t286
noncomputable def rH:cm:=cc t296 t295 [.string,.bool]
noncomputable def eN:m (Nat×cm):=[(2,cc t2 t2),(3,d9),(4,cc t4 t4),(5,cc t5 t5),(6,cc t6 t5),(8,cc t8 t7),(9,s3),(12,cc t12 t12),(16,cc t16 t16),(17,cc t17 t17),(20,cc t20 t20),(21,cc t21 t21),(22,cc t22 t22),(23,cc t23 t23),(26,cc t26 t26),(27,cc t27 t27),(28,cc t28 t28),(30,cc t30 t29),(31,YN),(33,cc t33 t32),(35,cc t35 t34 [.int .i64,.int .i64,.int .i64,.string]),(36,cc t36 t36),(38,cc t38 t37),(43,CV),(45,cc t45 t44),(49,cc t49 t49),(58,yp),(60,cc t60 t60),(62,cc t62 t62),(63,cc t63 t63),(66,cc t66 t65),(91,rI),(93,YO),(102,cc t102 t102),(104,rG),(105,CS),(107,nq),(138,mz),(140,vf),(144,yn),(145,cc t145 t26),(147,cc t147 t146),(156,cc t156 t156),(158,cc t158 t157),(161,cc t161 t161),(163,cc t163 t163),(173,cc t173 t173),(178,cc t178 t178),(187,cc t187 t187),(196,cc t196 t195 [.string]),(201,cc t201 t201),(202,cc t202 t12),(204,cc t204 t203),(207,cc t207 t206),(209,cc t209 t5),(220,o'),(233,cc t233 t233),(242,cc t242 t241),(246,cc t246 t246),(249,cc t249 t249),(250,CU),(259,cc t259 t259),(262,cc t262 t262),(264,cc t264 t264),(265,cc t265 t265),(274,cc t274 t3),(283,cc t283 t283),(285,cc t285 t285),(286,yo),(288,cc t288 t287),(289,cc t289 t287),(290,cc t290 t287),(292,cc t292 t291),(294,cc t294 t293),(296,rH),(301,cc t301 t301),(307,cc t307 t306),(308,cc t308 t3),(314,cc t314 t313),(322,cc t322 t285),(326,cc t326 t326),(341,cc t341 t341),(343,cc t343 t342),(359,cc t359 t359),(370,cc t370 t370),(371,cc t371 t371),(386,cc t386 t385 [.int .u8,.int .u8]),(387,cc t387 t387),(388,cc t388 t388),(391,cc t391 t391),(393,cc t393 t392),(395,cc t395 t5),(397,cc t397 t21),(398,cc t398 t21),(400,cc t400 t399),(406,cc t406 t405 [.string])]
end
def bc:bZ V eN:=by
 unfold eN
 repeat' first|exact bZ.nil|refine bZ.ki bF bF bF rfl bF bF (by repeat' first|exact A|kernel_rfl|refine⟨by decide,rfl,?_,?_⟩|refine⟨?_,?_⟩) ?_|refine bZ.dW bF bF bF ?_
end R1
abbrev bC:=m UInt8
abbrev b1(a:bC):x:=ax (.V a)
abbrev R(a:Int):x:=ax (.int .i64 a)
abbrev uY(a:Int):x:=ax (.int .u8 a)
abbrev bh(a:Bool):x:=ax (.bool a)
def xi{b}:kG b e=b.getD e 0:=rfl
namespace R1
variable {p:ah V}
def b5:Tryz.prog.follows Departure.mixedOrders=l:=rfl
def tv{b:ah V}{CT}(h:ba b CT)(bf){E}{bd}(j){av i}{F a}{k an}{e}(m:AM.kS eN CT bf E j av F k []=f (i,a,an,e))(d:T e)(o:g b E bd i .normal a an):g b E bd av .normal F k:=g.aO b5 bc h bf j m d o
def gF{d:ah V}(bf){E}{bd}(j){av i}{F a}{k an}{e}(h:AM.kS eN [] bf E j av F k []=f (i,a,an,e))(b:T e)(m:g d E bd i .normal a an):g d E bd av .normal F k:=g.aO b5 bc ba.nil bf j h b m
def aO{d:ah V}{E}{bd}{av i}{F a}{k an}{e}(h:AM.kS eN [] [] E 100 av F k []=f (i,a,an,e))(b:T e)(j:g d E bd i .normal a an):g d E bd av .normal F k:=g.aO b5 bc ba.nil [] 100 h b j
def cy{d:ah V}{E}{bd}{av i}{F a}{k an}{e}(h:AM.kS eN [] [] E 200 av F k []=f (i,a,an,e))(b:T e)(j:g d E bd i .normal a an):g d E bd av .normal F k:=g.aO b5 bc ba.nil [] 200 h b j
def a_{b:ah V}{CT}(h:ba b CT)(bf){E}{bd}{av i}{F a}{k an}{e}(j:AM.kS eN CT bf E 100 av F k []=f (i,a,an,e))(d:T e)(m:g b E bd i .normal a an):g b E bd av .normal F k:=g.aO b5 bc h bf 100 j d m
def be{b:ah V}{CT}(h:ba b CT)(bf){E}{bd}{av i}{F a}{k an}{e}(j:AM.kS eN CT bf E 200 av F k []=f (i,a,an,e))(d:T e)(m:g b E bd i .normal a an):g b E bd av .normal F k:=g.aO b5 bc h bf 200 j d m
def a5{d:ah V}(bf){E}{bd}{av i}{F a}{k an}{e}(h:AM.kS eN [] bf E 100 av F k []=f (i,a,an,e))(b:T e)(j:g d E bd i .normal a an):g d E bd av .normal F k:=g.aO b5 bc ba.nil bf 100 h b j
def bR{d:ah V}(bf){E}{bd}{av i}{F a}{k an}{e}(h:AM.kS eN [] bf E 200 av F k []=f (i,a,an,e))(b:T e)(j:g d E bd i .normal a an):g d E bd av .normal F k:=g.aO b5 bc ba.nil bf 200 h b j
def b_{b:ah V}{CT}(h:ba b CT){E}{bd}{av i}{F a}{k an}{e}(j:AM.kS eN CT [] E 100 av F k []=f (i,a,an,e))(d:T e)(m:g b E bd i .normal a an):g b E bd av .normal F k:=g.aO b5 bc h [] 100 j d m
def cU{b:ah V}{CT}(h:ba b CT){E}{bd}{av i}{F a}{k an}{e}(j:AM.kS eN CT [] E 200 av F k []=f (i,a,an,e))(d:T e)(m:g b E bd i .normal a an):g b E bd av .normal F k:=g.aO b5 bc h [] 200 j d m
def lj(a:Int):Bool:=decide (97<=a)&&decide (a<=101)
theorem Wm(i):Z p 93 [uY i] [] (bh (lj i)) []:=by
 refine Z.I func93 rfl λ_=>?_;by_cases b:97<=i
 .refine a5 [4] a ?_ (g.aq a ?_)<;>simp[b,lj]
 refine a5 [-4] a ?_ (g.aq a ?_)<;>simp[b,lj]
def jp(a:UInt8):Bool:=decide (97<=a.toNat)&&decide (a.toNat<=122)
def dX(a:bC):Bool:=a.all jp
def Zj{b}(d:∀a,a<c b->jp (b.getD a 0)=l):dX b=l:=by simp[dX,aX];grind[List.getElem_of_mem]
def Zg{b}(e:t<c b)(d:jp (b.getD t 0)=v):dX b=v:=by
 cases a:dX b with
 |false=>rfl
 |true=>
  simp[dX,aX]at a;grind
theorem VT(b):Z p 94 [b1 b] [] (bh (dX b)) []:=by
 refine Z.I func94 rfl λe=>?_;have m:=e.V 0 a;refine aO a A (g.ef (λd=>d<=c b/\∀t,t<d->jp (b.getD t 0)=l) (λd:Nat=>[(0,b1 b),(3,R d)]) (λ_=>[]) (λd=>c b-d) 0 a C ⟨by omega,by omega⟩ a ?_);rintro d ⟨h,r⟩;by_cases s:d<c b
 .generalize w:b.getD d 0=i;by_cases k:i.toNat<97
  .refine a5 [7,13] a ?_ (g.bR (bY.zero a ?_))
   .simp only[T,xi,bw,w];omega
   exact zL
  by_cases j:i.toNat>122
  .refine a5 [7,-13,18] a Om (g.bR (bY.zero a ?_));exact zL
  refine a5 [7,-13,-18] a Qq (g.again (d+1) a C ?_ ?_ a)
  .refine⟨by omega,λt N=>?_⟩;rcases Au.1 N with N|rfl
   .grind
   rw[w];simp[jp,cn,bw];omega
  omega
 exact Oy
end R1
def Z.args{P:aE}{h:ah P}{i}{args a}{k an}{res}(j:Z h i a k res an)(e:∀b y,b4 k b y args->b4 k b y a):Z h i args k res an:=
 ⟨j.1,λb y g d=>j.2 b y (e b y g) d⟩
def jT(d:Nat):x->Option (Nat×(Nat->m K))
 |.n (.R (.c (.A _ e b a)))=>match ad e d with
  |true=>f (b,a)
  |false=>match ad b 0 with
   |true=>f (0,λ_=>[])
   |false=>n
 |_=>n
def abA{B}{r}{j}{e:Nat->m K}(a:jT B r=f (j,e)){k}{b}{aa}(s:bv k b aa r):Rd b.C aa (.A v B j e):=by
 unfold jT at a;split at a
 .rename_i o h d dH;split at a
  .rename_i g;have p:=dn g;subst p;cases a;exact(b6 s).eg
  split at a
  .rename_i t;have p:=dn t;subst p;cases a;have q:=b6 s;cases q with
   |A x i y w E F g z A D=>exact Rd.A x i y w E C u u u u
  grind
 grind
def gG{b:Type}(d:b->m K)(a:b)(g:m b):Nat->m K:=λe=>d (g.getD e a)
structure c1(α:Type) where
 bj:Nat
 a2:α->m K
 b7:m K->α
 D:α
 inv:∀w,b7 (a2 w)=w
 len:∀w,c (a2 w)=bj
namespace c1
variable {α:Type}(r:c1 α)
def ad(d:Nat)(a:Nat->m K):m α:=(az d).map λb=>r.b7 (a b)
def fn(a:m α):Nat->m K:=gG r.a2 r.D a
def bM(d:Nat)(a:Nat->m K):Prop:=∀b,b<d->a b=r.a2 (r.b7 (a b))
def A(a:m α):x:=ax (.A v r.bj (c a) (r.fn a))
def ju{j}{a:Nat->m K}:c (r.ad j a)=j:=by simp[ad]
def l(d):r.ad (c d) (r.fn d)=d:=by
 apply rh
 .simp[ad]
 intro e b a;simp[ad,fn,gG,aj,bI a,r.inv]
def T(d){j}:r.bM j (r.fn d):=λa _=>by simp[fn,gG,r.inv]
def iU{j}{a:Nat->m K}(d:r.bM j a):bs j a (r.fn (r.ad j a)):=by intro e b;rw[d e b];simp[fn,gG,ad,aj,b]
def cA{d}{j}{a:Nat->m K}(i:jT r.bj d=f (j,a))(g:r.bM j a){k}{b}{aa}(o:bv k b aa d):bv k b aa (r.A (r.ad j a)):=by have e:=abA i o;have h:=e.cz (r.iU g);show Rd b.C aa (.A v r.bj (c (r.ad j a)) _);rw[r.ju];exact h
end c1
def dq(b:bC)(a:Nat):Int:=(b.getD a 0).toNat
theorem kg(b)(t):((kG b t).toNat:Int)=dq b t.toNat:=rfl
abbrev c7:=bC×bC
def tG(a:m K)(b:Nat):bC:=match c' b a with|some (.V d)=>d|_=>[]
def ns(a:m K)(b:Nat):Int:=match c' b a with|some (.int _ d)=>d|_=>0
def bB:c1 c7:={bj:=2,a2:=λb=>[.V b.1,.V b.2],b7:=λa=>(tG a 0,tG a 1),D:=([],[]),inv:=λ_=>rfl,len:=λ_=>rfl}
namespace R1
variable {p:ah V}
def Bm:bK:=λargs a=>match args,a with
 |[.n (.R (.c (.int .u8 b)))],[]=>f (bh (lj b),[],[])
 |_,_=>n
def t93:bL p 93 Bm:=by intro args g b d a e _;unfold Bm at e;grind[Wm]
def xk:bK:=λargs a=>match args,a with
 |[.n (.R (.c (.V b)))],[]=>f (bh (dX b),[],[])
 |_,_=>n
def MD:bL p 94 xk:=by intro args g b d a e _;unfold xk at e;grind[VT]
def HM:m (Nat×bK):=[(93,Bm),(94,xk)]
def qb:ba p HM:=ba.cons t93 (ba.cons MD ba.nil)
def fT(a:bC):Bool:=if c a=1 then lj (dq a 0)else if c a=3 then lj (dq a 0)&&(dq a 1==47)&&lj (dq a 2)else v
theorem WS(b):Z p 54 [b1 b] [] (bh (fT b)) []:=by
 refine Z.I func54 rfl λh=>?_;by_cases au:c b=1
 .refine a_ qb [6] a z0 (g.aq a ?_);simp[fT,au,kg]
 by_cases d:c b=3
 .by_cases i:lj (dq b 0)=l
  .by_cases e:dq b 1=47
   .refine a_ qb [-6,11,14,18] a ?_ (g.aq a ?_)
    .simp[d,kg,i,e]
    simp[fT,d,i,e,kg]
   refine a_ qb [-6,11,14,-18] a ?_ (g.aq a ?_)
   .simp[d,kg,i,e]
   simp[fT,d,i,e]
  refine a_ qb [-6,11,-14] a ?_ (g.aq a ?_)
  .simp[d,kg,i]
  simp[fT,d,i]
 refine a_ qb [-6,-11] a bQ (g.aq a ?_);simp[fT,au,d]
def fK(a:bC):Bool:=decide (c a<=40)&&dX a
theorem XO(b):Z p 55 [b1 b] [] (bh (fK b)) []:=by
 refine Z.I func55 rfl λe=>?_;by_cases d:c b<=40
 .refine a_ qb [5] a bQ (g.aq a ?_);simp[fK,d]
 refine a_ qb [-5] a bQ (g.aq a ?_);simp[fK,d]
def k6(a b:bC):Bool:=(c a != c b)&&(dq a 0==dq b 0)
def T5(b i)(d:b≠[])(e:i≠[]):Z p 56 [b1 b,b1 i] [] (bh (k6 b i)) []:=by
 have j:=AE.2 d;have h:=AE.2 e;refine Z.I func56 rfl λk=>?_;by_cases N:c b=c i
 .refine a5 [-9] a pI (g.aq a ?_);simp[k6,N]
 refine a5 [9] a bu (g.aq a ?_);simp[k6,N,kg]
end R1
def q1(d a:m ap):Prop:=∀b,bb d b->bb a b/\cN d b a b/\∀g(e:x),bv d b g e->bv a b g e
def C3:ap->ap->Option (m Prop)
 |.w h r j d,.w a e g b=>match ad h a,ad r e with
  |true,l=>f [j=g,bs j d b]
  |_,_=>n
 |.cells h q,.cells a i=>match ad h a with
  |true=>qu q i
  |false=>n
 |.M,.M=>f []
 |.J H,.J k=>f [H=k]
 |.loop u t w,.loop p o s=>f [ap.loop u t w=ap.loop p o s]
 |.bl,.bl=>f []
 |.p h r j d,.p a e g b=>match ad h a,ad r e with
  |true,l=>f [j=g,bs j d b]
  |_,_=>n
 |_,_=>n
def jo:m ap->m ap->Option (m Prop)
 |[],[]=>f []
 |b::h,d::g=>match C3 b d with
  |some e=>match jo h g with
   |some a=>f (gM e a)
   |none=>n
  |none=>n
 |_,_=>n
def wF(j e:ap):Prop:=
 (∀d h g a,j=.w d h g a->∃b,e=.w d h g b/\bs g a b)/\((∀d h g a,j≠.w d h g a)->(∀d h g a,e≠.w d h g a)/\(j=e∨(∃d k i,j=.cells d k/\e=.cells d i/\∀m o y,bM m o y k->bM m o y i)∨∃d h g a b,j=.p d h g a/\e=.p d h g b/\bs g a b))
theorem Za{B g}(d:C3 B g=f Y)(k:T Y):wF B g:=by
 unfold C3 at d;split at d
 .rename_i W h j U i x e b;split at d
  .rename_i r u;cases d;have m:=dn r;have w:=dn u;obtain⟨s,D⟩:j=e/\bs j U b:=k;subst m w s;refine⟨λeO J M C he=>?_,λK=>absurd a (K _ _ _ _)⟩;grind
  grind
 .rename_i W ag i o;split at d
  .rename_i r;have m:=dn r;subst m;exact⟨λ_ _ _ _ he=>qV,λ_=>⟨λ_ _ _ _ he=>qV,.inr (.inl ⟨W,ag,o,a,a,λN O y z=>C5 d k z⟩)⟩⟩
  grind
 .exact Fc
 .cases d;rename_i H p;have t:H=p:=k;subst t;exact Fc
 .cases d;rename_i F E z I q A;have t:ap.loop F E z=ap.loop I q A:=k;exact⟨λ_ _ _ _ he=>qV,λ_=>⟨λ_ _ _ _ he=>qV,.inl t⟩⟩
 .exact Fc
 .rename_i W h j U i x e b;split at d
  .rename_i r u;cases d;have m:=dn r;have w:=dn u;obtain⟨s,D⟩:j=e/\bs j U b:=k;subst m w s;exact⟨λ_ _ _ _ he=>qV,λ_=>⟨λ_ _ _ _ he=>qV,.inr (.inr ⟨W,h,j,U,b,a,a,D⟩)⟩⟩
  grind
 grind
def J':∀{h d:m ap}{e:m Prop},jo h d=f e->T e->c d=c h/\∀(i:Nat)g b,h[i]?=f g->d[i]?=f b->wF g b
 |[],[],_,_,_=>⟨rfl,λi g b a=>by grind⟩
 |[],_::_,_,a,_=>by cases a
 |_::_,[],_,a,_=>by cases a
 |k::u,o::t,e,a,j=>by
  simp only[jo]at a;split at a
  .rename_i s p;split at a
   .rename_i aes dt;cases a;rw[T.Z]at j;obtain⟨r,q⟩:=J' dt j.2;grind[Za]
   grind
  grind
def jM(D:jo k an=f Y)(af:T Y):q1 k an:=by
 obtain⟨aw,aD⟩:=J' D af;intro C G;have aA:∀(i:Nat) q,k[i]?=f q->∃r,an[i]?=f r/\wF q r:=M;have get:∀(i:Nat) (r:ap),an[i]?=f r->∃q,k[i]?=f q/\wF q r:=M;have ax:∀(i:Nat),(∀q,k[i]?=f q->q.dH=v)->∀q,an[i]?=f q->q.dH=v:=by
  intro i ae r p;obtain⟨q,aH,z⟩:=get i _ p;have av:=ae q aH;rcases(z.2 (λg h j b u=>by rw[u]at av;cases av)).2 with rfl|⟨g,e,K,rfl,rfl,_⟩|⟨g,h,j,b,d,rfl,rfl,_⟩
  .omega
  .rfl
  exact cS
 have aO:∀(i:Nat) g h j b,an[i]?=f (ap.p g h j b)->∃d,k[i]?=f (ap.p g h j d):=by
  intro i g h j b p;obtain⟨q,aH,z⟩:=get i _ p;by_cases B:∃g h j b,q=ap.w g h j b
  .obtain⟨E1,k1,ah,lN,rfl⟩:=B;obtain⟨d,s,_⟩:=z.1 _ _ _ _ rfl;cases s
  rcases(z.2 (λg h j b u=>B ⟨g,h,j,b,u⟩)).2 with rfl|⟨g,e,K,rfl,D,_⟩|⟨g,h,j,b,d,rfl,D,_⟩
  .grind
  .cases D
  grind
 have aK:∀(i:Nat) g h j b,an[i]?=f (ap.w g h j b)->∃d,k[i]?=f (ap.w g h j d):=by
  intro i g h j b p;obtain⟨q,aH,z⟩:=get i _ p;by_cases B:∃g h j b,q=ap.w g h j b
  .obtain⟨E1,k1,ah,lN,rfl⟩:=B;obtain⟨d,s,_⟩:=z.1 _ _ _ _ rfl;grind
  exact absurd a ((z.2 (λg h j b u=>B ⟨g,h,j,b,u⟩)).1 g h j b)
 have aq:∀(A:X) (R:O),cB k C A R->cB an C A R:=by
  intro A R o;cases R with
  |c aI=>exact o
  |ptr i aP=>exact⟨ax i o.1,o.2⟩
  |w i h j b=>
   refine⟨o.1,by rw[aw];exact o.2.1,λg I J d p=>?_⟩;obtain⟨kJ,t⟩:=aK i g I J d p;exact o.2.2 g I J kJ t
  |aV i=>exact⟨ax i o.1,o.2⟩
  |N i aQ=>
   obtain⟨ag,ai,aE,aF⟩:=o;refine⟨ag,ai,by grind,λg I J d p=>?_⟩;grind
  |any=>exact o
 have ak:∀(y:m X) (e:m O),bM k C y e->bM an C y e:=by
  intro y;induction y with
  |nil=>intro e o;cases e with|nil=>trivial|cons _ _=>exact o.elim
  |cons A y F=>intro e o;cases e with|nil=>exact o.elim|cons aC e=>exact⟨aq _ _ o.1,F _ o.2⟩
 have ar:∀(A:X) (u:E1),ey k C A u->ey an C A u:=by
  intro A u o;cases u with
  |R R=>exact aq _ _ o
  |agg e=>obtain⟨y,s,t⟩:=o;exact⟨y,s,ak _ _ t⟩
 have aL:∀(y:m X) (e:m E1),eV k C y e->eV an C y e:=by
  intro y;induction y with
  |nil=>intro e o;cases e with|nil=>trivial|cons _ _=>exact o.elim
  |cons A y F=>intro e o;cases e with|nil=>exact o.elim|cons aC e=>exact⟨ar _ _ o.1,F _ o.2⟩
 have au:∀(A:X) (U:x),bv k C A U->bv an C A U:=by
  intro A U o;cases U with
  |n aI=>exact ar _ _ o
  |Q aJ=>obtain⟨y,s,t⟩:=o;exact⟨y,s,aL _ _ t⟩
  |any=>trivial
 refine⟨⟨G.mem,by rw[G.len,aw],?_,G.a0,G.lt,G.own⟩,⟨bA _,λ_ _ _=>rfl,λ_ _ _ D=>D,λ_ _ _ _=>rfl,λL D Q w=>.inr ⟨L,D,w⟩,?_,a,a,a,a⟩,au⟩
 .intro i r L al W;obtain⟨q,aH,z⟩:=get i r al;have w:=G.box i q L aH W;by_cases B:∃g h j b,q=ap.w g h j b
  .obtain⟨g,h,j,b,rfl⟩:=B;obtain⟨d,rfl,p⟩:=z.1 _ _ _ _ rfl;refine⟨w.1.cz p,?_⟩;rcases w.2 with⟨s,t⟩|s
   .exact .inl ⟨s,t.cz p⟩
   grind
  rcases(z.2 (λg h j b u=>B ⟨g,h,j,b,u⟩)).2 with rfl|⟨g,e,K,rfl,rfl,S⟩|⟨g,h,j,b,d,rfl,rfl,S⟩
  .cases q with
   |cells g e=>obtain⟨Q,y,s,t,E,N⟩:=w;exact⟨Q,y,s,t,ak _ _ E,N⟩
   |w g h j b=>grind
   |J H=>exact w
   |M=>trivial
   |loop aN aM o=>obtain⟨i,tmps,fn,aB,s,t,E,N,V⟩:=w;exact⟨i,tmps,fn,aB,s,t,E,λaG=>au _ _ (N aG),V⟩
   |bl=>exact w
   |p g h j b=>exact w
  .obtain⟨Q,y,s,t,E,N⟩:=w;exact⟨Q,y,s,t,ak _ _ (S _ _ _ E),N⟩
  rcases w with w|⟨Q,Z,y,ao,s,t,E,N,V,aa,ab⟩
  .exact .inl w
  exact .inr ⟨Q,Z,y,ao,s,t,E,N,V,aa.cz S,ab⟩
 intro i q L aH W;obtain⟨r,al,z⟩:=aA i q aH;refine⟨r,L,al,W,?_⟩;by_cases B:∃g h j b,q=ap.w g h j b
 .obtain⟨g,h,j,b,rfl⟩:=B;obtain⟨d,rfl,p⟩:=z.1 _ _ _ _ rfl;exact⟨λ_=>rfl,bA _⟩
 rcases(z.2 (λg h j b u=>B ⟨g,h,j,b,u⟩)).2 with rfl|⟨g,e,K,rfl,rfl,S⟩|⟨g,h,j,b,d,rfl,rfl,_⟩
 .exact fM.refl _ _
 .exact a
 exact⟨λ_=>rfl,bA _⟩
section
variable {p:ah P}
theorem b0.aP{aL}{e}(I:∀d g,bX E k d F g->bb k d->∃a:a6,a.a=d.a/\bX E an a e g/\bb an a/\cN k d an a)(M:b0 p E r aL e an):b0 p E r aL F k:=by intro d g N b B u m A t s;obtain⟨a,K,D,y,x⟩:=I d g N b;have z:=x.tooQ b;refine .aP (.of b y K z) ?_;exact M a g D y B u m A t λC J i w j O o q h=>s C J i w j O o q (z.trans h)
theorem g.aP{b}{an}(h:∀d e,bX E k d F e->bb k d->∃a:a6,a.a=d.a/\bX E an a b e/\bb an a/\cN k d an a)(i:g p E bd (.code r::av) .normal b an):g p E bd (.code r::av) .normal F k:=
 b0.aP h i
def bX.aj{h:Act}(a:q1 k an)(e:bX E k b F h)(d:bb k b):bX E an b F h:=⟨e.size,e.defers.imp λ_ g=>g.mono (a b d).2.1.ext,λi=>(a b d).2.2 _ _ (e.ak i)⟩
def g.a_(an)(d:jo k an=f Y)(b:T Y)(i:g p E bd (.code r::av) .normal F an):g p E bd (.code r::av) .normal F k:=
 g.aP (λe j h a=>⟨e,rfl,h.aj (jM d b) a,(jM d b e a).1,(jM d b e a).2.1⟩) i
def g.bB(o)(W)(h){gk}(y:look F o=ax (.A l gk j U))(b:j=0)(s:g p E bd (.code r::av) .normal ((o,.n (.R (.w (c k) h j U)))::F) (k++[.w W h j U])):g p E bd (.code r::av) .normal F k:=by
 refine g.aP (λi d e bP=>?_) s;have t:=e.ak o;rw[y]at t;have a:=Rd.fW (h:=gk) (gk:=h) (.inr b) (b6 t);have aH:ew (k++[.w W h j U]) {i with s:=i.s++[⟨d.tmps.getD o I,[]⟩]} (.w W h j U) ⟨d.tmps.getD o I,[]⟩:=⟨a.eg,.inl ⟨⟨rfl,b⟩,a⟩⟩;obtain⟨x,m⟩:=bP.bY (.refl _ _) rfl bP aH C
 refine⟨{i with s:=i.s++[⟨d.tmps.getD o I,[]⟩]},rfl,⟨e.size,e.defers.imp λ_ a=>a.mono m.ext,λu=>?_⟩,x,m⟩;simp only[look];cases q:ad o u with
 |false=>exact(e.ak u).mono m.ext bP.len
 |true=>
  have w:=dn q;subst w;exact tq (L:=⟨d.tmps.getD o I,[]⟩) C tY aH
def g.b'{M:Type}(J:M->Prop)(h:M->bJ)(d:M->m ap)(Q:M->Nat)(q){D:m Prop}(aC:iZ F (h q)=f Y)(x:T Y)(ar:jo k (d q)=f D)(ai:T D)(aD:J q)(round:∀q,J q->g p E (λt y z=>match t with
   |.normal=>∃b,J b/\Q b<Q q/\iE y (h b)/\q1 z (d b)
   |t=>g p E bd av t y z) [.code r] .normal (h q) (d q)):g p E bd (.code (.loop r)::av) .normal F k:=by
 intro af aE ak w an X U R W V;have ab:=jM ar ai;obtain⟨ax,aA,_⟩:=ab af w;refine w9 (λj e aB=>∃b,J b/\bX E (d b) aB (h b) e/\bb (d b) aB/\de k af (d b) aB/\Q b=j) ?_ ?_ ⟨q,aD,(ak.le (eH aC x)).aj ab w,ax,aA.tooQ w,a⟩
 .rintro j e aB ⟨b,Z,o,A,N,t⟩;exact⟨d b,A,λG u=>⟨b,Z,o.rely u A,A.rely u,N.trans u.aI,t⟩⟩
 rintro j e aB ⟨b,Z,o,A,N,rfl⟩ al;refine round b Z aB e o A an (.inLoop r::X) U R W ?_;intro t O ah I S ae B i s;cases t with
 |normal=>
  obtain⟨ag,K,aq,ao,aa⟩:=ae;obtain⟨aw,au,_⟩:=aa I i;exact al S I (Q ag) aq ⟨ag,K,(B.le ao).aj aa i,aw,N.trans (s.trans (au.tooQ i)),a⟩
 |_=>exact kI.cons (λ_ _=>rfl) C (V _ _ _ _ _ ae B i (N.trans s))
def g.b5{d:Type}{r:d->Prop}{h:d->bJ}{i:d->m ap}{j:d->Nat}{s:d}{o:fw}(a){cR}(w:iZ F (h a)=f Y)(x:T Y)(t:jo k (i a)=f cR)(y:T cR)(z:r a)(u:j a<j s):
  g p E (λq b e=>match q with
   |.normal=>∃a,r a/\j a<j s/\iE b (h a)/\q1 e (i a)
   |q=>o q b e) [] .normal F k:=⟨a,z,u,eH w x,jM t y⟩
end
def Z.b1{w:ah P}{A}{args}{res d}(h:Z w A args [] res an)(C:ko res d=f Y)(D:T Y)(x:hQ 0 d=l):Z w A args [] d []:=by
 refine⟨h.1,λb y t j B o r=>h.2 b y t j B o λp F m s u g e=>?_⟩;have J:b.s=[]:=jB j.len;have E:eZ m {m with s:=[]}:=⟨rfl,λ_ _ _ h=>h,λ_ _ _=>rfl,g.mem,λz i=>.inl M⟩
 refine .aP E (r p F {m with s:=[]} (s.mono λ_ _ _ h=>h) ?_ ⟨g.mem,rfl,by simp,by simp,by simp,λz i=>⟨(g.own z i).1,by simp⟩⟩ ⟨e.size,e.a3,e.mem,e.bC,by simp,λK I L aH=>by grind,e.os,e.tape,e.output,e.own⟩);have q:=pd C D u;have:=bv.sub (aU:=[]) (k:=an) (an:=[]) (b:=m) (ly:=[]) (N:=d) a a (by rw[LK x];exact q) x;omega
section drop
variable {aQ bq:m ap}
def vg(b:Nat):ap->Bool
  |.cells _ a=>lg b a
  |.loop ..=>v
  |_=>l
def km(a:Nat):m ap->Bool
  |[]=>l
  |b::d=>match vg a b with|true=>km a d|false=>v
def JY{j}:∀{e:m ap},km j e=l->∀a∈e,vg j a=l
  |[],_,a,aH=>by grind
  |g::h,b,a,aH=>by
    simp[km]at b;cases d:vg j g with
    |false=>grind
    |true=>
      simp[d]at b;rcases e8.1 aH with rfl|aH
      · exact d
      · exact JY b a aH
def ew.fA{d}{L}(j:vg (c aQ) d=l)(a:ew (aQ++bq) b d L):ew aQ (b.cut (c aQ)) d L:=by
  cases d with
  |cells i o=>
    obtain⟨k,y,g,h,p,m⟩:=a;exact⟨k,y,g,h,bM.cF p j,m⟩
  |w i q r e=>exact a
  |J H=>exact a
  |M=>trivial
  |loop t s u=>simp[vg]at j
  |bl=>exact a
  |p i q r e=>exact a
def bb.drop(e:bb (aQ++bq) b)(r:km (c aQ) aQ=l):bb aQ (b.cut (c aQ)):=by
  have m:c aQ<=c b.s:=by rw[e.len];simp
  refine⟨e.mem,by simp[a6.cut,m],?_,?_,?_,λg a=>⟨(e.own g a).1,λL d=>(e.own g a).2 L (gY d)⟩⟩
  · intro i p L aH d
    have q:i<c aQ:=(cO.1 aH).1;simp[a6.cut,h2,q,dA]at d;exact ew.fA (bq:=bq) (JY r p (b8 aH)) (e.box i p L M d)
  · intro i o L j d k g a h
    simp only[a6.cut,h2]at d k;split at d<;>split at k<;>first|exact e.a0 i o L j d k g a h|grind|grind
  · intro L d g a
    exact e.lt L (gY d) g a
def ja.drop(o:jN bq=l):∀{e:m Deferred} {g:m Nat},ja (aQ++bq) b e g->ja aQ (b.cut (c aQ)) e g
  |[],[],_=>trivial
  |[],_::_,i=>i.elim
  |_::_,[],i=>i.elim
  |t::e,p::g,⟨⟨d,L,i,k,s⟩,q,r⟩=>by
    have h:p<c aQ:=by
      rcases dW p (c aQ) with j|j
      · exact j
      · rw[ho j]at d
        exact absurd a (vw o _ (b8 d))
    rw[j6 h]at d;exact⟨⟨d,L,i,by simp[a6.cut,h2,h,dA];exact k,s⟩,q,ja.drop o r⟩
def vz(b:Nat)(a:m ap):Bool:=match ay b (c a) with|true=>jN (a.drop b)|false=>v
theorem yJ(a:vz j k=l):ay j (c k)=l/\jN (k.drop j)=l:=by unfold vz at a;grind
end drop
def qs(a:Nat):bJ->Bool
  |[]=>l
  | (_,b)::d=>match hQ a b with|true=>qs a d|false=>v
def vh{j}:∀{d:bJ} {a:Nat},qs j d=l->hQ j (look d a)=l
  |[],a,_=>rfl
  | (h,g)::i,a,b=>by
    simp[qs]at b;cases e:hQ j g with
    |false=>grind
    |true=>
      simp[e]at b;simp[look];cases ad h a with
      |true=>exact e
      |false=>exact vh b
section
variable {p:ah P}
def md{e:Type}(w:ah P)(u:Nat)(j:fw)(t:m im)(s:e->Prop)(r:e->bJ)(p:e->m ap)(q:e->Nat)(o:Nat)(x:e):fw:=λk d h=>match k with
  |.normal=>∃i,s i/\q i<q x/\iE d (r i)/\qs o (r i)=l/\∃a b,h=a++b/\c a=o/\(km o a=l/\jN b=l)/\q1 a (p i)
  |k=>g w u j t k d h
def g.aC{A:Type}(j)(z:A->Prop)(h:A->bJ)(b7:A->m ap)(U:A->Nat)(i){cR}(x:iZ F (h i)=f Y)(an:T Y)(aC:jo k (b7 i)=f cR)(ak:T cR)(ax:c k=j)(G:z i)(round:∀i,z i->g p E (md p E bd av z h b7 U j i) [.code r] .normal (h i) (b7 i)):g p E bd (.code (.loop r)::av) .normal F k:=by
  intro af aM ao t X S J D d R;have aa:=jM aC ak;obtain⟨aH,K,_⟩:=aa af t;refine w9 (λab e b=>∃bE,z bE/\bX E (b7 bE) b (h bE) e/\bb (b7 bE) b/\de k af (b7 bE) b/\U bE=ab) ?_ ?_ ⟨i,G,(ao.le (eH x an)).aj aa t,aH,K.tooQ t,a⟩
  · rintro j e b ⟨bE,Q,O,B,N,au⟩
    exact OC
  rintro ab e b ⟨bE,Q,O,B,N,rfl⟩ ar;refine round bE Q b e O B X (.inLoop r::S) J D d ?_;intro au H ah w I ae y s o;cases au with
  |normal=>
    obtain⟨ag,aL,aB,aA,aJ,q,V,rfl,aK,⟨aI,ai⟩,aE⟩:=ae;have W:=s.drop M;obtain⟨aG,Z,aD⟩:=aE _ W;have f3:=y.le aA;have aq:eZ w (w.cut (c q)):=⟨rfl,λ_ _ _ aw=>aw,λ_ _ _=>rfl,s.mem,λX d=>d.imp id λ⟨L,al,d⟩=>⟨L,gY al,d⟩⟩
    refine .aP aq (ar I (w.cut (c q)) (U ag) aB ⟨ag,aL,⟨f3.size,f3.defers.imp λ_ c5=>(c5.drop ai).mono Z.ext,λaF=>aD _ _ ((f3.ak aF).drop (vh M))⟩,aG,?_,a⟩);exact((N.trans o).drop u).trans (Z.tooQ W)
  |_=>exact kI.cons (λ_ _=>rfl) C (R _ _ _ _ _ ae y s (N.trans o))
def g.h'{h:Type}{o:h->Prop}{a:h->bJ}{d:h->m ap}{i:h->Nat}{q}{e}(b){cR}(w:iZ F (a b)=f Y)(y:T Y)(t:qs j (a b)=l)(r:vz j k=l)(s:jo (k.take j) (d b)=f cR)(z:T cR)(x:km j (k.take j)=l)(A:o b)(u:i b<i q):
    g p E (md p E bd e o a d i j q) [] .normal F k:=
  ⟨b,A,u,eH w y,t,k.take j,k.drop j,(uy j k).symm,by grind[Nat.le_of_ble_eq_true,yJ],⟨x,(yJ r).2⟩,jM s z⟩
def g.aw{h:Type}{j}{o:h->Prop}{a:h->bJ}{e:h->m ap}{i:h->Nat}{q}{w}(d){Y cR}(b:(iZ F (a d),qs j (a d),vz j k,jo (k.take j) (e d),km j (k.take j))=(f Y,l,l,f cR,l))(s:T Y)(u:T cR)(t:o d)(r:i d<i q):
    g p E (md p E bd w o a e i j q) [] .normal F k:=by simp[lE]at b;exact g.h' d b.1 s b.2.1 b.2.2.1 b.2.2.2.1 u b.2.2.2.2 t r
def g.az{br:Type}{cH:br->Prop}{hG:br->bJ}{b7:br->m ap}{i:br->Nat}{D}{id}{r w N}(h:g p E bd N .normal F k)(c5:iV id r=n:=by exact rfl)(dt:iV id w=f N:=by exact rfl):
    g p E (md p E bd w cH hG b7 i j D) (.code (.exit id)::r) .normal F k:=
  b0.mono (g.bs (O:=λdF an=>md p E bd w cH hG b7 i j D .normal dF an) c5 dt h) λau dF an bi=>by
    have key:∀av au,g p E (λau dF an=>match au with
        |.normal=>md p E bd w cH hG b7 i j D .normal dF an
        |au=>g p E bd w au dF an) av au dF an->g p E (md p E bd w cH hG b7 i j D) av au dF an:=by
      have au:(λau dF an=>match au with
        |.normal=>md p E bd w cH hG b7 i j D .normal dF an
        |au=>g p E bd w au dF an)=md p E bd w cH hG b7 i j D:=by funext au dF an;cases au<;>rfl
      grind
    exact key _ _ bi
def g.aT{a:Type}{e:a->Prop}{b:a->bJ}{d:a->m ap}{o:a->Nat}{r}{h i}(q:bd .ret F k):g p E (md p E bd i e b d o j r) (.code .ret::h) .normal F k:=
  g.ret (g.dL (bd:=bd) q)
theorem bX.freeze(o d){ag}{gN}(ak:look F o=aI d 0)(O:c' d k=f (.cells W ag))(aa:h5 ag=f gN){w}(B:bX E k b F w)(g:bb k b):∃i:a6,i.a=b.a/\bX E (k.set d .M) i ((o,ax (.O gN))::F) w/\bb (k.set d .M) i/\cN k b (k.set d .M) i:=by
  have aH:=eo O;have af:d<c k:=(cO.1 aH).1;have Y:=B.ak o;rw[ak]at Y;obtain⟨_,L,r,R,T,ai⟩:=Y;obtain⟨z,y,s,K,x,G⟩:=g.box d _ L aH R;subst s;simp at T;subst T;let i:a6:={b with C:=λX u=>if X=z then y[u]? else b.C X u}
  have q:cN k b (k.set d .M) i:=by
    refine⟨bA _,λ_ _ _=>rfl,?_,?_,λL ab r j=>.inr ⟨L,ab,j⟩,?_,a,a,a,a⟩
    · grind
    · intro r j Q u
      have ah:r≠z:=λau=>Q _ (b8 R) z0;grind
    · intro p D m e h
      by_cases au:d=p
      · subst au
        rw[aH]at e;cases e;exact⟨.M,m,by grind,h,a⟩
      · exact⟨D,m,by grind,h,.refl _ _⟩
  refine⟨i,a,⟨B.size,B.defers.imp λ_ s=>s.mono q.ext,λZ=>?_⟩,⟨?_,by simp[g.len,i],?_,g.a0,g.lt,g.own⟩,q⟩
  · simp only[look]
    cases j:ad o Z with
    |false=>exact(B.ak Z).mono q.ext g.len
    |true=>
      have au:=dn j;subst au;rw[ai];have V:=ry aa x;refine Rd.O z 0 (λt=>(y[t]?).getD I) ?_ ?_
      · intro t J N
        obtain⟨C,U,_⟩:=V.get (t:=t) (w:=.c J) M;grind
      · intro t J N
        obtain⟨C,U,S⟩:=V.get (t:=t) (w:=.c J) M;simp[U,h3];exact Rd.mono q.mem S
  · intro r u C ae
    by_cases au:r=z
    · subst au
      have A:y[u]?=f C:=M;show b.a.cell? _=_;simp[aJ,K,A]
    · exact g.mem r u C M
  · intro p D m e h
    by_cases au:d=p
    · subst au
      rw[iq af]at e;cases e;trivial
    · rw[j9 au]at e
      refine(g.box p D m e h).b8 q.ext g.len λr j=>⟨a,λu=>?_⟩
      have ah:r≠z:=λal=>au (g.a0 d p _ m R h r M j);grind
theorem g.freeze(o d){W}{ag}{gN}(h:look F o=aI d 0)(a:c' d k=f (.cells W ag))(e:h5 ag=f gN)(b:g p E bd (.code r::av) .normal ((o,ax (.O gN))::F) (db.cu d .M k)):g p E bd (.code r::av) .normal F k:=by grind[mM,g.aP,bX.freeze]
def g.R{bq}{D}(b:aZ p E all q F k D an)(a:fi E q.dst=l)(d:g p E bd (.S all bq::av) .normal (gb q.dst D F) an):g p E bd (.S all (q::bq)::av) .normal F k:=
  ff.dd b (k8 a) d
end
structure Ab(N:TypeDesc)(U:Array MapEntry)(h:X)(w:Option (Nat×X)):Prop where
 key:MapKept.IsKey N h
 c1:Instr.findNow N h U.toList 0=f w
 c0:w=n->∀au∈U.toList,au.key≠h
 gJ:∀t aa,w=f (t,aa)->∃au,U[t]?=f au/\au.key=h/\au.val=aa
def Jx{N}{U}{h}(a:MapKept.IsKey N h)(e:∀b∈U.toList,MapKept.IsKey N b.key):∃d,Ab N U h d:=by
 rcases MapKept.findNow_spec a U.toList 0 e with⟨i,B⟩|⟨t,b,i,B,z⟩
 .exact⟨n,a,i,λ_=>B,by simp⟩
 refine⟨_,a,i,by simp,λj k g=>?_⟩;grind
section
variable {Q:ar}{r ak:al}{N:TypeDesc}{a9:Nat}{U:Array MapEntry}{clock:Nat}{h:X}{ok:Bool}
def LX(a:P.underlying r=f N):(underlying r).run P Q=.ok N Q:=by simp[underlying,a]
def xW(b:P.underlying r=f N)(d:MapKept.IsKey N h)(i)(a):(Instr.checkKey i 10000 r h).events P Q a=a:=by show(Instr.checkKey i (9999+1) r h).events P Q a=a;unfold Instr.checkKey;simp[aD,LX b,aF,events_underlying];cases N<;>cases h<;>first|exact d.elim|simp
def xZ{d}{e}(b:P.underlying r=f N)(g:Instr.findNow N h d 0=f e)(a):(Instr.findKey r h d).events P Q a=a:=by simp[Instr.findKey,LX b,g]
def x0(b:Q.heap[a9]?=f (.map U clock))(a):(getObj a9).events P Q a=a.push ⟨.obj a9,v,v⟩:=by simp only[getObj,Sem.events,Sem.runT,b];rfl
def I2(d:Q.heap[a9]?=f (.map U clock)){dH}{b}(a):(setObj a9 (.map dH b)).events P Q a=a.push ⟨.obj a9,l,v⟩:=by simp[setObj,Sem.events,Sem.runT,d];rfl
def LS(a:P.underlying r=f N)(b:MapKept.IsKey N h)(i):(Instr.checkKey i 10000 r h).run P Q=.ok () Q:=MapKept.run_checkKey a b i 9999
def Ki(s:P.underlying o=f (.map r ak))(b:P.underlying r=f N)(e:Q.heap[a9]?=f (.map U clock)){g}(d:Ab N U h g){eI}(m:g=n->(zeroValue ak).run P Q=.ok eI Q):
  (Instr.lookup o (.map (f a9)) h ok).run P Q=.ok (match g with
   |some (_,p)=>if ok=l then .tuple #[p,.bool l]else p
   |none=>if ok=l then .tuple #[eI,.bool v]else eI) Q/\(Instr.lookup o (.map (f a9)) h ok).events P Q #[]=#[⟨.obj a9,v,v⟩]:=by
 have j:(underlying o).run P Q=.ok (.map r ak) Q:=by simp[underlying,s]
 have k:=LS (Q:=Q) b d.key U.isEmpty;have i:(Instr.findKey r h U.toList).run P Q=.ok g Q:=MapKept.run_findKey b d.c1;cases g with
 |some q=>
  constructor
  .simp only[Instr.lookup,cK,j,c9,MapKept.run_getObj_map e,dZ,k,i]
  simp only[Instr.lookup,aD,j,aF,MapKept.run_getObj_map e,dZ,Sem.events_pure,k,i,events_underlying,x0 e,xW b d.key,xZ b d.c1];rfl
 |none=>
  constructor
  .simp only[Instr.lookup,cK,j,c9,MapKept.run_getObj_map e,dZ,k,i,m a]
  simp only[Instr.lookup,aD,j,aF,MapKept.run_getObj_map e,dZ,Sem.events_pure,k,i,events_underlying,x0 e,xW b d.key,xZ b d.c1,m a,events_zeroValue];rfl
def Nf(x:P.underlying o=f (.map r ak))(a:P.underlying r=f N)(d:Q.heap[a9]?=f (.map U clock)){g}{D}(e:Ab N U h g):
  (Instr.mapUpdate o (.map (f a9)) h D).run P Q=.ok () {Q with heap:=Q.heap.setIfInBounds a9 (match g with
   |some (m,_)=>.map (U.modify m λq=>{key:=h,val:=D,born:=q.born}) clock
   |none=>.map (U.push {key:=h,val:=D,born:=clock}) (clock+1))} /\
  (Instr.mapUpdate o (.map (f a9)) h D).events P Q #[]=#[⟨.obj a9,v,v⟩,⟨.obj a9,l,v⟩]:=by
 have j:(underlying o).run P Q=.ok (.map r ak) Q:=by simp[underlying,x]
 have k:=LS (Q:=Q) a e.key v;have i:(Instr.findKey r h U.toList).run P Q=.ok g Q:=MapKept.run_findKey a e.c1;cases g with
 |some p=>
  obtain⟨m,y⟩:=p;obtain⟨q,t,u,_⟩:=e.gJ m y rfl;have s:(Instr.keyThatStays h h).run P Q=.ok h Q:=MapKept.run_keyThatStays e.key;have w:∀b,(Instr.keyThatStays h h).events P Q b=b:=λb=>by simp[Instr.keyThatStays,MapKept.sameBits_self e.key]
  constructor
  .simp only[Instr.mapUpdate,cK,j,c9,MapKept.run_getObj_map d,k,i,t,lD,h3,u,s,MapKept.run_setObj_map _ d]
  simp only[Instr.mapUpdate,aD,j,aF,MapKept.run_getObj_map d,k,i,t,lD,h3,u,s,w,events_underlying,x0 d,I2 d,xW a e.key,xZ a e.c1];rfl
 |none=>
  constructor
  .simp only[Instr.mapUpdate,cK,j,c9,MapKept.run_getObj_map d,k,i,MapKept.run_setObj_map _ d]
  simp only[Instr.mapUpdate,aD,j,aF,MapKept.run_getObj_map d,k,i,events_underlying,x0 d,I2 d,xW a e.key,xZ a e.c1];rfl
end
def bb.b6(i:bb k b){j1:X->(Nat->Option Obj)->Prop}{L cu}(aH:k[d]?=f (.J H))(A:b.s[d]?=f L)(G:cu.v=L.v)(R:b.a.heap.size<=bg.heap.size)(N:∀e,e<b.a.heap.size->e∉L.aj->bg.heap[e]?=b.a.heap[e]?)(D:∀e∈cu.aj,e∈L.aj∨(b.a.heap.size<=e/\e<bg.heap.size))(y:∃p,j1 cu.v p/\(∀e t,p e=f t->bg.heap[e]?=f t)/\(∀e,e∈cu.aj↔(p e).isSome=l))(Q:bg.os=b.a.os)(Z:bg.tape=b.a.tape)(K:bg.output=b.a.output):
  bb (k.set d (.J j1)) ⟨b.s.set d cu,b.C,bg,b.own⟩/\cN k b (k.set d (.J j1)) ⟨b.s.set d cu,b.C,bg,b.own⟩:=by
 have bx:d<c k:=(cO.1 aH).1;have ag:d<c b.s:=M;obtain⟨aa,_,_,_,x⟩:=i.box d _ L aH A;have Y:∀e∈cu.aj,∀t,b.C e t=n:=by
  intro e E t;rcases D e E with o|⟨o,_⟩
  .grind
  cases r:b.C e t with
  |none=>rfl
  |some U=>have:=i.block r;omega
 have B:cN k b (k.set d (.J j1)) ⟨b.s.set d cu,b.C,bg,b.own⟩:=by
  refine⟨R,M,λ_ _ _ i=>i,λ_ _ _ _=>rfl,M,?_,Q,Z,K,a⟩;intro g I j u z;by_cases C:d=g
  .subst C;rw[aH]at u;cases u;rw[A]at z;cases z;exact⟨.J j1,cu,by grind,by grind,G⟩
  exact⟨I,j,by grind,by grind,.refl _ _⟩
 have J:∀g j,(b.s.set d cu)[g]?=f j->(g=d/\j=cu)∨(d≠g/\b.s[g]?=f j):=M;refine⟨⟨?_,by simp[i.len],?_,?_,?_,?_⟩,B⟩
 .intro e t U r;have ah:=i.block r;have ab:e∉L.aj:=λs=>by grind
  rw[<-i.mem e t U r];simp only[aJ];grind
 .intro g I j u z;rcases J g j z with⟨rfl,rfl⟩|⟨C,m⟩
  .rw[iq bx]at u;cases u;obtain⟨p,k1,V,O⟩:=y;exact⟨p,k1,V,O,Y⟩
  rw[j9 C]at u;refine(i.box g I j u m).b8 B.ext i.len λe E=>⟨N e (i.lt j (b8 m) e E) λs=>C (i.a0 d g L j A m e s E),λ_=>rfl⟩
 .intro W F q j o m e h w;rcases J W q o with⟨rfl,rfl⟩|⟨dJ,T⟩<;>rcases J F j m with⟨rfl,rfl⟩|⟨e3,S⟩
  .rfl
  .rcases D e h with s|s
   .exact i.a0 _ _ L j A S e s w
   have:=i.lt j (b8 S) e w;omega
  .rcases D e w with s|s
   .exact i.a0 _ _ q L T A e h s
   have:=i.lt q (b8 T) e h;omega
  exact i.a0 _ _ q j T S e h w
 .intro j z e w;rcases As z with o|o
  .exact eC (i.lt j o e w) R
  subst o;rcases D e w with m|m
  .exact eC (i.lt L (b8 A) e m) R
  grind
 intro e y;obtain⟨af,ae⟩:=i.own e y;grind
section
variable {j1:X->(Nat->Option Obj)->Prop}
end
def bY.di{fn}{d}{res}(aU)(e:pr fn.results.toList aU F res=f Y)(m:T Y)(j:dx aU k=f an)(i:l1 an=l)(h:fb aU=l)(g:∀b,b<d->aU[b]?=f b):
  bY fn d res an .normal F k:=by refine⟨.inr a,aU,?_⟩;unfold pr at e;grind
def g.iB{b:ah P}{h}{aQ}{res}(s:Z b h cQ dh res aQ)(aU)(j:q.guard=n)(e:q.op=.call {callee:=.value cP,args:=af,argTypes:=ds})(u:g1 (bD F cP)=f (h,cap))(i:k4 (af.toList.map (bD F)++e' cap)=gn aU cQ)(o:hd (c aU) cQ=l)(p:dx aU k=f dh)(t:eu dh=l)(m:eu aQ=l)(d:fb aU=l)(r:ay (c aU) (c aQ)=l)(x:fi E q.dst=l)(w:g b E bd (.S all bq::av) .normal (gb q.dst (fc (aU++gU (c k) (c aQ-c aU)) res) F) (db aU aQ k)):g b E bd (.S all (q::bq)::av) .normal F k:=
 ff.call (λ_ _ _ _=>i_ j) e u aU s i o p t m d (fq r) q.dst a (k8 x) w
def g.dX{d:ah P}{i}(t:bl d i cQ dh res aQ)(aU)(m:q.guard=n)(h:q.op=.call {callee:=.value cP,args:=af,argTypes:=ds})(x:g1 (bD F cP)=f (i,cap))(j:k4 (af.toList.map (bD F)++e' cap)=gn aU cQ)(p:hd (c aU) cQ=l)(r:dx aU k=f dh)(u:eu dh=l)(o:∀b,eu (aQ b)=l)(e:fb aU=l)(s:∀b,ay (c aU) (c (aQ b))=l)(y:fi E q.dst=l)(w:∀b,g d E bd (.S all bq::av) .normal (gb q.dst (fc (aU++gU (c k) (c (aQ b)-c aU)) (res b)) F) (db aU (aQ b) k)):g d E bd (.S all (q::bq)::av) .normal F k:=
 ff.gQ (λ_ _ _ _=>i_ m) h x aU t j p r u o e (λb=>fq (s b)) q.dst a (k8 y) w
def g.aA{P:aE}{b:ah P}{E}{bd}{av}{F}{k}{all bq}{q}{cP}{af}{ds}{a}{cap}{cQ}{dh aQ}{res}(w:Z b a cQ dh res aQ)(aU)(d:(q.guard,q.op,g1 (bD F cP),k4 (af.toList.map (bD F)++e' cap),hd (c aU) cQ,dx aU k,eu dh,eu aQ,fb aU,ay (c aU) (c aQ),fi E q.dst)=(n,.call {callee:=.value cP,args:=af,argTypes:=ds},f (a,cap),gn aU cQ,l,f dh,l,l,l,l,l))(s:g b E bd (.S all bq::av) .normal (gb q.dst (fc (aU++gU (c k) (c aQ-c aU)) res) F) (db aU aQ k)):g b E bd (.S all (q::bq)::av) .normal F k:=by simp only[lE]at d;obtain⟨e,h,i,j,m,a,o,p,r,t,u⟩:=d;exact g.iB w aU e h i j m a o p r t u s
def g.aX{P:aE}{e:Type}{i:ah P}{E}{bd}{av}{F}{k}{all bq}{q}{cP}{af}{ds}{h}{cap}{cQ}{dh}{a:e->m ap}{d:e->x}(y:bl i h cQ dh d a)(aU)(o:(q.guard,q.op,g1 (bD F cP),k4 (af.toList.map (bD F)++e' cap),hd (c aU) cQ,dx aU k,eu dh,fb aU,fi E q.dst)=(n,.call {callee:=.value cP,args:=af,argTypes:=ds},f (h,cap),gn aU cQ,l,f dh,l,l,l))(j:∀b,(eu (a b),ay (c aU) (c (a b)))=(l,l))(z:∀b,g i E bd (.S all bq::av) .normal (gb q.dst (fc (aU++gU (c k) (c (a b)-c aU)) (d b)) F) (db aU (a b) k)):g i E bd (.S all (q::bq)::av) .normal F k:=by simp only[lE]at o j;obtain⟨p,r,s,t,u,h,w,b,A⟩:=o;exact g.dX y aU p r s t u h w (λb=>(j b).1) b (λb=>(j b).2) A z
def lW:m x->m x->Option (m Prop)
 |[],[]=>f []
 |d::a,e::b=>match ko d e with
  |some g=>match lW a b with
   |some h=>f (gM g h)
   |none=>n
  |none=>n
 |_,_=>n
def s_{k}{b}:∀{y:m X}{e g:m x}{d:m Prop},lW e g=f d->T d->b4 k b y e->b4 k b y g
 |[],[],[],_,_,_,_=>trivial
 |_::_,[],_,_,_,_,a=>a.elim
 |[],_::_,_,_,_,_,a=>a.elim
 |[],[],_::_,_,a,_,_=>by simp[lW]at a
 |_::_,_::_,[],_,a,_,_=>by simp[lW]at a
 |w::y,r::h,s::i,d,a,j,q=>by
  simp[lW]at a;cases o:ko r s with
  |none=>grind
  |some t=>
   cases p:lW h i with
   |none=>grind
   |some u=>
    simp[o,p]at a;subst a;rw[T.Z]at j;exact⟨pd o j.1 q.1,s_ p j.2 q.2⟩
def g.bH{d:ah P}{i}(x:bl d i cQ dh res aQ)(aU)(o:q.guard=n)(h:q.op=.call {callee:=.value cP,args:=af,argTypes:=ds})(z:g1 (bD F cP)=f (i,cap))(j:lW (af.toList.map (bD F)++e' cap) (gn aU cQ)=f Y)(m:T Y)(r:hd (c aU) cQ=l)(s:dx aU k=f dh)(A:eu dh=l)(p:∀b,eu (aQ b)=l)(e:fb aU=l)(u:∀b,ay (c aU) (c (aQ b))=l)(B:fi E q.dst=l)(w:∀b,g d E bd (.S all bq::av) .normal (gb q.dst (fc (aU++gU (c k) (c (aQ b)-c aU)) (res b)) F) (db aU (aQ b) k)):g d E bd (.S all (q::bq)::av) .normal F k:=
 ff.eW (λ_ _ _ _=>i_ o) h z aU x (λC y t=>s_ j m t) r s A p e (λb=>fq (u b)) q.dst a (k8 B) w
def aaI{b:Act}{a}(d:a<b.tmps.size):(b.put (f a) aa).tmps.getD a I=aa:=by simp[Act.put,hA,uz d]
def dv.of_eq{U dH}(a:U=dH)(d:dv b dH):dv b U:=M
def x2{z}{a:Sem Next}(e:dv b (z.events P b.a #[]))(d:a=(do pure (.value (<-z)))):dv b (a.events P b.a #[]):=by grind[iU]
def Iq{a}{fn}{au:Array X->Sem X}(d:P.funcs[a]?=f fn)(k:(fn.name== "runtime.NumGoroutine")=v)(s:fn.body.isNone=l)(j:Extern.findNext fn=n)(e:Extern.find fn=f au)(args)(i:dz P (au args))(b)(U):
  (callFunc a args).events P b U=U.push ⟨.mark (.extern a),v,l⟩:=by have h:fn.name≠ "runtime.NumGoroutine":=M;have g:fn.body=n:=wz;simp[callFunc,d,h,g,j,e];rw[i b]
section
variable {p:ah P}
def eg(P:aE)(p:Nat)(k:ao)(o:bJ)(g:m ap)(q:ι->x)(b:ι->m ap):Prop:=
 ∀d h,bX p g d o h->bb g d->∃e i a j,(ab h.eval k).run P d.a=.ok i a.a/\(i=.value j∨(i=.skip/\j=I))/\bv (b e) a j (q e)/\bb (b e) a/\cN g d (b e) a/\dv d ((ab h.eval k).events P d.a #[])
def g.cC(M:ι->x)(b:ι->m ap)(af:q.guard=n)(ag:fi E q.dst=l)(T:eg P E q F k M b)(U:∀o,g p E bd (.S all bq::av) .normal (gb q.dst (M o) F) (b o)):g p E bd (.S all (q::bq)::av) .normal F k:=by
 intro ai O R j Q C u N idx i a B;cases idx with
 |nil=>exact a.elim
 |cons ah idx=>
 refine rl i a.1 (i_ af) λaa w=>?_;have h:=j.rely w;have d:=R.rely w j;obtain⟨o,Y,r,ab,A,e,ae,J,K,W⟩:=T aa O d h;have y:=K.tooQ h;refine⟨Y,r,ab,A,e,⟨⟨k,b o,h,J,K⟩,W⟩,?_⟩;refine U o r _ ?_ J Q C u N idx i a.2 λS s D t X z e I=>B S s D t X z e ((w.aI.trans y).trans I);cases V:q.dst with
 |none=>exact d.mono y h.len
 |some Z=>exact(d.mono y h.len).put (k8 ag Z V) ae
def g.aK{a}(e:a0 P q (bD F) k a an)(b:q.guard=n)(d:fi E q.dst=l)(h:g p E bd (.S all bq::av) .normal (gb q.dst a F) an):g p E bd (.S all (q::bq)::av) .normal F k:=
 g.R (.a1 (λ_ _ _ _=>i_ b) e) d h
def oF(a:m ao)(d:bJ)(g:ao):Bool:=match g.guard with
 |none=>l
 |some (e,b)=>match yl d a e with
  |some (f l)=>b
  |some (f v)=>!b
  |_=>v
def jW(a:oF all F q=l):∀d h b,bX E d h F b->aS q (yielded all.toArray b.tmps)=l:=by
 intro d h b g;unfold oF at a;split at a
 .grind [i_]
 rename_i j i e;split at a
 .rename_i r;simp only[aS,e,ym r g,a];rfl
 .rename_i r;simp only[aS,e,ym r g];grind
 grind
def g.iC{e}{aQ}{res}(s:Z p e cQ dh res aQ)(aU)(i:oF all F q=l)(d:q.op=.call {callee:=.value cP,args:=af,argTypes:=ds})(u:g1 (bD F cP)=f (e,cap))(h:k4 (af.toList.map (bD F)++e' cap)=gn aU cQ)(m:hd (c aU) cQ=l)(o:dx aU k=f dh)(t:eu dh=l)(j:eu aQ=l)(b:fb aU=l)(r:ay (c aU) (c aQ)=l)(x:fi E q.dst=l)(w:g p E bd (.S all bq::av) .normal (gb q.dst (fc (aU++gU (c k) (c aQ-c aU)) res) F) (db aU aQ k)):g p E bd (.S all (q::bq)::av) .normal F k:=
 ff.call (jW i) d u aU s h m o t j b (fq r) q.dst a (k8 x) w
end
section
variable {p:ah P}
def g.fZ{dF}(h:g p E bd (.code r::av) .normal dF an){cR}(a:iZ F dF=f Y)(d:T Y)(b:jo k an=f cR)(e:T cR):g p E bd (.code r::av) .normal F k:=
 g.a_ an b e (b0.le h (eH a d))
def B4:m im->m im
 |.blk _::av=>B4 av
 |av=>av
def g.fA:∀{av:m im},g p E bd (B4 av) .normal F k->g p E bd av .normal F k
 |[],a=>a
 |.blk _::av,a=>g.fA (av:=av) a
 |.code _::_,a=>a
 |.S _ _::_,a=>a
def g.cj{s S2:Type}{iN}(id){u e}(o:iV id av=f u)(J:Go.AM.B4 u=.code iN::e)(z:S2->Prop)(eh:S2->bJ)(A:S2->m ap)(j)(q:s->Prop)(b:s->bJ)(d:s->m ap)(B:s->Nat)(h){a}(D:iZ F (b h)=f Y)(t:T Y)(C:jo k (d h)=f a)(w:T a)(y:c k=j)(I:q h)(round:(∀i {F:bJ} {k:m ap} {Y a:m Prop},z i->iZ F (eh i)=f Y->T Y->jo k (A i)=f a->T a->g p E bd u .normal F k) ->
   ∀h,q h->g p E (md p E bd av q b d B j h) [.code r] .normal (b h) (d h))(after:∀i,z i->g p E bd (.code iN::e) .normal (eh i) (A i)):g p E bd (.code (.loop r)::av) .normal F k:=
 g.aC j q b d B h D t C w y I (round λi _ _ _ _ K x t o w=>g.fA (by rw[J];exact(after i K).fZ x t o w))
end
section
variable {p:ah P}
def iF(o:ah P)(r:Nat)(j:m x)(i:m ap)(h:Bool)(e:ι->m ap):Prop:=
 ∀a (y:m X) (d:Nat),b4 i a y j->bb i a->(∃L,a.s[r]?=f L/\L.v=.func (.yield d) #[] #[]) ->
  ∃fn tmps assign body,(Instr.yield d y.toArray).run P a.a=.ok (.round d fn tmps assign body) a.a/\(Instr.yield d y.toArray).events P a.a #[]=#[⟨.obj d,v,v⟩] /\
  ∀(k:ai->a6->Prop) p g,(∀q b,bb (e q) b->de i a (e q) b->ce o k (G (p.finish (.bool h)) g) b) ->
   ce o k (G (Frame.round d fn tmps assign body .normal) (p::g)) a
def y6{Q}{b}(g:Q.heap[d]?=f (.loop b)):(Instr.getLoop d).run P Q=.ok b Q/\∀a,(Instr.getLoop d).events P Q a=a.push ⟨.obj d,v,v⟩:=by
 have e:(getObj d).run P Q=.ok (.loop b) Q:=by simp[getObj,Sem.run,g]
 have h:∀a,(getObj d).events P Q a=a.push ⟨.obj d,v,v⟩:=λa=>by simp only[getObj,Sem.events,Sem.runT,g];rfl
 constructor
 .simp[Instr.getLoop,e]
 intro a;simp[Instr.getLoop,e,h]
def DX{Q}{e gd}(b:Q.heap[d]?=f (.loop e)):(setObj d (.loop gd)).run P Q=.ok () {Q with heap:=Q.heap.setIfInBounds d (.loop gd)}/\∀a,(setObj d (.loop gd)).events P Q a=a.push ⟨.obj d,l,v⟩:=by
 constructor
 .simp only[setObj,Sem.run,b]
 intro a;simp[setObj,Sem.events,Sem.runT,b];rfl
def aa'{Q}{a}{args}(i:Q.heap[d]?=f (.loop a))(b:args.size=a.params.size):
  (Instr.yield d args).run P Q=.ok (.round d a.fn ((a.params.zip args).foldl (λtmps (j,g)=>tmps.setIfInBounds j g) a.tmps) a.assign a.body) Q/\(Instr.yield d args).events P Q #[]=#[⟨.obj d,v,v⟩]:=by
 obtain⟨e,h⟩:=y6 (P:=P) i;constructor
 .simp[Instr.yield,e,b]
 simp[Instr.yield,e,h,b]
def aa3{Q}{a}(h:Q.heap[d]?=f (.loop a))(b:a.state=.ready):
  (Instr.beginRound d).run P Q=.ok () {Q with heap:=Q.heap.setIfInBounds d (.loop {a with state:=.busy})}/\(Instr.beginRound d).events P Q #[]=#[⟨.obj d,v,v⟩,⟨.obj d,l,v⟩]:=by
 obtain⟨e,i⟩:=y6 (P:=P) h;obtain⟨g,j⟩:=DX (P:=P) (gd:={a with state:=.busy}) h;constructor
 .simp[Instr.beginRound,e,g,b]
 simp[Instr.beginRound,e,i,g,j,b]
def aa6{Q}{a}(g:Q.heap[d]?=f (.loop a))(t):
  (Instr.endRound d t).run P Q=.ok (.bool t.isNone) {Q with heap:=Q.heap.setIfInBounds d (.loop {a with state:=if t.isNone then .ready else .done,pending:=t})}/\(Instr.endRound d t).events P Q #[]=#[⟨.obj d,v,v⟩,⟨.obj d,l,v⟩]:=by
 obtain⟨b,h⟩:=y6 (P:=P) g;obtain⟨e,i⟩:=DX (P:=P) (gd:={a with state:=if t.isNone then .ready else .done,pending:=t}) g;constructor
 .simp only[Instr.endRound,cK,b,e,c9,dZ]
 simp only[Instr.endRound,aD,b,h,e,i,aF,Sem.events_pure];rfl
def aa5{Q}{a}(g:Q.heap[d]?=f (.loop a))(b:a.state≠.busy):
  (Instr.endLoop d).run P Q=.ok a.pending {Q with heap:=Q.heap.setIfInBounds d (.loop {a with state:=.exhausted})}/\(Instr.endLoop d).events P Q #[]=#[⟨.obj d,v,v⟩,⟨.obj d,l,v⟩]:=by
 obtain⟨e,h⟩:=y6 (P:=P) g;obtain⟨j,i⟩:=DX (P:=P) (gd:={a with state:=.exhausted}) g;have k:(a.state==.busy)=v:=by cases m:a.state<;>simp_all
 constructor
 .simp[Instr.endLoop,e,j,b]
 simp[Instr.endLoop,e,h,i,b]
section steps
variable {i:aG}{w:Act}{h:m Item}{Q:ar}{eS:Bool}
def aba(cv:q.op=.call {callee:=.value cP,args:=af,argTypes:=ds})(r:w.eval cP=.func (.yield d) #[] #[]):
  (ab w.eval q).run P Q=(Instr.yield d (af.toList.map w.eval).toArray).run P Q/\(ab w.eval q).events P Q #[]=(Instr.yield d (af.toList.map w.eval).toArray).events P Q #[]:=by
 have N:af.map w.eval=(af.toList.map w.eval).toArray:=M;constructor
 .exact Re
 exact Re
def abn{bq}{fn}{tmps}{assign body}(a:aM[e]?=f q)(g:aS q (yielded aM w.tmps)=l)(k:i.kind≠.early)(j:(ab w.eval q).run P Q=.ok (.round d fn tmps assign body) bg):
  aq P eS (G (i.ab w (.inRegion aM (e::bq)::h)) ag) Q=.go (G (Frame.round d fn tmps assign body .normal) (i.ab w (.inRegion aM (e::bq)::h)::ag)) bg (Go.Conc.listed P i.fn w q Q):=by have b:(i.kind==CallKind.early)=v:=M;rw[y' a g (λm o=>by grind[xQ])];simp[stepG.apply,j,G,Frame.ab,b,GStep.after,Go.Conc.listed]
def abi{a}(k:i.roundOf=f d)(o:i.kind≠.early)(m:Q.heap[d]?=f (.loop a))(g:a.state=.ready):
  aq P eS (G (i.ab w (.beginRound::h)) ag) Q=.go (G (i.ab w h) ag) {Q with heap:=Q.heap.setIfInBounds d (.loop {a with state:=.busy})} (seen P i.fn #[⟨.obj d,v,v⟩,⟨.obj d,l,v⟩]):=by obtain⟨j,e⟩:=aa3 (P:=P) m g;have b:(i.kind==CallKind.early)=v:=M;simp[G,aq,stepG.exec,stepG.apply,Frame.ab,k,b,j,e,GStep.after,Frame.finish]
def abo{b}{t}{a}{r}(B:i.roundOf=f d)(b2:i.kind=.normal)(e:Q.heap[d]?=f (.loop b))(g:(t=n/\a=[])∨(t=f .ret/\∃k1,a=.code .ret::k1)∨(∃id k1,t=f (.exit id)/\a=.code (.exit id)::k1/\exitTo id k1=n)):
  aq P eS (G (i.ab w a) (r::ag)) Q=.go (G (r.finish (.bool t.isNone)) ag) {Q with heap:=Q.heap.setIfInBounds d (.loop {b with state:=if t.isNone then .ready else .done,pending:=t})} (seen P i.fn #[⟨.obj d,v,v⟩,⟨.obj d,l,v⟩]):=by
 obtain⟨N,ak⟩:=aa6 (P:=P) e t;rcases g with⟨rfl,rfl⟩|⟨rfl,k1,rfl⟩|⟨id,k1,rfl,rfl,z⟩
 .simp only[Option.isNone_none,dA]at N;exact O7
 .simp only[Option.isNone_some,dm,j_]at N;exact O7
 simp[Option.isNone_some,dm,j_]at N;simp[G,aq,stepG.exec,Frame.ab,B,N,ak,GStep.after,doReturn,b2,z]
def abj{a}(j:Q.heap[d]?=f (.loop a))(g:a.state≠.busy):
  aq P eS (G (i.ab w (.endRangeFunc d::h)) ag) Q=.go (G (i.ab w ((a.pending.map Item.code).toList++h)) ag) {Q with heap:=Q.heap.setIfInBounds d (.loop {a with state:=.exhausted})} (seen P i.fn #[⟨.obj d,v,v⟩,⟨.obj d,l,v⟩]):=by obtain⟨b,e⟩:=aa5 (P:=P) j g;simp[G,aq,stepG.exec,Frame.ab,b,e,GStep.after]
def aa7{fn}{tmps}{params}{assign body}:
  (Instr.enterLoop fn tmps params assign body n).run P Q=.ok (Q.heap.size+1,[{target:=.collected Q.heap.size,args:=#[]}]) {Q with heap:=(Q.heap.push (.deferred (f []))).push (.loop {state:=.ready,pending:=n,fn,tmps,params,assign,body,defers:=Q.heap.size})} /\
  (Instr.enterLoop fn tmps params assign body n).events P Q #[]=#[]:=by
 have d:∀b Q,(newObj b).run P Q=.ok Q.heap.size {Q with heap:=Q.heap.push b}:=λb Q=>by simp[newObj,Sem.run]
 have e:∀b Q a,(newObj b).events P Q a=a:=λb Q a=>by simp[newObj,Sem.events,Sem.runT]
 constructor
 .simp[Instr.enterLoop,d];rfl
 simp[Instr.enterLoop,d,e]
def abm{b}{Y}{assign body}{a}{fn}{r}(x:i.roundOf=n)(p:i.kind≠.early)(q:P.funcs[a]?=f fn)(z:(fn.name== "runtime.NumGoroutine")=v)(y:fn.body.isNone=v)(s:w.eval b=.func (.func a) #[] r.toArray):
  aq P eS (G (i.ab w (.code (.rangeFunc b Y assign body)::h)) ag) Q =
   .go (G (Frame.enter P a (Value.func (.yield (Q.heap.size+1)) #[] #[]::r).toArray .normal) (i.ab {w with defers:={target:=.collected Q.heap.size,args:=#[]}::w.defers} (.inRangeFunc (Q.heap.size+1)::h)::ag))
    {Q with heap:=(Q.heap.push (.deferred (f []))).push (.loop {state:=.ready,pending:=n,fn:=i.fn,tmps:=w.tmps,params:=Y,assign,body,defers:=Q.heap.size})} #[]:=by
 obtain⟨u,t⟩:=aa7 (P:=P) (Q:=Q) (fn:=i.fn) (tmps:=w.tmps) (params:=Y) (assign:=assign) (body:=body);have o:(i.kind==CallKind.early)=v:=M;have m:fn.name≠ "runtime.NumGoroutine":=M;have k:fn.body≠n:=M;have e:∀d j g,({fn:=i.fn,tmps:=w.tmps,todo:=j,defers:=d,mode:=g,kind:=i.kind,roundOf:=i.roundOf}:aG).eval b=.func (.func a) #[] r.toArray:=by intro d j g;rw[<-s];cases b<;>rfl
 simp[G,aq,stepG.exec,Frame.ab,x]at e⊢;simp[u,t,GStep.after,stepG.apply,resolve,e,Deferred.ofValue,invoke,callFunc,q,m,k,o,seen];rfl
end steps
end
section
variable {p:ah P}
def bb.fN(i:bb k b){g:Nat}{a}{m}(aH:k[g]?=f (.loop E a m))(j:∃L,b.s[g]?=f L/\L.v=.func (.yield d) #[] #[]):
  ∃tmps fn e,b.s[g]?=f ⟨.func (.yield d) #[] #[],[d]⟩/\b.a.heap[d]?=f (.loop {m with tmps:=tmps,fn:=fn,defers:=e})/\tmps.size=E/\(∀o,bv k b (tmps.getD o I) (look a o))/\(∀r,b.C d r=n):=by obtain⟨L,h,p⟩:=j;obtain⟨q,tmps,fn,e,x,t,w,s,u⟩:=i.box g _ L aH h;grind
def bb.gF(i:bb k b){j}{h}{u gd}{ec}(aH:k[j]?=f (.loop E h u)){tmps}{fn e}(x:b.s[j]?=f ⟨.func (.yield d) #[] #[],[d]⟩)(D:b.a.heap[d]?=f (.loop {u with tmps:=tmps,fn:=fn,defers:=e}))(N:tmps.size=E)(B:∀o,bv k b (tmps.getD o I) (look h o))(J:∀t,b.C d t=n)(w:ec=.M∨ec=.loop E h gd):
  bb (k.set j ec) {b with a:={b.a with heap:=b.a.heap.setIfInBounds d (.loop {gd with tmps:=tmps,fn:=fn,defers:=e})}}/\cN k b (k.set j ec) {b with a:={b.a with heap:=b.a.heap.setIfInBounds d (.loop {gd with tmps:=tmps,fn:=fn,defers:=e})}}:=by
 have S:d<b.a.heap.size:=i.lt _ (b8 x) d C;have r:∀g,g≠d->(b.a.heap.setIfInBounds d (.loop {gd with tmps:=tmps,fn:=fn,defers:=e}))[g]?=b.a.heap[g]?:=λg m=>by grind
 have R:b.s.set j ⟨.func (.yield d) #[] #[],[d]⟩=b.s:=mU;have Q:j<c k:=(cO.1 aH).1;have z:fM (.loop E h u) ⟨.func (.yield d) #[] #[],[d]⟩ ec ⟨.func (.yield d) #[] #[],[d]⟩:=by rcases w with rfl|rfl<;>rfl
 have p:fp k b (k.set j ec) {b with a:={b.a with heap:=b.a.heap.setIfInBounds d (.loop {gd with tmps:=tmps,fn:=fn,defers:=e})}}:=by
  refine⟨λ_ _ _ q=>q,λF y L U A=>?_⟩;by_cases O:j=F
  .grind
  exact⟨y,L,by grind,A,.refl _ _⟩
 have:=i.b4 (cg:=b.C) (bg:={b.a with heap:=b.a.heap.setIfInBounds d (.loop {gd with tmps:=tmps,fn:=fn,defers:=e})}) (ec:=ec) (cu:=⟨.func (.yield d) #[] #[],[d]⟩) aH x z C (λg _ m=>r g M) (λ_ _ _ _=>rfl) (λ_ _ _ q=>q)
  (λg t K s=>by
   have T:g≠d:=M;rw[<-i.mem g t K s];simp[aJ]
   grind) (λg m=>by grind) a a a (by
   rcases w with rfl|rfl
   .trivial
   .refine⟨d,tmps,fn,e,a,M,N,λo=>?_,J⟩
    .have:=(B o).mono p i.len
     grind)
 grind
def g.yield{d:ι->m ap}{e}{bf}{res}(ah:iF p e bf k res d)(G:q.guard=n)(ak:fi E q.dst=l)(S:q.op=.call {callee:=.value cP,args:=af,argTypes:=ds}){N0}{io}{a9}(O:k[e]?=f (.loop N0 io a9))(ag:bD F cP=.n (.R (.aV e)))(aI:af.toList.map (bD F)=bf)(h:∀T,g p E bd (.S all bq::av) .normal (gb q.dst (ax (.bool res)) F) (d T)):g p E bd (.S all (q::bq)::av) .normal F k:=by
 intro aH w an u i y I Z idx t b R;cases idx with
 |nil=>exact b.elim
 |cons T idx=>
 refine .next a λs aC=>?_;have X:=p.bI aC;have r:=u.rely X;have j:=an.rely X u;have K:=eF j cP;rw[ag]at K;obtain⟨_,L,V,aD,_⟩:=(show cB _ s _ (.aV e)from K)
 obtain⟨U,tmps,fn,aF,aL,aG,ao,aq,ar⟩:=r.box e _ L O V;subst aL;have au:b4 k s (af.toList.map w.eval) bf:=by grind[m1,eF]
 obtain⟨aE,aJ,assign,body,H,al,ae⟩:=ah s (af.toList.map w.eval) U au r ⟨_,V,rfl⟩;obtain⟨ab,ai⟩:=aba (P:=P) (Q:=s.a) (w:=w) S aD;refine⟨_,s,_,abn b.1 (i_ G) t (ab.trans H),⟨⟨k,k,r,r,.refl _ _⟩,dv.seen ?_⟩,ae Z _ _ λY z x o=>?_⟩
 .rw[ai,al];exact .R (mu (L:=⟨.func (.yield U) #[] #[],[U]⟩) (b8 V) C)
 have M:=qi (i:=i) (w:=w) (h:=y) all.toArray T idx (.bool res);rw[b.1]at M;simp[n0]at M;rw[M];refine h Y z _ ?_ x i y I Z idx t b.2 λaw B W D aA J N A=>R aw B W D aA J N ((X.aI.trans o).trans A);cases aa:q.dst with
 |none=>exact j.mono o r.len
 |some aB=>exact(j.mono o r.len).put (k8 ak aB aa) (show bv (d Y) z (.bool res) (ax (.bool res))from Rd.bool)
def rm:m Tmp->m x->bJ->bJ
 |g::d,e::b,a=>rm d b ((g,e)::a)
 |_,_,a=>a
def yX(b:Nat):m Tmp->Bool
 |[]=>l
 |d::a=>match ay (d+1) b with|true=>yX b a|false=>v
def Gt{E}{k}{b}:∀{e:m Tmp}{a:m x}{y:m X}{F:bJ}{w:Act},bX E k b F w->b4 k b y a->yX E e=l->bX E k b (rm e a F) {w with tmps:=(e.zip y).foldl (λtmps (i,j)=>tmps.setIfInBounds i j) w.tmps}
 |[],a,y,F,w,d,_,_=>by simpa[rm]using d
 |_::_,[],[],F,w,d,_,_=>by simpa[rm]using d
 |_::_,[],_::_,F,w,d,g,_=>g.elim
 |_::_,_::_,[],F,w,d,g,_=>g.elim
 |i::p,N::a,j::y,F,w,d,g,h=>by
  simp[yX]at h;split at h
  .rename_i o;have:=Gt (d.put (N:=i) (fq o) g.1) g.2 h;simpa[rm,Act.put]using this
  grind
def Y_:Exit->Option (Option Code)
 |.normal=>f n
 |.ret=>f (f .ret)
 |.exit id=>f (f (.exit id))
 |_=>n
def iF.intro{a4:Type}{h E}{e}{b}{bf}{k}{Q:a4->m ap}{t}(aR:k[h]?=f (.loop E e b))(bh:b.state=.ready)(aM:c bf=b.params.size)(bk:yX E b.params.toList=l)(bn:b0 p E b.assign (λB K g=>B=.normal/\g[h]?=f (.loop E e b)/\b0 p E b.body (λB ba x=>Y_ B=f t/\x[h]?=f (.loop E e {b with state:=.busy}) /\
   ∃bp,q1 (x.set h (.loop E e {b with state:=if t.isNone then .ready else .done,pending:=t})) (Q bp)) K (g.set h (.loop E e {b with state:=.busy}))) (rm b.params.toList bf e) k):iF p h bf k t.isNone Q:=by
 intro D y d bl Z aK;obtain⟨tmps,fn,bm,W,aE,aF,aH,bo⟩:=Z.fN aR aK;have a_:c y=b.params.size:=by grind[b4.get]
 obtain⟨a2,a3⟩:=aa' (P:=P) (args:=y.toArray) aE M;refine⟨_,_,_,_,a2,a3,λak al j aI=>?_⟩;let J:aG:={fn:=fn,tmps:=#[],todo:=[],defers:=[],mode:=.run,kind:=.normal,roundOf:=f d}
 have q:J.kind≠.early:=by simp[J]
 have aJ:bX E k D (rm b.params.toList bf e) {tmps:=(b.params.zip y.toArray).foldl (λtmps (a1,w)=>tmps.setIfInBounds a1 w) tmps,defers:=[]}:=by
  have:=Gt (w:={tmps:=tmps,defers:=[]}) (F:=e) ⟨aF,⟨[],A⟩,aH⟩ bl bk;have B:(b.params.zip y.toArray).foldl (λtmps (ag:Tmp×X)=>tmps.setIfInBounds ag.1 ag.2) tmps=(b.params.toList.zip y).foldl (λtmps (ag:Tmp×X)=>tmps.setIfInBounds ag.1 ag.2) tmps:=by rw[<-Array.foldl_toList];simp
  grind
 show ce p ak (G (J.ab {tmps:=(b.params.zip y.toArray).foldl (λtmps (a1,w)=>tmps.setIfInBounds a1 w) tmps,defers:=[]} [.code b.assign,.beginRound,.code b.body]) (al::j)) D;refine bn D _ aJ Z J [.beginRound,.code b.body] (al::j) ak q ?_;rintro B K g br av ⟨rfl,aQ,bq⟩ ax s u;refine .next a λaZ aa=>?_;have H:=p.bI aa;have S:=s.rely H;have aA:=ax.rely H s;have bj:∃L,aZ.s[h]?=f L/\L.v=.func (.yield d) #[] #[]:=by obtain⟨ao,z,k1,au,ar⟩:=(u.trans H.aI).box h _ _ aR W;rw[aQ]at k1;cases k1;exact⟨z,au,ar⟩
 obtain⟨bu,a8,a5,U,V,aB,aC,aD⟩:=S.fN aQ bj;have ai:=S.gF (gd:={b with state:=.busy}) aQ U V aB aC aD (.inr rfl);have O:∀{D:a6} {k:m ap} {L:Loc},D.s[h]?=f L->L.aj=[d]->dv D #[⟨.obj d,v,v⟩,⟨.obj d,l,v⟩]:=λ{D k L} Y q=>
  .fj (mu (b8 Y) M) (mu (b8 Y) M)
 refine⟨_,_,_,abi (d:=d) a q V bh,⟨⟨_,_,S,ai.1,ai.2⟩,dv.seen (O (k:=g) U a)⟩,?_⟩;have a':=ai.2.tooQ S;have bg:=ai.1;refine bq _ av (aA.mono a' S.len) bg J [] (al::j) ak q ?_;rintro B bb bd a0 aw ⟨r,aP,aO,bs⟩ f3 C af;have stA:=((u.trans H.aI).trans a').trans af;have fin:∀N i,cV a0 i->((t=n/\N=[])∨(t=f .ret/\∃k1,N=.code .ret::k1)∨(∃id k1,t=f (.exit id)/\N=.code (.exit id)::k1/\exitTo id k1=n)) ->
   ∃T I R,aq P p.b3 (G (J.ab aw N) (al::j)) i.a=.go T I.a R/\kB i I R/\ce p ak T I:=by
  intro N i o aL;have an:=C.rely o;have bc:∃L,i.s[h]?=f L/\L.v=.func (.yield d) #[] #[]:=by obtain⟨ao,z,k1,au,ar⟩:=(stA.trans o.aI).box h _ _ aR W;rw[aP]at k1;cases k1;exact⟨z,au,ar⟩
  obtain⟨bt,a9,a7,ab,ae,aS,aT,aU⟩:=an.fN aP bc;have ah:=an.gF (gd:={b with state:=if t.isNone then .ready else .done,pending:=t}) aP ab ae aS aT aU (.inr rfl);obtain⟨aV,aY,_⟩:=bs _ ah.1;exact⟨_,_,_,abo (d:=d) a a ae aL,⟨⟨_,_,an,ah.1,ah.2⟩,dv.seen (O (k:=bd) ab a)⟩,aI aO _ aV (((stA.trans o.aI).trans (ah.2.tooQ an)).trans (aY.tooQ ah.1))⟩
 cases B with
 |normal=>
  cases r;exact .next a λi o=>fin [] i (p.bI o) (.inl ⟨a,a⟩)
 |ret=>
  cases r;intro pre;exact .next a λi o=>fin _ i (p.bI o) (.inr (.inl ⟨a,pre,a⟩))
 |exit id=>
  cases r;intro pre aN;refine .next a λi o=>fin _ i (p.bI o) (.inr (.inr ⟨id,_,a,a,?_⟩));have:=aN [];simpa[exitTo]using this
 |_=>cases r
end
def dd(p:ah P)(k:Nat)(u:Code)(aL:fw)(t:bJ)(j:m ap):Prop:=
 ∀i q,bX k j i t q->bb j i->∀h s g (o:ai->a6->Prop),h.kind≠.early->h.roundOf=n ->
  (∀r d a b e,aL r d a->bX k a b d e->bb a b->de j i a b->kI p o h s g r e b)->ce p o (G (h.ab q (.code u::s)) g) i
section
variable {p:ah P}{aL:fw}
def b0.bw(m:b0 p E r aL F k):dd p E r aL F k:=λq g j d h o a e b _ i=>m q g j d h o a e b i
theorem dd.seq{N z}(T:dd p E N (v5 (dd p E z aL) aL) F k):dd p E (.seq N z) aL F k:=by
 intro W R U e B K g A i b h;refine .ctl e a (λ_=>pt) λV d=>?_;refine T V R (U.rely d e) (e.rely d) B (.code z::K) g A i b ?_;intro r O Q w o M J I y;have D:=d.aI.trans y;cases r with
 |normal=>exact M w o J I B K g A i b λr S m x q u s t j=>h r S m x q u s t (D.trans j)
 |_=>exact kI.cons (λ_ _=>rfl) C (h _ _ _ _ _ M J I D)
theorem dd.block{id}(x:dd p E r (uJ id aL) F k):dd p E (.block id r) aL F k:=by
 intro C s y e u h i q j g lQ;refine .ctl e a (λ_=>y9) λz d=>?_;refine x z s (y.rely d e) (e.rely d) u (.inBlock id::h) i q j g ?_;intro au dF an m fP bi B ak o;have N:=d.aI.trans o;cases au with
 |normal=>
  exact O_
 |exit b=>
  simp[uJ]at bi;split at bi
  .exact QU
  .rename_i t
   intro pre ve;have:=lQ (.exit b) dF an m fP bi B ak N (pre++[.inBlock id]) (λgk=>by
    rw[mh,ve];have:(id==b)=v:=M
    simp[exitTo,this])
   grind
 |ret=>exact lQ _ _ _ _ _ bi B ak N
 |panic w=>exact lQ _ _ _ _ _ bi B ak N
 |goto A=>exact lQ _ _ _ _ _ bi B ak N
 |outgrown=>exact lQ _ _ _ _ _ bi B ak N
def bb.jO(a:bb k b){q:Nat->Prop}(h:∀e,q e->e<b.a.heap.size/\∀L∈b.s,e∉L.aj):bb k {b with own:=q}:=
 ⟨a.mem,a.len,λj d L aH g=>ew.b8 (k:=k) (b:=b) (an:=k) (aB:={b with own:=q}) ⟨λ_ _ _ a=>a,λ_ d L a i=>⟨d,L,a,i,.refl _ _⟩⟩ a.len (λ_ _=>⟨rfl,λ_=>rfl⟩) (a.box j d L aH g),a.a0,a.lt,h⟩
def bb.bB(e:bb k b){a9}{q:Nat->Prop}(y:b.own a9)(s:∀i,q i->b.own i)(E:¬q a9)(B:∀C,b.C a9 C=n)(w:b.a.heap[a9]?=f (.deferred (f []))):
  bb (k++[.bl]) {b with s:=b.s++[⟨.int .i64 a9,[a9]⟩],own:=q}/\eZ b {b with s:=b.s++[⟨.int .i64 a9,[a9]⟩],own:=q}:=by
 obtain⟨J,I⟩:=e.own a9 y;have r:fp k b (k++[.bl]) {b with s:=b.s++[⟨.int .i64 a9,[a9]⟩],own:=q}:=by refine⟨λ_ _ _ e=>e,λm o L aH d=>⟨o,L,M,?_,.refl _ _⟩⟩;grind
 refine⟨⟨e.mem,by simp[e.len],?_,?_,?_,?_⟩,⟨a,λ_ _ _ e=>e,λ_ _ _=>rfl,e.mem,?_⟩⟩
 .intro m o L aH d;rcases rE d with u|⟨g,rfl⟩
  .have g:m<c k:=by rw[<-e.len];grind
   rw[j6 g]at aH;exact(e.box m o L aH u).b8 r e.len λ_ _=>⟨a,λ_=>rfl⟩
  rw[g,e.len,ho (bA _)]at aH;simp at aH;subst aH;exact⟨a9,a,w,B⟩
 .intro m t L p d h i cT j;rcases rE d with k1|⟨z,rfl⟩<;>rcases rE h with x|⟨A,rfl⟩
  .exact e.a0 m t L p k1 x i cT j
  .grind
  .grind
  grind
 .intro L d i cT;simp[fy,gJ]at d;rcases d with d|rfl
  .exact e.lt L d i cT
  grind
 .intro i cT;obtain⟨F,D⟩:=e.own i (s i cT);grind
 grind
def yU:Option Code->Option Exit
 |none=>f .normal
 |some .ret=>f .ret
 |some (.exit id)=>f (.exit id)
 |_=>n
def dd.rangeFunc{bM}{Y}{assign body}{bG}{o0}{an:ι->m ap}{gd:ι->Loop}(aE:∀b w,bX E k b F w->bb k b->∃aV:m X,w.eval bM=.func (.func bG) #[] aV.toArray/\b4 k b aV o0)(aF:bl p bG (.n (.R (.aV (c k)))::o0) (k++[.loop E F {state:=.ready,pending:=n,fn:=0,tmps:=#[],params:=Y,assign:=assign,body:=body,defers:=0}]) res an)(bj:∀t,(an t)[c k]?=f (.loop E F (gd t))/\(gd t).state≠.busy)(h:∀t,∃al,yU (gd t).pending=f al/\aL al F ((an t).set (c k) .M++[.bl])):dd p E (.rangeFunc bM Y assign body) aL F k:=by
 intro b w ba aI i z ag bK d aP bh;obtain⟨⟨fn,aG,Z,H⟩,bU⟩:=aF;refine .next a λe aN=>?_;have aa:=p.bI aN;have x:=aI.rely aa;have D:=ba.rely aa aI;obtain⟨aV,br,O⟩:=aE e w D x;generalize aO:e.a.heap.size=a9;have bR:=λeS=>abm (P:=P) (eS:=eS) (h:=z) (ag:=ag) (Y:=Y) (assign:=assign) (body:=body) (i:=i) (Q:=e.a) aP d aG Z H br;rw[aO]at bR;let w1:ar:={e.a with heap:=e.a.heap.push (.deferred (f []))}
 let aS:Loop:={state:=.ready,pending:=n,fn:=i.fn,tmps:=w.tmps,params:=Y,assign:=assign,body:=body,defers:=a9}
 let w2:ar:={e.a with heap:=(e.a.heap.push (.deferred (f []))).push (.loop aS)}
 have bP:w2.heap.size=a9+2:=M;have bq:w1.heap.size=a9+1:=M;have aJ:∀i,i<e.a.heap.size->w1.heap[i]?=e.a.heap[i]?:=λi d=>by grind
 have bZ:∀i,i<w1.heap.size->w2.heap[i]?=w1.heap[i]?:=λi d=>by grind
 have bH:∀i,i<e.a.heap.size->w2.heap[i]?=e.a.heap[i]?:=λi d=>by grind
 have bs:w2.heap[a9]?=f (.deferred (f [])):=M;have bW:w2.heap[a9+1]?=f (.loop aS):=M;have bu:∀i,e.a.heap.size<=i->∀q,e.C i q=n:=λi d q=>by
  cases s:e.C i q with
  |none=>rfl
  |some af=>have:=x.block s;omega
 let j:Loc:=⟨.func (.yield (a9+1)) #[] #[],[a9+1]⟩
 let J:Loc:=⟨.int .i64 a9,[a9]⟩
 let ai:Loop:={state:=.ready,pending:=n,fn:=0,tmps:=#[],params:=Y,assign:=assign,body:=body,defers:=0}
 obtain⟨bc,bd⟩:=x.cn (cg:=e.C) (bg:=w2) u bH (λ_ _ _=>rfl) (λi d q af s=>by grind) rfl rfl rfl;have bF:fp k e (k++[.loop E F ai]) ⟨e.s++[j],e.C,w2,e.own⟩:=by refine⟨λ_ _ _ bf=>bf,λbQ bT L aH g=>⟨bT,L,M,?_,.refl _ _⟩⟩;grind
 obtain⟨V,b0⟩:=bc.bY (bT:=.loop E F ai) (L:=j) bd rfl x ⟨a9+1,w.tmps,i.fn,a9,rfl,bW,D.size,λb5=>(D.ak b5).mono bF x.len,λq=>bu _ u q⟩ (λi d=>by grind)
 have aA:=V.jO (q:=λi=>e.own i∨i=a9) (by
  rintro i (d|rfl)
  .exact V.own i d
  .refine⟨by grind,λL g=>?_⟩;simp[fy,gJ]at g;rcases g with g|rfl
   .intro I;have:=x.lt L g i I;omega
   grind)
 have d1:=x.dU;obtain⟨aZ,a0⟩:=d1.cn (cg:=e.C) (bg:=w1) u aJ (λ_ _ _=>rfl) (λi d q af s=>by grind) rfl rfl rfl;obtain⟨ao,a1⟩:=aZ.bY (bT:=.M) (L:=J) a0 rfl d1 A (λi d=>by grind);obtain⟨a2,a3⟩:=ao.cn (cg:=e.C) (bg:=w2) M bZ (λ_ _ _=>rfl) (λi d q af s=>by grind) rfl rfl rfl;obtain⟨a4,a5⟩:=a2.bY (bT:=.M) (L:=j) a3 rfl ao A (λi d=>by grind);have aC:eZ ⟨e.s++[J]++[j],e.C,w2,e.own⟩ ⟨e.s++[j],e.C,w2,λi=>e.own i∨i=a9⟩:=by
  refine⟨a,λ_ _ _ bf=>bf,λ_ _ _=>rfl,V.mem,?_⟩;rintro i ((d|rfl)|⟨L,g,d⟩)
  .grind
  .exact .inr ⟨J,by simp,by grind⟩
  grind
 refine⟨_,⟨e.s++[J]++[j],e.C,w2,e.own⟩,_,bR p.b3,⟨⟨_,_,d1,a4,a1.trans a5⟩,.nil⟩,.aP aC (bU _ (Value.func (.yield (a9+1)) #[] #[]::aV) ?_ aA bK _ λt bN af b2 b6 bp S aU=>?_)⟩
 .refine⟨⟨λbT B=>?_,j,?_,a,a⟩,?_⟩
  .rw[ho (bA _)]at B;simp at B;subst B;rfl
  .show (e.s++[j])[c k]?=_;rw[<-x.len,ho (bA _)];simp
  exact O.mono (k:=k) (b:=e) (an:=k++[.loop E F ai]) (aB:=⟨e.s++[j],e.C,w2,λi=>e.own i∨i=a9⟩) ⟨bF.mem,bF.box⟩ x.len
 have W:(i.ab {w with defers:={target:=.collected a9,args:=#[]}::w.defers} (.inRangeFunc (a9+1)::z)).finish af=i.ab {w with defers:={target:=.collected a9,args:=#[]}::w.defers} (.endRangeFunc (a9+1)::z):=cS;refine uE (ag:=ag) (r:=i.ab {w with defers:={target:=.collected a9,args:=#[]}::w.defers} (.inRangeFunc (a9+1)::z)) S b6 λb3 bI=>?_;rw[W];refine .next a λR bY=>?_;have bL:=p.bI bY;have aY:=(S.rely bI).rely bL;have bJ:=(aU.trans bI.aI).trans bL.aI;obtain⟨K,aK⟩:=bj t;have aD:∃L,R.s[c k]?=f L/\L.v=.func (.yield (a9+1)) #[] #[]:=by obtain⟨ec,ah,k1,aQ,aR⟩:=bJ.box (c k) (.loop E F ai) j (show(k++[ap.loop E F ai])[c k]?=_ from Ar) (by show(e.s++[j])[c k]?=_;rw[<-x.len,ho (bA _)];simp);rw[K]at k1;cases k1;exact⟨ah,aQ,aR⟩
 obtain⟨bS,aq,ak,ab,aT,bz,bB,bC⟩:=aY.fN K aD;obtain⟨N,ae⟩:=aY.gF (gd:={gd t with state:=.exhausted}) (ec:=.M) K ab aT bz bB bC (.inl rfl);refine⟨_,_,_,abj aT aK,⟨⟨_,_,aY,N,ae⟩,dv.seen (.fj (mu (b8 ab) C) (mu (b8 ab) C))⟩,?_⟩;have y:=bJ.trans (ae.tooQ aY);generalize bO:({R with a:={R.a with heap:=R.a.heap.setIfInBounds (a9+1) (.loop {{gd t with state:=.exhausted}with tmps:=bS,fn:=aq,defers:=ak})}}:a6)=o at N ae y;have ax:o.own a9:=by rw[y.own];grind
 have aw:o.a.heap[a9]?=f (.deferred (f [])):=by rw[y.a3 a9 (.inr a)];omega
 have av:∀q,o.C a9 q=n:=λq=>by rw[y.bC a9 M (λL g=>(aA.own a9 (.inr a)).2 L g)];grind
 obtain⟨bD,t2⟩:=N.bB (a9:=a9) (q:=e.own) ax (λi d=>by rw[y.own];grind) (λI=>by have:=(x.own a9 I).1;omega) av aw;refine .aP t2 ?_;have bE:de k e ((an t).set (c k) .M++[.bl]) {o with s:=o.s++[⟨.int .i64 a9,[a9]⟩],own:=e.own}:=by
  refine⟨M,λi d=>?_,λi q af s=>y.mem i q af s,λi d b1 q=>?_,λL g i d=>?_,λbQ bT L aH g=>?_,y.os,y.tape,y.output,a⟩
  .show o.a.heap[i]?=_;rw[y.a3 i (.inl d)];exact bH i (x.own i d).1
  .show o.C i q=_;rw[y.bC i M (λL g=>?_)];grind
  .simp only[fy,gJ]at g;rcases g with g|rfl
   .rcases y.bS L g i d with au|⟨bV,au,dt⟩
    .grind
    grind
   grind
  have bn:=(cO.1 aH).1;have bm:=(cO.1 g).1;obtain⟨ec,ah,k1,aQ,aR⟩:=y.box bQ bT L M M;grind
 have a_:bX E ((an t).set (c k) .M++[.bl]) {o with s:=o.s++[⟨.int .i64 a9,[a9]⟩],own:=e.own} F {w with defers:={target:=.collected a9,args:=#[]}::w.defers}:=by
  have s:=D.mono bE x.len;obtain⟨bt,U⟩:=D.defers;refine⟨s.size,⟨c ((an t).set (c k) .M)::bt,⟨⟨M,⟨.int .i64 a9,[a9]⟩,a9,?_,a,a⟩,λI=>?_,U.mono bE.ext⟩⟩,s.ak⟩
  .show (o.s++_)[_]?=_;rw[<-N.len,ho (bA _)];simp
  have au:=U.e6 _ I;grind
 obtain⟨al,B,bo⟩:=h t;have bx:=bh al F _ _ _ bo a_ bD (aa.aI.trans bE);revert B;show yU (gd t).pending=f al->ce p bK (G (i.ab _ (((gd t).pending.map Item.code).toList++z)) ag) _;intro B;cases aM:(gd t).pending with
 |none=>rw[aM]at B;cases B;exact bx
 |some r=>
  rw[aM]at B;cases r<;>simp[yU,reduceCtorEq,e1]at B
  .subst B;exact bx [] bk
  subst B;exact bx z
def bX.callee{o}{h}(d:look F o=ax (.fn (.func h) [] cap)):∀g a,bX E k g F a->bb k g->∃e:m X,a.eval (.tmp o)=.func (.func h) #[] e.toArray/\b4 k g e (e' cap):=by
 intro g a p _;have b:=p.ak o;rw[d]at b;have b:=b6 b;show ∃e:m X,a.tmps.getD o I=.func (.func h) #[] e.toArray/\_;generalize a.tmps.getD o I=y at b;cases b with
 |fn s j d i q r t u w x=>
  grind[p']
def bl.e5{h}{fn}{args}{an:ι->m ap}(u:P.funcs[h]?=f fn)(s:(fn.name== "runtime.NumGoroutine")=v)(o:fn.body=f r)(C:ay args.length fn.ntmps=l)(D:kA args k->dd p fn.ntmps r (λB w g=>∃t,bY fn k.length (res t) (an t) B w g) (h4 0 args) k):bl p h args k res an:=by refine⟨⟨fn,u,s,by grind⟩,λe y b a=>?_⟩;exact(bl.hG u s o (fq C) λI z h E A F i x q d j=>D ⟨e,y,b,a⟩ I z h E A F i x q d j).2 e y b a
def RR(fn:Func)(e:x)(a:m ap):fw:=λi j g=>
 (i=.ret∨i=.normal)/\g=a/\jN a=l/\∃b h d,ox j fn.results.toList=f b/\pc b=f h/\ko h e=f d/\T d
def bl.bP{i}{fn}{args}{an:ι->m ap}(Y:P.funcs[i]?=f fn)(aq:(fn.name== "runtime.NumGoroutine")=v)(M:fn.body=f r)(W:ay args.length fn.ntmps=l)(al:b0 p fn.ntmps r (λau af g=>∃X,RR fn (res X) (an X) au af g) (h4 0 args) k):bl p i args k res an:=by
 refine⟨⟨fn,Y,aq,by grind⟩,λaA y Q N V h J=>?_⟩;obtain⟨ao,aE⟩:=b4.get Q;let t:aG:={fn:=i,tmps:=#[],todo:=[],defers:=[],mode:=.run,kind:=.normal,roundOf:=n}
 have ah:Frame.enter P i y.toArray .normal=t.ab {tmps:=y.toArray++Array.replicate (fn.ntmps-y.toArray.size) I,defers:=[]} [.code r]:=by simp[Frame.enter,Frame.ab,Y,M,t]
 rw[ah];have W:=fq W;refine al aA {tmps:=y.toArray++Array.replicate (fn.ntmps-y.toArray.size) I,defers:=[]} ⟨by grind,⟨[],A⟩,λo=>?_⟩ N t [] h V C ?_
 .rw[yv];simp[gZ,dA,sr];have:=aE o;rcases dW o (c y) with aH|aF
  .exact Ot
  rw[wP u];trivial
 rintro au ag g T e ⟨aa,S,rfl,av,w,ai,aw,E,F,ab,O⟩ K s U;have fin:∀b d,cV T d->b.fn=i->b.tmps=e.tmps->b.defers=e.defers->b.mode=.returning->b.kind=.normal->ce p V (G b h) d:=by
  intro b d a x z ak B D;have j:=K.rely a s;obtain⟨aB,aD,ae,aC⟩:=LW (P:=P) j E F;obtain⟨q,R⟩:=j.defers;have H:e.defers=[]:=by
   cases q with
   |nil=>cases ax:e.defers with
    |nil=>rfl
    |cons ai w=>rw[ax]at R;exact R.elim
   |cons ar q=>exact absurd rfl (vw av _ (b8 (R.e6 ar C)))
  refine J aa b aB _ ⟨x,B,by grind,D,fn,by grind,λZ _=>?_⟩ (pd ab O ae) (s.rely a) (U.trans a.aI);rw[z];exact⟨aD Z,λau S=>by rw[aC Z #[]]at S;grind⟩
 rcases S with rfl|rfl
 .intro pre;exact .ctl s rfl (λ_=>D5 rfl) λd a=>fin _ d a rfl rfl (hp _) rfl rfl
 exact .ctl s rfl (λ_=>D3 rfl) λd a=>fin _ d a rfl rfl (hp _) rfl rfl
end
structure uo{P:aE}(p:ah P)(E:Nat)(aM:Array ao)(F:bJ)(k:m ap)(D:Nat->x)(r:Nat->bJ)(idx:Nat->Option Nat)(last:Nat):Prop where
 cS:∀e q,aM[e]?=f q->∀au∈q.after,eQ au=l->au.on<e
 e3:∀e q N,aM[e]?=f q->q.dst=f N->idx N=f e/\N<E
 dM:∀N e,idx N=f e->∃q,aM[e]?=f q/\q.dst=f N
 R:∀e q,aM[e]?=f q->e≠last->aZ p E aM.toList q (r e) k (D e) k
 eS:∀e q,aM[e]?=f q->e≠last->∀o k b aa,bv k b aa (match idx o with|some t=>(if ∃au∈q.after,eQ au=l/\au.on=t then D t else .any)|none=>look F o)->bv k b aa (look (r e) o)
 hq:∀q,aM[last]?=f q->∀t,t<aM.size->t≠last->∃au∈q.after,eQ au=l/\au.on=t
 eb:last<aM.size
section
variable {p:ah P}{D:Nat->x}{r:Nat->bJ}{idx:Nat->Option Nat}{last:Nat}
theorem Kf{a o}(i:∀b,b<aM.size->L.getD b l=l):Region.linearise.go .any aM a o L []=[]:=by
 cases a with
 |zero=>exact C9 o L
 |succ j=>
  have d:aP .any aM L=[]:=by
   cases d:aP .any aM L with
   |nil=>rfl
   |cons e g=>
    have h:e∈aP .any aM L:=M;grind[pe]
  grind[vq]
def uo.eO(s:uo p E aM F k D r idx last){W:ai->a6->Prop}{y:aG}{J}(A:y.kind≠.early){cG}(aa:∀d i,i.tmps.size=E->(∀b,bv k d (i.tmps.getD b I) (match idx b with|some m=>if m=last then .any else D m|none=>look F b))->i.defers=[]->bb k d->de k cG k d->ce p W (G (y.ab i (.inRegion aM [last]::J)) ag) d):
  ∀C L,L.size=aM.size->c (L.toList.filter (λy=>!y))<=C->¬L.getD last v=l ->
   (∀e x,aM[e]?=f x->L.getD e v=l->∀g∈x.after,eQ g=l->L.getD g.on v=l) ->
   ∀d i,l_ E k d (gH F D idx L) i->i.defers=[]->bb k d->de k cG k d ->
   ∀b,ce p W (G (y.ab i (.inRegion aM (Region.linearise.go .any aM C b L [])::J)) ag) d:=by
 intro C;induction C with
 |zero=>
  intro L ak ab an aE d i t S w Q b;exfalso;have T:L[last]'(by have:=s.eb;omega)∈L.toList:=by simp
  have aA:=s.eb;cases A:L[last]'u with
  |true=>exact an (by simp[hA,iG (by omega:last<L.size),A])
  |false=>
   have:L[last]'u∈L.toList.filter (λy=>!y):=iK.2 ⟨T,by grind⟩;grind
 |succ C al=>
  intro L ak ab an aE d i t S w Q b;rw[vq];cases aw:(aP .any aM L)[b % c (aP .any aM L)]? with
  |none=>
   exfalso;have ah:aP .any aM L=[]:=by
    cases ah:aP .any aM L with
    |nil=>rfl
    |cons aO aN=>
     grind[Nat.mod_lt]
   have ax:∀e,e<aM.size->L.getD e v=l:=by
    intro e;induction e using Nat.strongRecOn with
    |_ e au=>
     intro B;cases A:L.getD e v with
     |true=>rfl
     |false=>
      have T:e∈aP .any aM L:=pe.2 ⟨aM[e],iG B,by
       grind,λg X V=>by
       have:=s.cS e _ (iG B) g X V
       grind⟩
      grind
   exact an (ax last s.eb)
  |some e=>
   have B:=b8 aw;obtain⟨x,o,ar,af⟩:=pe.1 B;have aA:e<aM.size:=(jd.1 o).1;have H:¬L.getD e v=l:=M;by_cases ao:e=last
   .subst ao;have O:Region.linearise.go .any aM C (b / c (aP .any aM L)) (L.setIfInBounds e l) []=[]:=by
     refine Kf λm ae=>?_;have aq:(L.setIfInBounds e l).getD m v=l:=by
      rw[mx u];by_cases g:m=e
      .grind
      obtain⟨Z,X,V,rfl⟩:=s.hq x o m ae g;grind
     grind
    simp[O];refine aa d i t.size (λb=>?_) S w Q;have:=t.ak b;unfold gH at this;cases h:idx b with
    |none=>grind
    |some m=>
     simp only[h]at this⊢;obtain⟨vy,bx,_⟩:=s.dM _ _ h;by_cases g:m=e
     .rw[bo g];trivial
     rw[bm g];obtain⟨Z,X,V,rfl⟩:=s.hq x o m (jd.1 bx).1 g;grind
   have aI:(L.setIfInBounds e l).size=aM.size:=M;have aH:c ((L.setIfInBounds e l).toList.filter (λy=>!y))<=C:=by have z:L.toList[e]?=f v:=Ra;grind[xE]
   have av:∀m U,aM[m]?=f U->(L.setIfInBounds e l).getD m v=l->∀g∈U.after,eQ g=l->(L.setIfInBounds e l).getD g.on v=l:=wy;have aJ:¬(L.setIfInBounds e l).getD last v=l:=wy
   have aC:bX E k d (r e) i:=t.fi λb k d R K=>s.eS e x o ao b k d R (by
    unfold gH at K;cases h:idx b with
    |none=>grind
    |some m=>
     simp only[h]at K⊢;split
     .grind
     .trivial)
   have aK:∀q R,de k d k q->bv k q R (D e)->l_ E k q (gH F D idx (L.setIfInBounds e l)) (i.put x.dst R):=by
    intro q R N K;cases S:x.dst with
    |none=>
     refine⟨t.size,t.defers.imp λ_ z=>z.mono N.ext,λb=>?_⟩;have j:=(t.ak b).mono N.ext w.len;simp only[Act.put];unfold gH at j⊢;cases h:idx b with
     |none=>grind
     |some m=>
      exact O6
    |some Y=>
     obtain⟨aF,aB⟩:=s.e3 e x Y o S;refine⟨by simp[Act.put,t.size],t.defers.imp λ_ z=>z.mono N.ext,λb=>?_⟩;simp only[Act.put];by_cases g:Y=b
     .subst g;have aL:Y<i.tmps.size:=by rw[t.size];exact aB
      simp only[hA,uz aL,h3];unfold gH;simp only[aF];rw[bo ((mx u).2 (.inl a))];exact K
     have j:=(t.ak b).mono N.ext w.len;simp only[hA]at j⊢;rw[sA g];unfold gH at j⊢;cases h:idx b with
     |none=>grind
     |some m=>
      exact O6
   have:=s.R e x o ao d i aC w y J ag W e (Region.linearise.go .any aM C (b / c (aP .any aM L)) (L.setIfInBounds e l) []) A M;simp only[wM]at this;exact this λR q K aD N=>al _ aI aH aJ av q _ (aK _ _ N K) (by cases x.dst<;>exact S) aD (Q.trans N) _
theorem uo.region(B:uo p E aM F k D r idx last)(N:P.follows Departure.mixedOrders=l){A:ai->a6->Prop}{s:aG}{i}(u:s.kind≠.early){cG}{wL}{id}(t:bX E k cG F wL)(M:wL.defers=[])(y:bb k cG)(O:∀o j,j.tmps.size=E->(∀d,bv k o (j.tmps.getD d I) (match idx d with|some w=>if w=last then .any else D w|none=>look F d))->j.defers=[]->bb k o->de k cG k o->ce p A (G (s.ab j (.inRegion aM [last]::i)) ag) o):
  ce p A (G (s.ab wL (.code (.region id aM l)::i)) ag) cG:=by
 refine .next a λb h=>?_;have h:=p.bI h;have g:=y.rely h;have J:=t.rely h y;have x:cN k b k {b with a:={b.a with drawn:=b.a.drawn+1}}:=cN.same rfl rfl rfl rfl;have z:bb k {b with a:={b.a with drawn:=b.a.drawn+1}}:=g.same rfl;have K:=h.aI.trans (x.tooQ g);refine⟨_,{b with a:={b.a with drawn:=b.a.drawn+1}},#[],D4,⟨⟨k,k,g,z,x⟩,.nil⟩,?_⟩;simp[Region.schedule,N,Bool.true_or,dA];refine B.eO u (cG:=cG) O aM.size _ C C wm EX _ wL ?_ M z K _;have m:=J.mono (x.tooQ g) g.len;refine⟨m.size,m.defers,λd=>?_⟩;unfold gH;cases Q:idx d with
 |none=>exact m.ak d
 |some w=>
  simp only;rw[bm]
  .exact m.ak d
  exact wm
end
def dV(q:ah P)(y:Nat)(a:m ao)(t:ao)(w:bJ)(j:m ap)(z:ι->x)(e:ι->m ap):Prop:=
 ∀i k,bX y j i w k->bb j i->∀(o:aG) s g (p:ai->a6->Prop) r b,o.kind≠.early->a.toArray[r]?=f t ->
  (∀h u d,bv (e h) d u (z h)->bb (e h) d->de j i (e h) d->ce q p (G (o.ab (k.put t.dst u) (.inRegion a.toArray b::s)) g) d)->ce q p (G (o.ab k (.inRegion a.toArray (r::b)::s)) g) i
def pE:m ao->Nat->(Nat->x)->m (Option Nat×x)
 |[],_,_=>[]
 |d::e,a,b=>(d.dst,b a)::pE e (a+1) b
def EH{g:Nat->x}:∀{e:m ao}{b a:Nat},(pE e b g)[a]?=(e[a]?).map λd=>(d.dst,g (b+a))
 |[],b,a=>by simp[pE]
 |d::h,b,0=>by simp[pE]
 |d::h,b,a+1=>by simp[pE,nY];rw[EH,show b+1+a=b+(a+1) by omega]
def eh(a:m ao)(b:bJ)(g:Nat->x)(d:Nat):bJ:=fU (λe=>ei e (c_ (a.getD d et).after.toList)) 0 (pE a 0 g) (mK a b)
def n'(a:m ao)(b:bJ)(d:Nat->x):bJ:=fU (λ_=>l) 0 (pE a 0 d) (mK a b)
def o4(a:Nat):m ao->Bool
 |[]=>l
 |b::d=>match fi a b.dst with|true=>o4 a d|false=>v
def Ig{E}:∀{e:m ao},o4 E e=l->∀(a:Nat)b,e[a]?=f b->fi E b.dst=l
 |[],_,a,b,d=>by grind
 |i::j,d,a,b,g=>by
  simp[o4]at d;split at d
  .rename_i h;cases a with
   |zero=>grind
   |succ a=>exact Ig d a b M
  grind
def oZ:m ao->Nat->Bool
 |[],_=>l
 |b::d,a=>match te a (c_ b.after.toList)with|true=>oZ d (a+1)|false=>v
def Gm:∀{i:m ao}{h:Nat},oZ i h=l->∀(a:Nat)d,i[a]?=f d->∀g∈c_ d.after.toList,g<h+a
 |[],_,_,a,d,e=>by grind
 |o::p,h,e,a,d,b=>by
  simp[oZ]at e;split at e
  .rename_i j;cases a with
   |zero=>simp at b;subst b;exact Da j
   |succ a=>intro g k;have:=Gm e a d M g k;omega
  grind
def w6(pre:Nat->Bool):m Nat->Bool
 |[]=>v
 |a::b=>match pre a with|true=>w6 pre b|false=>l
theorem Gd{pre:Nat->Bool}:∀{d:m Nat},w6 pre d=l->∃b∈d,pre b=v
 |[],a=>by cases a
 |b::g,a=>by
  simp[w6]at a;split at a
  .obtain⟨r,e,i⟩:=Gd a;grind
  grind
def n5(pre:Nat->Bool)(b:Nat):m ao->Nat->Bool
 |[],_=>l
 |e::d,a=>match pre a with
  |true=>n5 pre b d (a+1)
  |false=>match ad a b with
   |true=>n5 pre b d (a+1)
   |false=>match w6 pre (c_ e.after.toList)with|true=>n5 pre b d (a+1)|false=>v
theorem HC{pre:Nat->Bool}{z}:∀{h:m ao}{d:Nat},n5 pre z h d=l->∀(a:Nat)e,h[a]?=f e->pre (d+a)=v->d+a≠z->∃o∈c_ e.after.toList,pre o=v
 |[],_,_,a,e,g=>by grind
 |q::p,d,g,a,e,b=>by
  intro i j;simp[n5]at g;cases a with
  |zero=>
   simp at b;subst b;simp[ka]at i j;grind[Nat.eq_of_beq_eq_true,Gd]
  |succ a=>
   have k:n5 pre z p (d+1)=l:=M;exact HC k a e M M u
section
variable {p:ah P}{idx:Nat->Option Nat}
def Yy{h:Nat->x}{j}(r:∀a k b g,bv k b g (match idx a with|some i=>(if ∃d∈q.after,eQ d=l/\d.on=i then h i else .any)|none=>look F a)->bv k b g (look (eh aM.toList F h e) a))(p:l_ E k b (gH F h idx L) j)(s:∀d∈q.after,eQ d=l->L.getD d.on v=l):bX E k b (eh aM.toList F h e) j:=p.fi λa k b g m=>r a k b g (by
 unfold gH at m;cases o:idx a with
 |none=>grind
 |some i=>
  simp only[o]at m⊢;split
  .grind
  .trivial)
def adB{s p:Nat->x}{d}{o}(t:∀g,q.dst=f g->idx g=f e/\g<E)(N:∀g m,idx g=f m->∃q,aM[m]?=f q/\q.dst=f g)(A:aM[e]?=f q)(M:e<L.size)(O:∀m,L.getD m v=l->p m=s m)(w:c b.s=c k)(i:de k b d aB)(j:l_ E k b (gH F s idx L) o)(K:bv d aB aa (p e)):l_ E d aB (gH F p idx (L.setIfInBounds e l)) (o.put q.dst aa):=by
 have old:∀h,idx h≠f e->bv d aB (o.tmps.getD h I) (gH F p idx (L.setIfInBounds e l) h):=by intro h Q;have y:=(j.ak h).mono i.ext w;unfold gH at y⊢;grind[mx]
 cases J:q.dst with
 |none=>
  refine⟨j.size,j.defers.imp λ_ r=>r.mono i.ext,λh=>?_⟩;refine old h λz=>?_;grind
 |some g=>
  obtain⟨B,D⟩:=t g J;refine⟨by simp[Act.put,j.size],j.defers.imp λ_ r=>r.mono i.ext,λh=>?_⟩;simp[Act.put];by_cases u:g=h
  .subst u;have C:g<o.tmps.size:=by rw[j.size];exact D
   simp[hA,uz C,h3];unfold gH;simp only[B];rw[bo ((mx M).2 (.inl a))];exact K
  have:=old h (λz=>by grind);simp[hA]at this⊢;grind
def R_{Sq:∀a e,aM[a]?=f e->∀b∈e.after,eQ b=l->b.on<a}(o:L.size=aM.size)(k:aP .any aM L=[]):∀a,a<aM.size->L.getD a v=l:=by
 intro a;induction a using Nat.strongRecOn with
 |_ a g=>
  intro d;cases m:L.getD a v with
  |true=>rfl
  |false=>
   have i:a∈aP .any aM L:=pe.2 ⟨aM[a],iG d,by grind,λb j h=>by grind⟩;grind
def ZN{o}(a:(aP .any aM L)[o % c (aP .any aM L)]?=n):aP .any aM L=[]:=by
 cases d:aP .any aM L with
 |nil=>rfl
 |cons e b=>
  grind[Nat.mod_lt]
theorem Sa(h:L.size=aM.size)(i:c (L.toList.filter (λb=>!b))<=0):∀a,a<aM.size->L.getD a v=l:=by
 intro a g;have d:L[a]'u∈L.toList:=C;cases e:L[a]'u with
 |true=>simp[hA,iG (by omega:a<L.size),e]
 |false=>
  have:L[a]'u∈L.toList.filter (λb=>!b):=iK.2 ⟨d,by grind⟩;grind
end
def dT(b:Nat)(x:Nat->Bool):Nat->Bool:=λa=>match ad a b with|true=>l|false=>x a
section
variable {p:ah P}{B:Type}{D:B->Nat->x}{idx:Nat->Option Nat}{br:B->(Nat->Bool)->m ap}{gX:B->(Nat->Bool)->Prop}{r:Nat}
def kk(L:Array Bool):Nat->Bool:=λa=>L.getD a v
def Tf(a:e<L.size):kk (L.setIfInBounds e l)=dT e (kk L):=by funext t;have b:=mx (L:=L) (e:=e) (t:=t) a;simp[kk,dT];grind[Nat.eq_of_beq_eq_true,Nat.beq_refl]
def ST{r}(i:L.size=j)(h:∀e,r<=e->¬L.getD e v=l):j-r<=c (L.toList.filter (λa=>!a)):=by
 have k:(L.toList.drop r).filter (λa=>!a)=L.toList.drop r:=by rw[sm];intro a g;obtain⟨d,b,rfl⟩:=hn g;have:=h (r+d) u;simp[so,m4]at b;simp[hA,iG (by omega:r+d<L.size),h3]at this;grind
 grind[List.drop_sublist]
theorem nU.iI(all)(r):nU all (List.range' r (c all-r)) (all.drop r):=by
 have key:∀a j,(∀t q,a[t]?=f q->all[j+t]?=f q)->nU all (List.range' j (c a)) a:=by
  intro a;induction a with
  |nil=>intro j _;trivial
  |cons q b w=>
   exact Qu
 have:=key (all.drop r) r λt q s=>by grind
 grind
structure uj{P:aE}(p:ah P)(E:Nat)(aM:Array ao)(F:bJ){B:Type}(D:B->Nat->x)(br:B->(Nat->Bool)->m ap)(gX:B->(Nat->Bool)->Prop)(idx:Nat->Option Nat)(r:Nat):Prop where
 cS:∀e q,aM[e]?=f q->∀au∈q.after,eQ au=l->au.on<e
 e3:∀e q N,aM[e]?=f q->q.dst=f N->idx N=f e/\N<E
 dM:∀N e,idx N=f e->∃q,aM[e]?=f q/\q.dst=f N
 R:∀κ (x:Nat->Bool) e q,gX κ x->aM[e]?=f q->e<r->x e=v->(∀au∈q.after,eQ au=l->x au.on=l)->(∀t KL,aM[t]?=f KL->x t=l->∀au∈KL.after,eQ au=l->x au.on=l)->dV p E aM.toList q (eh aM.toList F (D κ) e) (br κ x) (λbi:{RD:B // (∀t,x t=l->D RD t=D κ t)/\gX RD (dT e x)}=>D bi.1 e) (λbi=>br bi.1 (dT e x))
 eS:∀(D:Nat->x) e q,aM[e]?=f q->∀o k b aa,bv k b aa (match idx o with|some t=>(if ∃au∈q.after,eQ au=l/\au.on=t then D t else .any)|none=>look F o)->bv k b aa (look (eh aM.toList F D e) o)
 fin:∀(D:Nat->x) o k b aa,bv k b aa (match idx o with|some t=>D t|none=>look F o)->bv k b aa (look (n' aM.toList F D) o)
 gY:∀e q,aM[e]?=f q->r<=e->∀L:Array Bool,(∀e q,aM[e]?=f q->L.getD e v=l->∀au∈q.after,eQ au=l->L.getD au.on v=l)->(∀au∈q.after,eQ au=l->L.getD au.on v=l)->∀h,h<e->L.getD h v=l
 gi:r<=aM.size
 hV:∀κ (x:Nat->Bool),gX κ x->(∀e,e<r->x e=l)->∀e,r<=e->e<aM.size->D κ e=.any
def JC(b:L.size=j)(a:e<j):L.getD e l=v↔¬L.getD e v=l:=M
theorem uj.seq(s:uj p E aM F D br gX idx r):∀k a(L:Array Bool)y,L.size=aM.size->r<=a->a<=aM.size->aM.size-a<=k->(∀o,o<aM.size->(L.getD o v=l↔o<a)) ->
  Region.linearise.go .any aM k y L []=List.range' a (aM.size-a):=by
 intro k;induction k with
 |zero=>
  grind[C9]
 |succ k V=>
  intro a L y B W X Y A;by_cases O:a=aM.size
  .grind [Kf]
  .rw[vq];have w:a<aM.size:=u;have S:∀b j,aM[b]?=f j->L.getD b v=l->∀i∈j.after,eQ i=l->L.getD i.on v=l:=λb j d h i x g=>by have m:=(jd.1 d).1;have e:=(A b m).1 h;have C:=s.cS b j d i x g;grind
   have T:∀b,b∈aP .any aM L->b=a:=λb h=>by
    obtain⟨j,d,t,U⟩:=pe.1 h;have m:=(jd.1 d).1;have K:¬b<a:=λQ=>(JC B m).1 t ((A b m).2 Q);rcases dW a b with e|e
    .have:=s.gY b j d u L S U a e;grind
    omega
   have R:a∈aP .any aM L:=pe.2 ⟨aM[a],iG w,(JC B w).2 (λI=>by grind),λi x g=>by
    have:=s.cS a _ (iG w) i x g
    grind⟩
   have N:0<c (aP .any aM L):=List.length_pos_of_mem R;have z:=pU y N;rw[bI z];have q:=T _ (wT z);simp[q];rw[V (a+1) _ _ M u u u (λo J=>by grind[mx])];rw[show aM.size-a=(aM.size-(a+1))+1 by omega,List.range'_succ]
def uj.eO(m:uj p E aM F D br gX idx r){aL:ai->a6->Prop}{t:aG}{y}(Y:t.kind≠.early){dK}{cG}(X:∀b x d h,gX b x->(∀e,e<r->x e=l)->bX E (br b x) d (n' aM.toList F (D b)) h->bb (br b x) d->de dK cG (br b x) d->ce p aL (G (t.ab h (.inRegion aM (List.range' r (aM.size-r))::y)) ag) d):
  ∀s b L,gX b (kk L)->L.size=aM.size->c (L.toList.filter (λt=>!t))<=s->(∀o,r<=o->¬L.getD o v=l) ->
   (∀e z,aM[e]?=f z->L.getD e v=l->∀I∈z.after,eQ I=l->L.getD I.on v=l) ->
   ∀d h,l_ E (br b (kk L)) d (gH F (D b) idx L) h->bb (br b (kk L)) d->de dK cG (br b (kk L)) d ->
   ∀k,ce p aL (G (t.ab h (.inRegion aM (Region.linearise.go .any aM s k L [])::y)) ag) d:=by
 have fin:∀b L d h s k,gX b (kk L)->L.size=aM.size->c (L.toList.filter (λt=>!t))<=s->(∀o,r<=o->¬L.getD o v=l)->(∀e,e<r->L.getD e v=l)->l_ E (br b (kk L)) d (gH F (D b) idx L) h->bb (br b (kk L)) d->de dK cG (br b (kk L)) d->ce p aL (G (t.ab h (.inRegion aM (Region.linearise.go .any aM s k L [])::y)) ag) d:=by
  intro b L d h s k A K R Q ak C i q;have W:=m.gi;rw[m.seq s r L k K (bA _) W (by have aD:=ST (j:=aM.size) (r:=r) K Q;omega) (λo J=>⟨λal=>by grind,λal=>ak o al⟩)]
  exact X b _ d h A ak (C.fi λk ax d ar H=>m.fin (D b) k ax d ar (by
   unfold gH at H;cases w:idx k with
   |none=>grind
   |some o=>
    simp only[w]at H⊢;obtain⟨z,g,_⟩:=m.dM _ _ w;rcases dW o r with B|B
    .grind
    .rw[m.hV b _ A ak o B (jd.1 g).1];trivial)) i q
 intro s;induction s with
 |zero=>
  intro b L A K R Q V d h C i q k;have W:=m.gi;grind[Sa]
 |succ s ab=>
  intro b L A K R Q V d h C i q k;have W:=m.gi;cases ae:(aP .any aM L)[k % c (aP .any aM L)]? with
  |none=>exact fin b L d h _ k A K R Q (λe w=>R_ (Sq:=m.cS) K (ZN ae) e u) C i q
  |some e=>
   have w:=b8 ae;obtain⟨z,g,ao,ah⟩:=pe.1 w;have aq:e<aM.size:=(jd.1 g).1;rcases dW e r with O|O
   rotate_left
   .exact fin b L d h _ k A K R Q (λo J=>m.gY e z g O L V ah o u) C i q
   rw[vq,ae];have av:¬L.getD e v=l:=M;have aF:c ((L.setIfInBounds e l).toList.filter (λt=>!t))<=s:=by
    have B:L.toList[e]?=f v:=by rw[F3,iG (by omega:e<L.size)];simpa[hA,iG (by omega:e<L.size)]using av
    grind[xE]
   have au:∀S N,aM[S]?=f N->(L.setIfInBounds e l).getD S v=l->∀I∈N.after,eQ I=l->(L.setIfInBounds e l).getD I.on v=l:=wy;have a:bX E (br b (kk L)) d (eh aM.toList F (D b) e) h:=Yy (m.eS (D b) e z g) C ah;have:=m.R b (kk L) e z A g O (by unfold kk;grind) ah V d h a i t y ag aL e (Region.linearise.go .any aM s (k / c (aP .any aM L)) (L.setIfInBounds e l) []) Y M;simp only[wM]at this;refine this λaE ar af H U T=>?_;obtain⟨aB,aA,an⟩:=aE;have aw:=Tf (L:=L) (e:=e) u;simp only at H U T;rw[<-aw]at H U T an;exact ab aB _ an M aF (λo J=>by grind[mx]) au af _ (adB (λaC Z=>m.e3 e z aC g Z) m.dM g u (λS aa=>aA S aa) i.len T C H) U (q.trans T) _
def b0.reg(aC:P.follows Departure.mixedOrders=l)(y:Nat)(t:B->Nat->x)(Q:B->(Nat->Bool)->m ap)(g:B->(Nat->Bool)->Prop)(an:B)(aR:g an λ_=>v)(aA:Q an (λ_=>v)=k)(ak:lk all=l)(a3:oZ all 0=l)(a4:o4 E all=l)(a7:y<=c all)(R:∀e,y<=e->e<c all->∀L:Nat->Prop,(∀e,e<c all->L e->∀i∈c_ (all.getD e et).after.toList,L i)->(∀i∈c_ (all.getD e et).after.toList,L i)->∀N,N<e->L N)(D:∀j (x:Nat->Bool),g j x->(∀e,e<y->x e=l)->∀e,y<=e->e<c all->t j e=.any)(ae:∀j (x:Nat->Bool) e q,g j x->all[e]?=f q->e<y->x e=v->(∀i∈c_ q.after.toList,x i=l)->(∀h ab,all[h]?=f ab->x h=l->∀i∈c_ ab.after.toList,x i=l)->dV p E all q (eh all F (t j) e) (Q j x) (λaI:{aN:B // (∀h,x h=l->t aN h=t j h)/\g aN (dT e x)}=>t aI.1 e) (λaI=>Q aI.1 (dT e x))){aL:fw}(aB:∀j x,g j x->(∀e,e<y->x e=l)->ff p E all (all.drop y) (aL .normal) (n' all F (t j)) (Q j x))(id:Nat):
  b0 p E (.region id all.toArray l) aL F k:=by
 have S:∀e:Nat,all.toArray[e]?=all[e]?:=λe=>by simp
 let idx:Nat->Option Nat:=λo=>(az (c all)).find? (λe=>decide ((all.getD e et).dst=f o));have a':∀o h,idx o=f h->∃q,all[h]?=f q/\q.dst=f o:=M;have aZ:∀e q I,all[e]?=f q->q.dst=f I->idx I=f e:=by
  intro e q I cv u;have bp:e<c all:=(cO.1 cv).1;cases aF:idx I with
  |none=>
   have:=List.find?_eq_none.1 aF e M;grind
  |some h=>
   grind[Dr]
 have ba:∀o,jL o all=l↔∃h,idx o=f h:=by grind[CM,vd]
 have G:∀e q,all[e]?=f q->all.getD e et=q:=λe q bc=>by grind
 have u:uj p E all.toArray F t Q g idx y:=by
  refine⟨?_,?_,?_,?_,?_,?_,λe q cv V L aS aT N aD=>?_,by grind,λj x av aq e r s=>D j x av aq e r M⟩
  .intro e q cv i ac A;rw[S]at cv;have:=Gm a3 e q cv i.on (lZ.2 ⟨i,by grind,A,rfl⟩);omega
  .intro e q I cv u;rw[S]at cv;exact⟨aZ e q I cv u,k8 (Ig a4 e q cv) I u⟩
  .grind
  .intro j x e q av cv Z T aE aU;rw[S]at cv;exact ae j x e q av cv Z T (λi ac=>by grind[lZ]) λh q J aQ i ac=>by grind[lZ]
  .intro t e q cv o k b aa ai;rw[S]at cv;show bv k b aa (look (eh all F t e) o);unfold eh;rw[G e q cv];rcases vs (z:=λh=>ei h (c_ q.after.toList)) (F:=mK all F) (o:=o) (d:=pE all 0 t) (e:=0)with⟨h,a_,r,s,w⟩|w
   .rw[w];rw[EH]at r;cases J:all[h]? with
    |none=>grind
    |some aH=>
     simp[J,lD,e1,lE,cW]at r;rw[aZ h aH o J r.1]at ai;simp only at ai;rw[bo]at ai
     .grind
     simp[cW]at s;obtain⟨i,aO,aP,y⟩:=lZ.1 (qz s);grind
   rw[w,td];split
   .trivial
   grind
  .intro t o k b aa ai;show bv k b aa (look (n' all F t) o);unfold n';rcases vs (z:=λ_=>l) (F:=mK all F) (o:=o) (d:=pE all 0 t) (e:=0)with⟨h,a_,r,s,w⟩|w
   .rw[w];rw[EH]at r;grind
   rw[w,td];split
   .trivial
   grind
  rw[S]at cv;refine R e V (cO.1 cv).1 (λN=>L.getD N v=l) (λa9 aV a8 i ac=>?_) (λi ac=>?_) N aD
  .grind [lZ]
  grind[lZ]
 intro b aO a5 X aP aG aw ao A U;refine .next a λO ah=>?_;have ah:=p.bI ah;have ag:=X.rely ah;have H:=a5.rely ah X;have K:cN k O k {O with a:={O.a with drawn:=O.a.drawn+1}}:=cN.same rfl rfl rfl rfl;have Y:bb k {O with a:={O.a with drawn:=O.a.drawn+1}}:=ag.same rfl;have a0:=ah.aI.trans (K.tooQ ag);refine⟨_,{O with a:={O.a with drawn:=O.a.drawn+1}},#[],D4,⟨⟨k,k,ag,Y,K⟩,.nil⟩,?_⟩;simp only[Region.schedule,aC,Bool.true_or,dA];have W:kk (Array.replicate all.toArray.size v)=λ_=>v:=by funext e;simp[kk,hA,wW];split<;>simp
 refine u.eO A (dK:=k) (cG:=b) (λj x aK ar av aq ax s af=>?_) all.toArray.size an _ M C C ?_ ?_ _ aO ?_ M M _
 .refine aB j x av aq aK ar ax s aP aG aw ao _ A ?_ λa2 a1 aM au aJ f3 w a6=>U .normal _ _ aM au aJ f3 w (af.trans a6);grind[nU.iI]
 .intro e _ bp;simp[hA,wW]at bp;split at bp<;>simp at bp
 .exact EX
 rw[W,aA];have al:=H.mono (K.tooQ ag) ag.len;refine⟨al.size,al.defers,λo=>?_⟩;unfold gH;cases aY:idx o with
 |none=>exact al.ak o
 |some h=>
  simp only;rw[bm]
  .exact al.ak o
  exact wm
def dV.to{r:Type}{s:ι->x}{b:ι->m ap}{t:r->x}{o:r->m ap}(A:dV p E all q F k s b)(D:∀d,∃e,s d=t e/\b d=o e):dV p E all q F k t o:=by intro O w z i y e g u C a h j B;refine A O w z i y e g u C a h j λd S Q K M N=>?_;obtain⟨R,I,J⟩:=D d;grind
def aZ.tocH{d:Type}{A}{B:d->x}{z:d->m ap}(K:aZ p E all q F k A an)(r:d)(e:A=B r)(g:an=z r):dV p E all q F k B z:=by subst e g;exactλN D J j I s b C M a i o h=>K N D J j I s b C M a i o λO y t u w=>h r O y t u w
end
section
variable {p:ah P}
theorem dV.a1{C:ι->x}{d:ι->m ap}(Q:q.guard=n)(M:∀g h,bb k g->(∀D,bv k g (h D) (bD F D))->∃(e:ι)(b:a6)(j:X),(ab h q).run P g.a=.ok (.value j) b.a/\bv (d e) b j (C e)/\bb (d e) b/\cN k g (d e) b/\dv g ((ab h q).events P g.a #[])):dV p E all q F k C d:=by intro g I K i S U J R T z w y u;refine rl w y (i_ Q) λO r=>?_;have o:=i.rely r;obtain⟨e,b,j,s,t,B,A,N⟩:=M O I.eval o (eF (K.rely r i));exact⟨_,b,j,s,.inl a,⟨⟨k,d e,o,B,A⟩,N⟩,u e j b t B (r.aI.trans (A.tooQ o))⟩
def dV.dd{j}(t:aZ p E all q F k j an):dV p E all q F k (λ_:Unit=>j) (λ_=>an):=
 λx o s g r w b m u a e h d=>t x o s g r w b m u a e h λy i=>d () y i
def aZ.aK{a}(d:a0 P q (bD F) k a an)(b:q.guard=n):aZ p E all q F k a an:=.a1 (λ_ _ _ _=>i_ b) d
def aZ.eval{d}(aY:bZ P ac)(a:ba p CT)(e:iA ac CT bf all F k q=f (d,n,cl))(b:T cl):aZ p E all q F k d k:=ef aY a e b
def aZ.u{D}(aY:bZ P ac:=by exact bc)(lO:ba p CT:=by first|assumption|exact ba.nil)(s:iA ac CT [] all F k q=f (D,n,[]):=by rfl):aZ p E all q F k D k:=ef aY lO s A
def qX(i:ah P)(h:Nat)(a:m ao)(g:bJ)(d:m ap)(e:Nat->x)(pre:Nat->Bool):m ao->Nat->Prop
 |[],_=>True
 |j::k,b=>(match pre b with|true=>aZ i h a j (eh a g e b) d (e b) d|false=>True)/\qX i h a g d e pre k (b+1)
def qY(i:ah P)(h:Nat)(a:m ao)(g:bJ)(d:m ap)(e:Nat->x)(j:Nat):m ao->Nat->Prop
 |[],_=>True
 |k::o,b=>(match ad b j with|true=>True|false=>aZ i h a k (eh a g e b) d (e b) d)/\qY i h a g d e j o (b+1)
theorem qX.get{h:Nat->x}{pre:Nat->Bool}:∀{i:m ao}{d:Nat},qX p E all F k h pre i d->∀(b:Nat)e,i[b]?=f e->pre (d+b)=l->aZ p E all e (eh all F h (d+b)) k (h (d+b)) k
 |[],_,_,b,e,g=>by grind
 |o::q,d,g,0,e,a=>λw=>by simp at a;subst a;have j:=g.1;grind
 |o::q,d,g,b+1,e,a=>λw=>by have:=qX.get g.2 b e M M;grind
theorem qY.get{h:Nat->x}{z}:∀{i:m ao}{d:Nat},qY p E all F k h z i d->∀(b:Nat)e,i[b]?=f e->d+b≠z->aZ p E all e (eh all F h (d+b)) k (h (d+b)) k
 |[],_,_,b,e,g=>by grind
 |o::q,d,g,0,e,a=>λw=>by simp at a;subst a;have j:=g.1;simp only[ka]at w;grind[Nat.eq_of_beq_eq_true]
 |o::q,d,g,b+1,e,a=>λw=>by have:=qY.get g.2 b e M u;grind
def kO(pre:Nat->Bool)(d:Nat->x)(e:ι->Nat->x)(b:ι)(a:Nat):x:=match pre a with|true=>d a|false=>e b a
def Dp{r}{pre:Nat->Bool}{o:Nat->x}{j:ι->Nat->x}{t:ι->m ap}{br:ι->(Nat->Bool)->m ap}(R:pre z=v)(T:n5 pre z all 0=l)(same:∀d b,pre b=l->j d b=o b)(C:∀b g,all[b]?=f g->pre b=l->aZ p E all g (eh all F o b) k (o b) k)(qO:∀d (x:Nat->Bool) b g,all[b]?=f g->b≠z->b<r->x b=v->(∀e w,all[e]?=f w->x e=l->∀u∈c_ w.after.toList,x u=l)->aZ p E all g (eh all F (j d) b) (br d x) (j d b) (br d (dT b x)))(B:∀g,all[z]?=f g->dV p E all g (eh all F o z) k (λd=>j d z) t)(Q:∀d (x:Nat->Bool),(∀b,x b=l->pre b=l)->t d=br d (dT z x)):
  ∀i (x:Nat->Bool) b g,(i.isSome=x z/\(i=n->∀b,x b=l->pre b=l))->all[b]?=f g->b<r->x b=v->(∀u∈c_ g.after.toList,x u=l)->(∀d w,all[d]?=f w->x d=l->∀u∈c_ w.after.toList,x u=l) ->
   dV p E all g (eh all F (i.elim o j) b) (i.elim k λd=>br d x) (λK:{D:Option ι // (∀d,x d=l->D.elim o j d=i.elim o j d)/\(D.isSome=dT b x z/\(D=n->∀e,dT b x e=l->pre e=l))}=>K.1.elim o j b) (λK=>K.1.elim k λd=>br d (dT b x)):=by
 intro i x b g N s A y J q;have U:∀{e},dT b x e=l->e=b∨x e=l:=λ{e} h=>by unfold dT at h;grind[Nat.eq_of_beq_eq_true]
 have S:∀{e},e≠b->dT b x e=x e:=λ{e} h=>by unfold dT;grind[Nat.eq_of_beq_eq_true]
 by_cases M:b=z
 .subst M;cases i with
  |some d=>grind
  |none=>
   refine(B g s).to λd=>⟨⟨f d,λe h=>same d e (N.2 a e h),?_,λI=>by cases I⟩,a,Q d x (N.2 a)⟩
   unfold dT;grind[Nat.beq_refl]
 cases i with
 |none=>
  have O:pre b=l:=by grind[HC]
  exact(C b g s O).tocH ⟨n,λ_ _=>rfl,by grind,λ_ e h=>by grind⟩ a a
 |some d=>exact(qO d x b g s M A y q).tocH ⟨f d,λ_ _=>rfl,by grind,λI=>by cases I⟩ rfl rfl
def yH{r}{pre:Nat->Bool}{b:Option ι}{x:Nat->Bool}(h:b.isSome=x z/\(b=n->∀a,x a=l->pre a=l))(e:z<r)(g:∀a,a<r->x a=l):∃d,b=f d:=by
 cases b with
 |some d=>grind
 |none=>grind
def g.dc(O:P.follows Departure.mixedOrders=l)(z)(pre:Nat->Bool)(r:Nat->x)(u:ι->Nat->x)(d:ι->m ap){id}(A:lk aM.toList=l)(B:oZ aM.toList 0=l)(C:o4 E aM.toList=l)(q:Nat.blt z (c aM.toList)=l)(D:pre z=v)(I:n5 pre z aM.toList 0=l)(s:qX p E aM.toList F k r pre aM.toList 0)(qO:∀b,qY p E aM.toList F (d b) (kO pre r u b) z aM.toList 0)(aer:dV p E aM.toList (aM.toList.getD z et) (eh aM.toList F r z) k (λb=>kO pre r u b z) d)(N:∀b,g p E bd av .normal (n' aM.toList F (kO pre r u b)) (d b)):g p E bd (.code (.region id aM l)::av) .normal F k:=by
 have q:=fq q;have:=b0.reg (p:=p) (E:=E) (F:=F) (k:=k) O (all:=aM.toList) (c aM.toList) (λh:Option ι=>h.elim r (kO pre r u)) (λh _=>h.elim k d) (λh x=>h.isSome=x z/\(h=n->∀e,x e=l->pre e=l)) n ⟨rfl,λ_ _ J=>by cases J⟩ a A B C (bA _)
  (λe i j=>absurd j (pX.2 i)) (λh x _ _ e i j=>absurd j (pX.2 i))
  (Dp (br:=λb _=>d b) D I (λb e w=>by simp only[kO,w]) (λe t o w=>by have:=s.get e t o M;grind) (λb x e t o y _ _ _=>by have:=(qO b).get e t o M;grind)
   (λt K=>by grind) (λ_ _ _=>rfl))
  (aL:=g p E bd av) (λh x Q R=>by obtain⟨b,rfl⟩:=yH Q q R;rw[uv];exact .nil (N b)) id
 exact wo
end
section
variable {p:ah P}
def v9(a:m ao)(b:Nat):m Nat->Bool
 |[]=>v
 |d::e=>match ei b (c_ (a.getD d et).after.toList)with|true=>l|false=>v9 a b e
def Nl{all}{e}:∀{h:m Nat},v9 all e h=l->∃b,b∈h/\ei e (c_ (all.getD b et).after.toList)=l
 |[],a=>by cases a
 |b::k,a=>by
  simp only[v9]at a;cases g:ei e (c_ (all.getD b et).after.toList)with
  |true=>exact⟨b,by simp,g⟩
  |false=>
   simp only[g]at a;obtain⟨j,i,d⟩:=Nl a;exact⟨j,by simp[i],d⟩
def uC(a:m ao):Nat->m Nat->Bool
 |0,_=>l
 |d+1,b=>match ei d b with
  |true=>uC a d b
  |false=>match v9 a d b with|true=>uC a d b|false=>v
def AJ{all}:∀{d:Nat}{e:m Nat},uC all d e=l->∀a,a<d->ei a e=l∨∃g,ei g e=l/\ei a (c_ (all.getD g et).after.toList)=l
 |0,_,_,a,k=>by omega
 |d+1,e,b,a,k=>by
  simp[uC]at b;cases i:ei d e with
  |true=>
   simp[i]at b;by_cases j:a=d
   .subst j;exact .inl i
   exact AJ b a u
  |false=>
   simp[i]at b;cases h:v9 all d e with
   |false=>simp[h]at b
   |true=>
    simp[h]at b;by_cases j:a=d
    .subst j;obtain⟨g,k1,o⟩:=Nl h;exact .inr ⟨g,vu k1,o⟩
    exact AJ b a u
def g.hH(G:P.follows Departure.mixedOrders=l)(z last)(pre:Nat->Bool)(r:Nat->x)(w:ι->Nat->x)(j h:ι->m ap){id}(ab:lk aM.toList=l)(ae:oZ aM.toList 0=l)(ah:o4 E aM.toList=l)(A:Nat.blt z (c aM.toList)=l)(al:pre z=v)(aq:n5 pre z aM.toList 0=l)(aa:ad (last+1) (c aM.toList)=l)(V:uC aM.toList last (c_ (aM.toList.getD last et).after.toList)=l)(ai:pre last=v)(ar:ad last z=v)(J:qX p E aM.toList F k r pre aM.toList 0)(qO:∀a,qY p E aM.toList F (j a) (kO pre r w a) z aM.toList.dropLast 0)(t:dV p E aM.toList (aM.toList.getD z et) (eh aM.toList F r z) k (λa=>kO pre r w a z) j)(I:∀a,aZ p E aM.toList (aM.toList.getD last et) (eh aM.toList F (kO pre r w a) last) (j a) (w a last) (h a))(q:∀a,g p E bd av .normal (n' aM.toList F (kO pre r w a)) (h a)):g p E bd (.code (.region id aM l)::av) .normal F k:=by
 have ag:=dn aa;have au:last≠z:=by grind[Nat.beq_refl]
 have A:=fq A;have:=b0.reg (p:=p) (E:=E) (F:=F) (k:=k) G (all:=aM.toList) (c aM.toList) (λs:Option ι=>s.elim r (kO pre r w)) (λs x=>s.elim k λa=>match x last with|true=>h a|false=>j a) (λs x=>s.isSome=x z/\(s=n->∀e,x e=l->pre e=l)) n ⟨rfl,λ_ _ N=>by cases N⟩ rfl ab ae ah (bA _)
  (λe b i=>absurd i (pX.2 b)) (λs x _ _ e b i=>absurd i (pX.2 b))
  (Dp (br:=λa x=>match x last with|true=>h a|false=>j a) al aq (λa e O=>by simp[kO,O]) (λe B o O=>by have:=J.get e B o (by rwa [cW]);rwa [cW]at this)
   (λa x e B o Y X D y=>by
    by_cases an:e=last
    .subst an;have b:=I a;rw[show aM.toList.getD e et=B by simp[aj,o]]at b;simp[D,dT,sz];rw[show kO pre r w a e=w a e by simp[kO,ai]];exact b
    .have K:=(cO.1 o).1;have ak:aM.toList.dropLast[e]?=f B:=M;have b:=(qO a).get e B ak (by rwa [cW]);rw[cW]at b;have Q:ad last e=v:=t0;have C:x last=v:=by
      cases C:x last with
      |false=>rfl
      |true=>
       have W:=bI (l:=aM.toList) (by omega:last<c aM.toList);have Z:∀q T,aM.toList[q]?=f T->aM.toList.getD q et=T:=λq T N=>by simp[aj,N]
       rw[Z _ _ W]at V;rcases AJ V e u with i|⟨q,i,U⟩
       .grind [qz]
       have af:=y last _ W C q (qz i);cases ao:aM.toList[q]? with
       |none=>rw[show aM.toList.getD q et=et by simp[aj,ao]]at U;simp[et,c_,ei]at U
       |some ok=>
        grind[qz]
     simp[dT,Q,C];exact b)
   (λB R=>by rw[show aM.toList.getD z et=B by simp[aj,R]]at t;exact t)
   (λa x S=>by
    have C:x last=v:=M
    simp[dT,ar,C]))
  (aL:=g p E bd av) (λs x H S=>by
   obtain⟨a,rfl⟩:=yH H A S;rw[uv];simp[Option.elim,S last u]
   exact .nil (q a)) id
 exact wo
end
def jj(a:bC):X:=.string ⟨a.toArray⟩
def SA{a}{b}(d:a.data.toList=b):Value.string a=jj b:=by subst d;simp[jj]
theorem Eh{a}(d:Rd bz aa (.V a)):aa=jj a/\dS aa=l:=by
 cases d with
 |V b _=>exact⟨SA b,rfl⟩
section
variable {p:ah P}{D:Nat->x}{br:(Nat->Bool)->m ap}
def na:m ao->m (m Bool)->m (m Bool)
 |[],w=>w
 |q::a9,w=>d (lJ w (c_ q.after.toList)) λr=>na a9 (w++[r])
 where d:m Bool->(m Bool->m (m Bool))->m (m Bool)
 |[],bi=>bi []
 |true::a9,bi=>d a9 λa9=>bi (l::a9)
 |false::a9,bi=>d a9 λa9=>bi (v::a9)
theorem ye:∀d(a:m Bool->m (m Bool)),na.d d a=a d
 |[],a=>rfl
 |true::b,a=>by simp[na.d];rw[ye b]
 |false::b,a=>by simp[na.d];rw[ye b]
def HB{a:m ao}{x:Nat->Bool}(q:∀(b:Nat)d,a[b]?=f d->x b=l->∀h∈c_ d.after.toList,x h=l):
  ∀k e,(∀j,k[j]?=a[c e+j]?)->(∀(b:Nat) g,e[b]?=f g->∀d,a[b]?=f d->(∀h∈c_ d.after.toList,x h=l)->∀i,gx g i=l->x i=l) ->
   ∀(b:Nat) (g:m Bool),(na k e)[b]?=f g->∀d,a[b]?=f d->(∀h∈c_ d.after.toList,x h=l)->∀i,gx g i=l->x i=l
 |[],e,_,p=>p
 |d::k,e,o,p=>by
  simp[na];rw[ye];refine HB q k _ (λj=>?_) ?_
  .have:=o (j+1);grind
  intro b g r;have s:=o 0;simp[mf,ka]at s;rcases Nat.lt_trichotomy b (c e) with u|rfl|t
  .grind
  .rw[ho (bA _)]at r;grind[BI]
  grind
def hs(a:m ao)(d e:Nat):Bool:=match(na a [])[d]? with|some b=>gx b e|none=>v
def Gn{x:Nat->Bool}(j:∀(a:Nat)b,all[a]?=f b->x a=l->∀g∈c_ b.after.toList,x g=l):∀d b,all[d]?=f b->(∀g∈c_ b.after.toList,x g=l)->∀a,hs all d a=l->x a=l:=by
 intro d b h i a e;unfold hs at e;split at e
 .rename_i r k;exact HB j all [] C C d r k b h i a e
 grind
def R7{x:Nat->Bool}(k:∀(a:Nat)j,all[a]?=f j->x a=l->∀m∈c_ j.after.toList,x m=l)(p:x e=v):∀a,(a=e∨hs all a e=l)->x a=v:=by
 intro a i;rcases i with rfl|i
 .exact p
 cases o:x a with
 |false=>rfl
 |true=>
  have b:∃d,all[a]?=f d:=by
   cases b:all[a]? with
   |some d=>grind
   |none=>
    exfalso;have q:c (na all [])=c all:=by
     have:∀g h,c (na g h)=c h+c g:=by
      intro g;induction g with
      |nil=>intro h;simp[na]
      |cons j g r=>intro h;simp[na];grind[ye]
     grind
    unfold hs at i;grind
  obtain⟨d,b⟩:=b;have:=Gn k a d b (k a d b o) e i;grind
def cd(j:ah P)(i:Nat)(a:m ao)(h:bJ)(g:Nat->x)(e:(Nat->Bool)->m ap)(b:Nat)(k:ao):Prop:=
 ∀x:Nat->Bool,(∀d,hs a b d=l->x d=l)->(∀d,(d=b∨hs a d b=l)->x d=v)->aZ j i a k (eh a h g b) (e x) (g b) (e (dT b x))
def t'{P}(g:ah P)(d:Nat)(a:m ao)(b:bJ)(i:Nat->x)(e:(Nat->Bool)->m ap):m ao->Nat->Prop
 |[],_=>True
 |j::k,h=>cd g d a b i e h j/\t' g d a b i e k (h+1)
theorem t'.get{all}:∀{h:m ao}{g:Nat},t' p E all F D br h g->∀d b,h[d]?=f b->cd p E all F D br (g+d) b
 |[],_,_,d,b,e=>by grind
 |i::j,g,e,0,b,a=>by simp at a;subst a;exact e.1
 |i::j,g,e,d+1,b,a=>by have:=t'.get e.2 d b M;grind
def g.b_{id}(B:P.follows Departure.mixedOrders=l)(o:Nat->x)(j:(Nat->Bool)->m ap)(C:j (λ_=>v)=k)(t:lk aM.toList=l)(u:oZ aM.toList 0=l)(w:o4 E aM.toList=l)(i:t' p E aM.toList F o j aM.toList 0)(D:∀x,(∀e,e<c aM.toList->x e=l)->g p E bd av .normal (n' aM.toList F o) (j x)):g p E bd (.code (.region id aM l)::av) .normal F k:=by
 have:=b0.reg (p:=p) (E:=E) (F:=F) (k:=k) B (all:=aM.toList) (c aM.toList) (λ_:Unit=>o) (λ_=>j) (λ_ _=>True) () A C t u w (bA _)
  (λe b d=>absurd d (pX.2 b)) (λr x _ _ e b d=>absurd d (pX.2 b))
  (λr x e s _ h _ z y q=>by have b:=i.get e s h;rw[cW]at b;exact(b x (Gn q e s h y) (R7 q z)).tocH ⟨(),λ_ _=>rfl,A⟩ a a)
  (aL:=g p E bd av) (λr x _ I=>by rw[uv];exact .nil (D x I)) id
 exact wo
end
section
variable {p:ah P}{D:Nat->x}{i:Bool->Bool->Bool->m ap}{f1 f2 f3:Nat}
abbrev lc(e:Bool->Bool->Bool->m ap)(a b d:Nat):(Nat->Bool)->m ap:=λx=>e (x a) (x b) (x d)
def pB{x:Nat->Bool}(a:ad t e=v):dT e x t=x t:=by simp only[dT,a]
def ED{x:Nat->Bool}:dT e x e=l:=zW
def cd.eL(a:ad f1 e=v)(b:ad f2 e=v)(j:ad f3 e=v)(k:∀d g h,aZ p E all q (eh all F D e) (i d g h) (D e) (i d g h)):cd p E all F D (lc i f1 f2 f3) e q:=by intro x _ _;show aZ p E all q _ (i (x f1) (x f2) (x f3)) _ (i (dT e x f1) (dT e x f2) (dT e x f3));rw[pB a,pB b,pB j];exact k _ _ _
def cd.cK(aY:bZ P ac:=by exact bc)(lO:ba p CT:=by first|assumption|exact ba.nil)(s:∀w r N,iA ac CT [] all (eh all F D e) (i w r N) q=f (D e,n,cl):=by intro w r N;cases w<;>cases r<;>cases N<;>rfl)(c5:ad f1 e=v:=by rfl)(dt:ad f2 e=v:=by rfl)(au:ad f3 e=v:=by rfl)(cv:T cl:=by simp only[T,a7];omega):cd p E all F D (lc i f1 f2 f3) e q:=.eL c5 dt au λw r N=>aZ.eval aY lO (s w r N) cv
def cd.ay(aY:bZ P ac:=by exact bc)(lO:ba p CT:=by first|assumption|exact ba.nil)(s:∀w r N,iA ac CT [] all (eh all F D e) (i w r N) q=f (D e,n,[]):=by intro w r N;cases w<;>cases r<;>cases N<;>rfl)(c5:ad f1 e=v:=by rfl)(dt:ad f2 e=v:=by rfl)(au:ad f3 e=v:=by rfl):cd p E all F D (lc i f1 f2 f3) e q:=.cK (cl:=[]) aY lO s c5 dt au A
def cd.dZ(d:ad f1 e=l)(r:ad f1 e=l)(b:ad f2 e=v)(j:ad f3 e=v)(o:∀g h,aZ p E all q (eh all F D e) (i v g h) (D e) (i l g h)):cd p E all F D (lc i f1 f2 f3) e q:=by intro x _ m;have k:=dn d;subst k;show aZ p E all q _ (i (x f1) (x f2) (x f3)) _ (i (dT f1 x f1) (dT f1 x f2) (dT f1 x f3));rw[ED,pB b,pB j,m f1 (.inl a)];exact o _ _
def cd.d_(g:ad f2 e=l)(b:ad f1 e=v)(m:ad f3 e=v)(d:hs all f3 e=l)(r:ad f2 e=l)(o:∀h,aZ p E all q (eh all F D e) (i h v v) (D e) (i h l v)):cd p E all F D (lc i f1 f2 f3) e q:=by intro x _ j;have k:=dn g;subst k;show aZ p E all q _ (i (x f1) (x f2) (x f3)) _ (i (dT f2 x f1) (dT f2 x f2) (dT f2 x f3));rw[ED,pB b,pB m,j f2 (.inl a),j f3 (.inr d)];exact o _
def cd.d'(j:ad f3 e=l)(b:ad f1 e=v)(d:ad f2 e=v)(h:hs all e f2=l)(r:ad f3 e=l)(o:∀k,aZ p E all q (eh all F D e) (i k l v) (D e) (i k l l)):cd p E all F D (lc i f1 f2 f3) e q:=by intro x aY g;have m:=dn j;subst m;show aZ p E all q _ (i (x f1) (x f2) (x f3)) _ (i (dT f3 x f1) (dT f3 x f2) (dT f3 x f3));rw[ED,pB b,pB d,g f3 (.inl a),aY f2 h];exact o _
end
def w7(a:Nat->Bool):m Nat->Bool
 |[]=>v
 |b::d=>match a b with|true=>l|false=>w7 a d
def Ge{e:Nat->Bool}:∀{d:m Nat},w7 e d=l->∃b∈d,e b=l
 |[],a=>by cases a
 |b::j,a=>by
  simp[w7]at a;split at a
  .grind
  obtain⟨i,g,h⟩:=Ge a;grind
def vN(a:m ao)(d:Nat):Nat->m Nat->Bool
 |0,b=>ei d b
 |g+1,b=>match ei d b with|true=>l|false=>w7 (λe=>vN a d g (c_ (a.getD e et).after.toList)) b
def y1{all}{h}{L:Nat->Prop}(i:∀j,j<c all->L j->∀a∈c_ (all.getD j et).after.toList,L a):∀{k:Nat}{d:m Nat},vN all h k d=l->(∀a∈d,L a)->L h
 |0,d,b,e=>e h (qz b)
 |k+1,d,b,e=>by
  simp only[vN]at b;split at b
  .grind [qz]
  obtain⟨a,q,g⟩:=Ge b;rcases dW a (c all) with o|o
  .exact y1 i g (i a o (e a q))
  have:all.getD a et=et:=M;rw[this]at g;exact y1 i g (λr p=>by simp[et,c_]at p)
def uF(a:m ao)(b:Nat)(d:m Nat):Nat->Bool
 |0=>l
 |e+1=>match vN a e b d with|true=>uF a b d e|false=>v
def AX{all}{h}{d}:∀{b:Nat},uF all h d b=l->∀a,a<b->vN all a h d=l
 |0,_,a,g=>by omega
 |b+1,e,a,g=>by
  simp[uF]at e;split at e
  .rename_i i;by_cases j:a=b
   .grind
   exact AX e a u
  grind
def uX(a:m ao)(d:Nat):Nat->Nat->Bool
 |_,0=>l
 |b,e+1=>match uF a d (c_ (a.getD b et).after.toList) b with|true=>uX a d (b+1) e|false=>v
def BW{all}{g}:∀{b e:Nat},uX all g b e=l->∀a,b<=a->a<b+e->uF all g (c_ (all.getD a et).after.toList) a=l
 |b,0,_,a,h,i=>by omega
 |b,e+1,d,a,h,i=>by
  simp[uX]at d;split at d
  .rename_i r;by_cases j:a=b
   .grind
   exact BW d a u u
  grind
section
variable {p:ah P}
def tg(b:Nat)(pre:Nat->Bool)(e:Nat->x)(g:ι->Nat->x)(d:ι)(a:Nat):x:=match Nat.blt a b with|true=>kO pre e g d a|false=>.any
def g.eJ(ae:P.follows Departure.mixedOrders=l)(z r U)(pre:Nat->Bool)(j:Nat->x)(A:ι->Nat->x)(e:ι->m ap){id}(S:lk aM.toList=l)(T:oZ aM.toList 0=l)(V:o4 E aM.toList=l)(Z:pre z=v)(ab:n5 pre z aM.toList 0=l)(R:Nat.blt r (c aM.toList)=l)(h:Nat.blt z r=l)(Y:∀b,pre b=l->b<r)(o:uX aM.toList U r (c aM.toList-r)=l)(y:qX p E aM.toList F k j pre aM.toList 0)(qO:∀d,qY p E aM.toList F (e d) (tg r pre j A d) z (aM.toList.take r) 0)(Q:dV p E aM.toList (aM.toList.getD z et) (eh aM.toList F j z) k (λd=>tg r pre j A d z) e)(I:∀d,g p E bd (.S aM.toList (aM.toList.drop r)::av) .normal (n' aM.toList F (tg r pre j A d)) (e d)):g p E bd (.code (.region id aM l)::av) .normal F k:=by
 have R:=fq R;have h:=fq h;have:=b0.reg (p:=p) (E:=E) (F:=F) (k:=k) ae (all:=aM.toList) r (λi:Option ι=>i.elim j (tg r pre j A)) (λi _=>i.elim k e) (λi x=>i.isSome=x z/\(i=n->∀b,x b=l->pre b=l)) n ⟨rfl,λ_ _ W=>by cases W⟩ a S T V u
  (λb s B L af q I D=>y1 af (AX (BW o b s u) I D) q)
  (λi x J K b s B=>by
   obtain⟨d,rfl⟩:=yH J h K;have:Nat.blt b r=v:=by
    cases C:Nat.blt b r with
    |false=>rfl
    |true=>have:=fq C;omega
   simp[Option.elim,tg,this])
  (Dp (br:=λd _=>e d) Z ab (λd b q=>by have:Nat.blt b r=l:=Aq (Y b q);simp[tg,this,kO,q])
   (λb w t q=>by have:=y.get b w t M;grind)
   (λd x b w t O N _ _=>by
    have aa:(aM.toList.take r)[b]?=f w:=M
    have:=(qO d).get b w aa M;grind)
   (λw X=>by grind) (λ_ _ _=>rfl))
  (aL:=g p E bd av) (λi x J K=>by obtain⟨d,rfl⟩:=yH J h K;exact I d) id
 exact wo
end
def ee(b:Nat)(e:al)(h:X):X->(Nat->Option Obj)->Prop:=λg a=>g=.pointer (f ⟨b,0,n⟩)/\a b=f (.cells #[h] e (0,0))/\∀d,d≠b->a d=n
section
variable {p:ah P}
def aZ.gq(aY:bZ P ac){o B}(d){e}(al:oF all F q=l)(u:q.op=.load o (.global B))(J:c' d k=f (.J (ee B W aa)))(s:bW ac o=f e)(ae:dS aa=l)(S:hj e [.c (.val aa)]=f (.R (.c (.val aa)))):
  aZ p E all q F k (ax (.val aa)) k:=by
 intro b T ah I i av ag ar aw Q D N C;refine rl D N (jW al _ _ _ ah) λh Y=>?_;have m:=I.rely Y;have aH:=eo J;have an:d<c h.s:=by rw[m.len];grind
 have w:=bI an;generalize h.s[d]=L at w;obtain⟨af,⟨ai,z,ao⟩,H,Z,aq⟩:=m.box d _ L aH w;have x:=H B _ z;have G:B∈L.aj:=(Z B).2 M
 have X:T.eval (.global B)=.pointer (f ⟨B,0,n⟩):=rfl;have K:bM k h [aa] [.c (.val aa)]:=⟨Rd.val ae,A⟩;obtain⟨R,V,O⟩:=tx (b:=h) (k:=k) (P:=P) (aY o e s) (i:=B) (off:=0) (y:=[aa]) (ag:=[.c (.val aa)]) (au:=.R (.c (.val aa))) (λU aA t=>by
  simp only[aJ,x]
  grind) K S
 refine⟨.value R,h,R,by simp[ab,u,X,Instr.loadAt,Instr.sureAddr,V],.inl a,⟨⟨k,k,m,m,.refl _ _⟩,?_⟩,C R h O m Y.aI⟩;intro r g;have ak:r∈(loadVar o ⟨B,0,n⟩).events P h.a #[]:=by
  have au:ab T.eval q=(do pure (.value (<-loadVar o ⟨B,0,n⟩))):=by simp[ab,u,X,Instr.loadAt,Instr.sureAddr]
  rw[au]at g;simpa[V]using g
 obtain⟨U,t,rfl⟩:=o5 (aY o e s) (j:=1) (λU t=>⟨aa,by simp only[aJ,x];grind⟩) (by have:=r7 S;grind) r ak;exact qf (b8 w) G
end
section
variable {p:ah P}
def ua{P}(i:ah P)(h:Nat)(a:m ao)(g:bJ)(b:m ap)(e:Nat->x):m x->m ao->Nat->Prop
 |_::o,k::j,d=>aZ i h a k (eh a g e d) b (e d) b/\ua i h a g b e o j (d+1)
 |[],_,_=>True
 |_::_,[],_=>False
theorem ua.get{all}{o:Nat->x}:∀{i:m x}{j:m ao}{h:Nat},ua p E all F k o i j h->∀a e,j[a]?=f e->a<c i->aZ p E all e (eh all F o (h+a)) k (o (h+a)) k
 |[],_,_,_,a,e,_,b=>absurd b (iJ _)
 |_::i,[],_,g,a,e,_,b=>g.elim
 |q::i,r::j,h,g,0,e,d,_=>by cases d;exact g.1
 |q::i,r::j,h,g,a+1,e,d,b=>by have:=ua.get g.2 a e d M;grind
def g.gm(C:P.follows Departure.mixedOrders=l)(af)(r){id}(w:lk aM.toList=l)(y:oZ aM.toList 0=l)(z:o4 E aM.toList=l)(i:ay (c af) (c aM.toList)=l)(e:uX aM.toList r (c af) (c aM.toList-c af)=l)(h:ua p E aM.toList F k (λd=>af.getD d .any) af aM.toList 0)(s:g p E bd (.S aM.toList (aM.toList.drop (c af))::av) .normal (n' aM.toList F λd=>af.getD d .any) k):g p E bd (.code (.region id aM l)::av) .normal F k:=by
 have i:=fq i;have:=b0.reg (p:=p) (E:=E) (F:=F) (k:=k) C (all:=aM.toList) (c af) (λ_:Unit=>λd=>af.getD d .any) (λ_ _=>k) (λ_ _=>True) () A a w y z i
  (λd b j L D B s o=>y1 D (AX (BW e d b u) s o) B)
  (λt x _ _ d b j=>by grind)
  (λt x d I _ q m _ _ _=>by have b:=h.get d I q m;rw[cW]at b;exact b.tocH ⟨(),λ_ _=>rfl,A⟩ a a)
  (aL:=g p E bd av) (λt x _ _=>s) id
 exact wo
end
section
variable {p:ah P}
def pP{e:Type}(w:ah P)(u:Nat)(k:fw)(t:m im)(s:e->Prop)(r:e->bJ)(p:e->m ap)(q:e->Nat)(x:Nat)(y:e):fw:=λo d h=>match o with
 |.normal=>∃i j,x<=j/\s i/\q i<q y/\iE d (r i)/\qs j (r i)=l/\∃a b,h=a++b/\c a=j/\(km j a=l/\jN b=l)/\q1 a (p i)
 |o=>g w u k t o d h
def g.hr{z:Type}(V:Nat)(y:z->Prop)(e:z->bJ)(b7:z->m ap)(S:z->Nat)(h){cR}(x:iZ F (e h)=f Y)(aq:T Y)(aF:jo k (b7 h)=f cR)(an:T cR)(aC:c k=V)(H:y h)(round:∀h,y h->g p E (pP p E bd av y e b7 S V h) [.code r] .normal (e h) (b7 h)):g p E bd (.code (.loop r)::av) .normal F k:=by
 intro ah aP ar s X R I A b J;have ae:=jM aF an;obtain⟨aM,K,_⟩:=ae ah s;refine w9 (λaf d aB=>∃bE,y bE/\bX E (b7 bE) aB (e bE) d/\bb (b7 bE) aB/\de k ah (b7 bE) aB/\S bE=af) ?_ ?_ ⟨h,H,(ar.le (eH x aq)).aj ae s,aM,K.tooQ s,a⟩
 .rintro j d aB ⟨bE,Q,O,B,N,au⟩;exact OC
 rintro af d aB ⟨bE,Q,O,B,N,rfl⟩ ax;refine round bE Q aB d O B X (.inLoop r::R) I A b ?_;intro au aN ak t D ag w q i;cases au with
 |normal=>
  obtain⟨ai,aG,ab,ao,aE,aD,aO,o,U,rfl,aa,⟨G,al⟩,aI⟩:=ag;have W:=q.drop M;obtain⟨aK,Z,aH⟩:=aI _ W;have f3:=w.le aD;have aw:eZ t (t.cut (c o)):=⟨rfl,λ_ _ _ aA=>aA,λ_ _ _=>rfl,q.mem,λX b=>b.imp id λ⟨L,aL,b⟩=>⟨L,gY aL,b⟩⟩
  refine .aP aw (ax D (t.cut (c o)) (S ai) aE ⟨ai,ao,⟨f3.size,f3.defers.imp λ_ c5=>(c5.drop al).mono Z.ext,λaJ=>aH _ _ ((f3.ak aJ).drop (vh M))⟩,aK,?_,a⟩);exact((N.trans i).drop u).trans (Z.tooQ W)
 |_=>exact kI.cons (λ_ _=>rfl) C (J _ _ _ _ _ ag w q (N.trans i))
def g.ft{e:Type}{q}{o:e->Prop}{a:e->bJ}{d:e->m ap}{h:e->Nat}{r}{t}(j)(b){cR}(i:q<=j)(y:iZ F (a b)=f Y)(A:T Y)(w:qs j (a b)=l)(s:vz j k=l)(u:jo (k.take j) (d b)=f cR)(B:T cR)(z:km j (k.take j)=l)(C:o b)(x:h b<h r):
  g p E (pP p E bd t o a d h q r) [] .normal F k:=
 ⟨b,j,i,C,x,eH y A,w,k.take j,k.drop j,(uy j k).symm,by grind[Nat.le_of_ble_eq_true,yJ],⟨z,(yJ s).2⟩,jM u B⟩
def g.fG{s:Type}{r}{j:s->Prop}{e:s->bJ}{h:s->m ap}{o:s->Nat}{q}{id}{x i y}(t:iV id x=n)(u:iV id i=f y)(z:g p E bd y .normal F k):
  g p E (pP p E bd i j e h o r q) (.code (.exit id)::x) .normal F k:=
 b0.mono (g.bs (O:=λa b=>pP p E bd i j e h o r q .normal a b) t u z) λd a b A=>by
  have key:∀w d,g p E (λd a b=>match d with
    |.normal=>pP p E bd i j e h o r q .normal a b
    |d=>g p E bd i d a b) w d a b->g p E (pP p E bd i j e h o r q) w d a b:=by
   have d:(λd a b=>match d with
    |.normal=>pP p E bd i j e h o r q .normal a b
    |d=>g p E bd i d a b)=pP p E bd i j e h o r q:=by funext d a b;cases d<;>rfl
   grind
  exact key _ _ A
end
def da(d:bJ)(a:m Nat):bJ:=a.map λb=>(b,look d b)
section
variable {p:ah P}
def g.dC{h:Type}(j)(aU)(e:h->Prop)(b:h->bJ)(d:h->m ap)(o:h->Nat)(a){cR}(s:iZ F (da F aU++b a)=f Y)(t:T Y)(q:jo k (d a)=f cR)(u:T cR)(i:c k=j)(w:e a)(round:∀a,e a->g p E (md p E bd av e (λa=>da F aU++b a) d o j a) [.code r] .normal (da F aU++b a) (d a)):g p E bd (.code (.loop r)::av) .normal F k:=
 .aC j e (λa=>da F aU++b a) d o a s t q u i w round
end
section
variable {p:ah P}{D:Nat->x}{au:Bool->Bool->Bool->Bool->m ap}{f1 f2 f3 f4:Nat}
abbrev mv(g:Bool->Bool->Bool->Bool->m ap)(a b d e:Nat):(Nat->Bool)->m ap:=λx=>g (x a) (x b) (x d) (x e)
theorem Nd{x:Nat->Bool}(a:ad t e=v):dT e x t=x t:=by simp only[dT,a]
theorem ady{x:Nat->Bool}:dT e x e=l:=zW
def cd.jJ(h:ad f1 e=v)(i:ad f2 e=v)(k:ad f3 e=v)(j:ad f4 e=v)(m:∀a b d g,aZ p E all q (eh all F D e) (au a b d g) (D e) (au a b d g)):cd p E all F D (mv au f1 f2 f3 f4) e q:=by intro x _ _;grind[Nd]
def cd.jK(aY:bZ P ac)(lO:ba p CT)(cv:T cl)(s:∀w i r N,iA ac CT [] all (eh all F D e) (au w i r N) q=f (D e,n,cl):=by intro w i r N;cases w<;>cases i<;>cases r<;>cases N<;>rfl)(c5:ad f1 e=v:=by rfl)(dt:ad f2 e=v:=by rfl)(B:ad f3 e=v:=by rfl)(ak:ad f4 e=v:=by rfl):cd p E all F D (mv au f1 f2 f3 f4) e q:=.jJ c5 dt B ak λw i r N=>aZ.eval aY lO (s w i r N) cv
def cd.aN(aY:bZ P ac:=by exact bc)(lO:ba p CT:=by first|assumption|exact ba.nil)(s:∀w i r N,iA ac CT [] all (eh all F D e) (au w i r N) q=f (D e,n,[]):=by intro w i r N;cases w<;>cases i<;>cases r<;>cases N<;>rfl)(c5:ad f1 e=v:=by rfl)(dt:ad f2 e=v:=by rfl)(B:ad f3 e=v:=by rfl)(ak:ad f4 e=v:=by rfl):cd p E all F D (mv au f1 f2 f3 f4) e q:=.jK (cl:=[]) aY lO A s c5 dt B ak
def cd.dW(a:ad f2 f1=v)(g:ad f3 f1=v)(b:ad f4 f1=v)(e:hs all f2 f1=l)(h:hs all f3 f1=l)(d:hs all f4 f1=l)(i:aZ p E all q (eh all F D f1) (au v v v v) (D f1) (au l v v v)):cd p E all F D (mv au f1 f2 f3 f4) f1 q:=zV
def cd.eT(a:ad f1 f2=v)(g:ad f3 f2=v)(d:ad f4 f2=v)(b:hs all f2 f1=l)(h:hs all f3 f2=l)(e:hs all f4 f2=l)(i:aZ p E all q (eh all F D f2) (au l v v v) (D f2) (au l l v v)):cd p E all F D (mv au f1 f2 f3 f4) f2 q:=zV
def cd.eU(a:ad f1 f3=v)(b:ad f2 f3=v)(g:ad f4 f3=v)(h:hs all f3 f1=l)(e:hs all f3 f2=l)(d:hs all f4 f3=l)(i:aZ p E all q (eh all F D f3) (au l l v v) (D f3) (au l l l v)):cd p E all F D (mv au f1 f2 f3 f4) f3 q:=zV
def cd.eV(a:ad f1 f4=v)(b:ad f2 f4=v)(g:ad f3 f4=v)(h:hs all f4 f1=l)(e:hs all f4 f2=l)(d:hs all f4 f3=l)(i:aZ p E all q (eh all F D f4) (au l l l v) (D f4) (au l l l l)):cd p E all F D (mv au f1 f2 f3 f4) f4 q:=zV
end
section
variable {ac:m (Nat×cm)}
def a0.jT(aY:bZ P ac){T Q V X:ae}(af:q.op=.slice o T (f Q) (f V) (f X)){G a4}(ah:bW ac o=f G)(L:G.desc=.slice W)(ai:bW ac W=f a4){eN}{p d m}{e t z}(an:∀ag r,bv k ag r (η T)->Rd ag.C r (.A eN a4.size j U))(ak:η Q=ax (.int p e))(al:η V=ax (.int d t))(aL:η X=ax (.int m z))(Z:0<=e)(aG:e<=t)(av:t<=z)(aw:z<=j):
  a0 P q η k (ax (.A v a4.size (t.toNat-e.toNat) (fs e.toNat U))) k:=by
 refine .aS λb F aA B=>?_;have S:=an b _ (B T);have get:∀h R r,η h=ax (.int R r)->F h=.int R r:=λh R r x=>by have s:=B h;rw[x]at s;replace s:=b6 s;generalize F h=aC at s;cases s;rfl
 have O:=get Q p e ak;have K:=get V d t al;have Y:=get X m z aL;obtain⟨aa,g,y,H,aE,aF,aH,a,aB⟩:=S.b0;rw[H]at S;have J:=(aY o G ah).run_underlying (Q:=b.a);rw[L]at J;have em:((z.toNat:Nat):Int)=z:=q_ u;have ar:((t.toNat:Nat):Int)=t:=q_ u;have w:(aV l j g (f (.int p e)) (f (.int d t)) (f (.int m z))).run P b.a=.ok (e.toNat,t.toNat,z.toNat) b.a:=by simp[aV,run_sliceBound (P:=P) b.a m z g _ u u,run_sliceBound (P:=P) b.a d t z.toNat _ u u,run_sliceBound (P:=P) b.a p e t.toNat _ Z u]
 have ao:(aV l j g (f (.int p e)) (f (.int d t)) (f (.int m z))).events P b.a #[]=#[]:=by simp[aV,run_sliceBound (P:=P) b.a m z g _ u u,run_sliceBound (P:=P) b.a d t z.toNat _ u u,k' (P:=P) b.a m z g _ u u,k' (P:=P) b.a d t z.toNat _ u u,k' (P:=P) b.a p e t.toNat _ Z u]
 refine⟨.slice (if z.toNat=e.toNat then aa else aa.map (·.add (e.toNat*a4.size))) (t.toNat-e.toNat) (z.toNat-e.toNat),?_,?_,by simp[ab,af,H,O,K,Y,Instr.sliceAt,J,Instr.slice,w,ao]⟩
 .simp[ab,af,H,O,K,Y,Instr.sliceAt,J,Instr.slice,w,(aY W a4 ai).a']
 cases S with
 |A aq E au _ _ _ N M A D=>
  refine Rd.A aq (E+e.toNat*a4.size) (λh t=>au (e.toNat+h) t) u u C (λh x=>N _ u) (λaD=>?_) (λh x t I i=>?_) (λh x t I i=>D _ u t I i)
  .rw[bm u,M u];simp[g0]
  have:=A (e.toNat+h) u t I i;grind
end
def jb(i:X)(k:m Int):X->(Nat->Option Obj)->Prop:=λo e=>o=i/\∃j a h,i=.map (f j)/\(∀g,e g=if g=j then f (.map a h)else n)/\MapKept.Stamped a h /\
 (∀d∈a.toList,∃b,d.key=.int .i64 b/\d.val=.bool l/\a8 .i64 b)/\∀b,b∈k↔∃d∈a.toList,d.key=.int .i64 b
structure RS(k:m ap)(b:a6)(i:Nat)(ak:X)(d:m Int)(L:Loc)(a9:Nat)(U:Array MapEntry)(r:Nat):Prop where
 b2:b.s[i]?=f L
 v:L.v=ak
 cp:ak=.map (f a9)
 a5:MapKept.Stamped U r
 cv:∀au∈U.toList,∃j,au.key=.int .i64 j/\au.val=.bool l/\a8 .i64 j
 mem:∀j,j∈d↔∃au∈U.toList,au.key=.int .i64 j
 heap:b.a.heap[a9]?=f (.map U r)
 aj:∀i,i∈L.aj↔i=a9
def jb.open{ak}{d}(bP:bb k b)(o:k[i]?=f (.J (jb ak d))):∃L g a h,RS k b i ak d L g a h:=by have e:i<c b.s:=h0;obtain⟨q,⟨j,g,a,h,m,w,r,t,p⟩,s,u,_⟩:=bP.box i _ _ o (bI e);exact⟨_,g,a,h,bI e,j,m,r,t,p,s g _ M,λi=>by grind⟩
section
variable {ac S bi:al}{D bE eI:ae}{ak:X}{d:m Int}{j:Int}
def J5{b:Array MapEntry}(g:∀a∈b.toList,∃d,a.key=.int .i64 d/\a.val=.bool l/\a8 .i64 d):∀a∈b.toList,MapKept.IsKey (.int .i64) a.key:=λa e=>by obtain⟨d,h,_⟩:=g a e;exact hE
def DQ{ak}{a}(e:bv k b aa a)(d:a=cM ak):aa=ak:=by subst d;exact Rd.ba e
def LD{j}{a}(e:bv k b aa a)(d:a=ax (.int .i64 j)):aa=.int .i64 j/\a8 .i64 j:=by subst d;have:=b6 e;generalize aa=g at this;cases this;exact bu
def a0.jN(w:q.op=.lookup ac D bE v)(aY:P.underlying ac=f (.map S bi))(e:P.underlying S=f (.int .i64))(T:∀J,(zeroValue bi).run P J=.ok (.bool v) J)(C:k[i]?=f (.J (jb ak d)))(R:η D=cM ak)(x:η bE=ax (.int .i64 j)):a0 P q η k (ax (.bool (d.contains j))) k:=by
 refine a0.du λo Y B r=>?_;obtain⟨L,s,z,aa,b⟩:=jb.open B C;have p:=(DQ (r D) R).trans b.cp;obtain⟨O,G⟩:=LD (r bE) x;obtain⟨U,y⟩:=Jx (N:=.int .i64) (h:=.int .i64 j) rfl (J5 b.cv);have A:h6 o ⟨.obj s,v,v⟩:=mu (b8 b.b2) ((b.aj s).2 a);have key:∃g:Bool,(Instr.lookup ac (.map (f s)) (.int .i64 j) v).run P o.a=.ok (.bool g) o.a/\(Instr.lookup ac (.map (f s)) (.int .i64 j) v).events P o.a #[]=#[⟨.obj s,v,v⟩]/\g=d.contains j:=by
  cases U with
  |none=>
   obtain⟨m,t⟩:=Ki (ok:=v) aY e b.heap y (λ_=>T o.a)
   exact⟨v,m,t,by
    symm;rw[<-pV,Ax,b.mem]
    rintro⟨u,K,e⟩;exact y.c0 a u K e⟩
  |some F=>
   obtain⟨X,g⟩:=F;obtain⟨m,t⟩:=Ki (ok:=v) (eI:=I) aY e b.heap y (λw=>by cases w);obtain⟨u,V,W,Z⟩:=y.gJ X g rfl;have E:u∈z.toList:=M;obtain⟨_,_,H,_⟩:=b.cv u E;exact⟨l,m.trans (show Result.ok g o.a=_ by grind),t,by symm;rw[Ax,b.mem];grind⟩
 obtain⟨g,m,t,Q⟩:=key;refine⟨.bool g,?_,by rw[<-Q];exact Rd.bool,?_⟩
 .simp only[ab,w,p,O,cK,m,c9,dZ]
 simp only[ab,w,p,O,aD,m,t,aF,Sem.events_pure];exact .R A
def a0.jP(ae:q.op=.mapUpdate ac D bE eI)(aY:P.underlying ac=f (.map S bi))(E:P.underlying S=f (.int .i64))(F:k[i]?=f (.J (jb ak d)))(al:η D=cM ak)(ai:η bE=ax (.int .i64 j))(ah:η eI=ax (.bool l)):a0 P q η k .any (k.set i (.J (jb ak (d++[j])))):=by
 intro p J B u;obtain⟨L,m,r,aa,e⟩:=jb.open B F;have z:=(DQ (u D) al).trans e.cp;obtain⟨Z,aw⟩:=LD (u bE) ai;have Y:J eI=.bool l:=by have:=u eI;rw[ah]at this;have:=b6 this;generalize J eI=X at this;cases this;rfl
 obtain⟨ao,Q⟩:=Jx (N:=.int .i64) (h:=.int .i64 j) rfl (J5 e.cv);have y:∀X,h6 p ⟨.obj m,X,v⟩:=λX=>mu (b8 e.b2) ((e.aj m).2 a);have G:=(jd.1 e.heap).1;have key:∃b o,(Instr.mapUpdate ac (.map (f m)) (.int .i64 j) (.bool l)).run P p.a=.ok () {p.a with heap:=p.a.heap.setIfInBounds m (.map b o)}/\(Instr.mapUpdate ac (.map (f m)) (.int .i64 j) (.bool l)).events P p.a #[]=#[⟨.obj m,v,v⟩,⟨.obj m,l,v⟩] /\
   MapKept.Stamped b o/\(∀g∈b.toList,∃j,g.key=.int .i64 j/\g.val=.bool l/\a8 .i64 j)/\∀R,R∈d++[j]↔∃g∈b.toList,g.key=.int .i64 R:=by
  cases ao with
  |none=>
   obtain⟨w,I⟩:=Nf (D:=.bool l) aY E e.heap Q;refine⟨_,_,w,I,MapKept.stamped_push e.a5 (Q.c0 a),λg O=>?_,λR=>?_⟩
   .rw[Array.toList_push,fy]at O;rcases O with O|O
    .exact e.cv g O
    grind
   rw[fy,e.mem,Array.toList_push];constructor
   .rintro(⟨g,t,A⟩|t)
    .grind
    simp_all
   grind
  |some W=>
   obtain⟨V,aq⟩:=W;obtain⟨g,t,A,av⟩:=Q.gJ V aq rfl;have U:g∈r.toList:=M;obtain⟨_,_,ag,_⟩:=e.cv g U;have ar:r.modify V (λg=>{key:=.int .i64 j,val:=.bool l,born:=g.born})=r:=by
    apply Array.ext_getElem?;intro af;rw[Ay];split
    .rename_i bp;subst bp;rw[t,<-A,<-ag];rfl
    simp
   obtain⟨w,I⟩:=Nf (D:=.bool l) aY E e.heap Q;refine⟨r,aa,w.trans (show Result.ok () {p.a with heap:=p.a.heap.setIfInBounds m (.map (r.modify V λg=>{key:=.int .i64 j,val:=.bool l,born:=g.born}) aa)}=_ by grind),I,e.a5,e.cv,λR=>?_⟩;rw[fy,e.mem];constructor
   .rintro(x|x)
    .exact x
    grind
   grind
 obtain⟨b,o,w,I,an,H,aL⟩:=key;have K:=B.b6 (j1:=jb ak (d++[j])) (cu:=L) (bg:={p.a with heap:=p.a.heap.setIfInBounds m (.map b o)}) F e.b2 rfl C (λi _ s=>by show(p.a.heap.setIfInBounds m _)[i]?=_;rw[sA (by rintro rfl;exact s ((e.aj m).2 rfl))]) (λi s=>.inl s)
  ⟨λi=>if i=m then f (.map b o)else n,⟨e.v,m,b,o,e.cp,λ_=>rfl,an,H,aL⟩,λi au s=>by grind,λi=>by rw[e.aj];by_cases g:i=m<;>simp[g]⟩ a a a
 have T:p.s.set i L=p.s:=by
  apply pZ;intro af;by_cases g:i=af
  .subst g;rw[iq (cO.1 e.b2).1,e.b2]
  grind
 rw[T]at K;refine⟨.skip,_,?_,a,K.1,K.2,?_⟩
 .simp only[ab,ae,z,Z,Y,cK,w,c9,dZ]
 simp only[ab,ae,z,Z,Y,aD,w,I,aF,Sem.events_pure];exact .fj (y _) (y _)
end
section
variable {p:ah P}{ac:al}
def g.h1(r:q.op=.makeMap ac n)(u:q.guard=n)(w:fi E q.dst=l)(x:∀j,g p E bd (.S all bq::av) .normal (gb q.dst (cM j) F) (k++[.J (jb j [])])):g p E bd (.S all (q::bq)::av) .normal F k:=by
 refine g.cC (ι:=X) (λj=>cM j) (λj=>k++[.J (jb j [])]) u w (λb z D e=>?_) x;let bg:ar:={b.a with heap:=b.a.heap.push (.map #[] 0)}
 have A:bg.heap[b.a.heap.size]?=f (.map #[] 0):=M;have B:bg.heap.size=b.a.heap.size+1:=M;obtain⟨t,s⟩:=e.cn (cg:=b.C) (bg:=bg) M (λh d=>by grind) (λ_ _ _=>rfl) (λh d q y i=>by have:=e.block i;omega) rfl rfl rfl;obtain⟨m,t2⟩:=t.bY s rfl e (bT:=.J (jb (.map (f b.a.heap.size)) [])) (L:=⟨.map (f b.a.heap.size),[b.a.heap.size]⟩)
  ⟨λh=>if h=b.a.heap.size then f (.map #[] 0)else n,⟨rfl,_,#[],0,rfl,λ_=>rfl,MapKept.stamped_empty 0,λo I=>by grind,λC=>by simp⟩,λh q d=>by
   grind,λh=>by by_cases o:h=b.a.heap.size<;>simp[o],λh d q=>by
   simp at d;subst d;show b.C _ _=n;cases i:b.C b.a.heap.size q with
   |none=>rfl
   |some y=>have:=e.block i;omega⟩ (λh d=>by grind)
 refine⟨.map (f b.a.heap.size),.value (.map (f b.a.heap.size)),_,.map (f b.a.heap.size),?_,.inl a,Rd.val a,m,t2,?_⟩
 .simp[ab,r,Instr.makeMap,run_newObj,bg]
 simp[ab,r,Instr.makeMap];exact .nil
end
section
variable {ac:m (Nat×cm)}
def a0.hZ(aY:bZ P ac){D Q E:ae}(aa:q.op=.slice o D (f Q) (f E) n){H a4}(al:bW ac o=f H)(ao:H.desc=.slice W)(au:bW ac W=f a4){B h T}{s r}{e t}(aA:η D=cD d (.A B h T j))(N:a4.size=h){aL R}(A:k[d]?=f (.p aL R B U))(av:η Q=ax (.int s e))(aw:η E=ax (.int r t))(aB:0<=e)(aC:e<=t)(aD:T+t<=B):a0 P q η k (cD d (.A B h (T+e.toNat) (t.toNat-e.toNat))) k:=by
 subst N;refine .aS λg p M m=>?_;have ak:=m D;rw[aA]at ak;have ai:=ak;change cB k g (p D) (.N d _)at ai;obtain⟨S,⟨Z,F,b,Y,X,af,aJ,an,V,G⟩,x,ag⟩:=ai;have aI:B<=Y:=by
  obtain⟨L,ar,O⟩:=(ag _ _ _ _ A).2 rfl;rcases M.box d _ L A ar with⟨rfl,rfl⟩|⟨i,g9,y,aG,rfl,_,_,aq,_⟩
  .exact gZ _
  rw[V]at O;cases O;exact aq
 have C:=m Q;rw[av]at C;replace C:=b6 C;generalize ah:p Q=aE at C;cases C;have w:=m E;rw[aw]at w;replace w:=b6 w;generalize K:p E=aF at w;cases w;have I:=(aY o H al).run_underlying (Q:=g.a);rw[ao]at I;have z:(aV l j b (f (.int s e)) (f (.int r t)) n).run P g.a=.ok (e.toNat,t.toNat,b) g.a:=by simp[aV,run_sliceBound (P:=P) g.a r t b _ u u,run_sliceBound (P:=P) g.a s e t.toNat _ u u]
 have J:(aV l j b (f (.int s e)) (f (.int r t)) n).events P g.a #[]=#[]:=by
  simp[aV,run_sliceBound (P:=P) g.a r t b _ u u,run_sliceBound (P:=P) g.a s e t.toNat _ u u,
   k' (P:=P) g.a r t b _ u u,k' (P:=P) g.a s e t.toNat _ u u]
 refine⟨.slice (if b=e.toNat then Z else Z.map (·.add (e.toNat*a4.size))) (t.toNat-e.toNat) (b-e.toNat),?_,⟨S,⟨_,F,_,Y,a,by omega,by omega,an,V,λaH=>?_⟩,x,ag⟩,by simp[ab,aa,X,ah,K,Instr.sliceAt,I,Instr.slice,z,J]⟩
 .simp[ab,aa,X,ah,K,Instr.sliceAt,I,Instr.slice,z,(aY W a4 au).a']
 obtain⟨i,rfl,rfl⟩:=G u;exact PR
end
section
open Go.ChangeMaps (setBlock)
section
def Ww(d)(ty)(b i e o)(seen)(U)(clock)(s:d.heap[b]?=f (.mapIter (f i) e seen o))(u:d.heap[i]?=f (.map U clock))(A:∀k∈U.toList,k.born<e)(D:e<=o):
    ∀h∈(Instr.next (.pointer (f ⟨b,0,n⟩)) v ty).events P d #[],h.sync=v/\(h.loc=.obj b∨h.loc=.obj i):=by
  have J:(getObj b).run P d=.ok (.mapIter (f i) e seen o) d:=by simp[getObj,Sem.run,s]
  have F:(getObj i).run P d=.ok (.map U clock) d:=by simp[getObj,Sem.run,u]
  have O:∀U,(getObj b).events P d U=U.push ⟨.obj b,v,v⟩:=λU=>by simp only[getObj,Sem.events,Sem.runT,s];rfl
  have I:∀U,(getObj i).events P d U=U.push ⟨.obj i,v,v⟩:=λU=>by simp only[getObj,Sem.events,Sem.runT,u];rfl
  have M:∀w1 q j,w1.heap[b]?=f (.mapIter (f i) e seen o)->(setObj b (.mapIter (f i) e q clock)).events P w1 j=j.push ⟨.obj b,l,v⟩:=λw1 q j g=>by simp[setObj,Sem.events,Sem.runT,g];rfl
  have z:∀w1 p,w1.heap[b]?=f (.mapIter (f i) e seen o)->∃w2,(setObj b p).run P w1=.ok () w2:=λw1 p g=>⟨{w1 with heap:=w1.heap.setIfInBounds b p},by simp[setObj,Sem.run,g]⟩
  simp only[Instr.next,aD,J,F,O,I,aF,next_test_false seen U e o A D,j_,dm];generalize x:((if(Array.filter (λk=>decide (k.born<e)) (Array.filter (λh=>!seen.contains h.born) U)).isEmpty=l then #[n]else #[])++Array.map f (Array.filter (λk=>decide (k.born<e)) (Array.filter (λh=>!seen.contains h.born) U)++Array.filter (λk=>decide (k.born≥e)) (Array.filter (λh=>!seen.contains h.born) U)))=L;have K:∃r w1,(w1=d∨w1=d.drew)/\(choose (Question.mapNext L.size)).run P d=.ok r w1/\∀U,(choose (Question.mapNext L.size)).events P d U=U:=by
    by_cases w:L.size<=1
    · exact⟨0,d,Or.inl a,by simp[choose,Sem.run,Question.forced,w],λU=>by simp⟩
    · exact⟨_,d.drew,Or.inr a,by simp only[choose,Sem.run,Question.forced,bw,w,dm,Question.cut];rfl,λU=>by simp⟩
  obtain⟨r,w1,E,B,C⟩:=K;have t:w1.heap[b]?=f (.mapIter (f i) e seen o):=by rcases E with rfl|rfl<;>exact s
  simp only[B,C,aF];intro h m;have fin:h∈(#[⟨.obj b,v,v⟩,⟨.obj i,v,v⟩,⟨.obj b,l,v⟩]:Array aR):=by
    cases y:L[r]? with
    |none=>rw[y]at m;simp[stuck,Sem.events,Sem.runT]at m;rcases m with g|g<;>simp[g]
    |some p=>
      rw[y]at m;cases p with
      |none=>simp at m;rcases m with g|g<;>simp[g]
      |some k=>
        obtain⟨w2,N⟩:=z w1 (.mapIter (f i) e (seen.push k.born) clock) t;simp[M w1 _ _ t]at m;rcases m with g|g|g<;>simp[g]
  simp at fin;rcases fin with rfl|rfl|rfl<;>simp
def UB(a)(b i e)(seen:Array Nat)(U)(clock)(d)(g:a.heap[b]?=f (.mapIter (f i) e (seen.push d.born) clock))(h:a.heap[i]?=f (.map U clock))(q:d∈U.toList)(r:(U.toList.map (·.born)).Nodup):
    (Instr.entry (.pointer (f ⟨b,0,n⟩))).events P a #[]=#[⟨.obj b,v,v⟩,⟨.obj i,v,v⟩]:=by
  have j:U.find? (·.born==d.born)=f d:=by rw[<-Array.find?_toList];grind[find_born]
  have o:(getObj b).run P a=.ok (.mapIter (f i) e (seen.push d.born) clock) a:=by simp[getObj,Sem.run,g]
  have k:(getObj i).run P a=.ok (.map U clock) a:=by simp[getObj,Sem.run,h]
  have p:∀U,(getObj b).events P a U=U.push ⟨.obj b,v,v⟩:=λU=>by simp only[getObj,Sem.events,Sem.runT,g];rfl
  have m:∀U,(getObj i).events P a U=U.push ⟨.obj i,v,v⟩:=λU=>by simp only[getObj,Sem.events,Sem.runT,h];rfl
  simp only[Instr.entry,aD,o,k,p,m,aF,Array.back?_push,iI,j_,dm,j];rfl
def kX(h e:Nat)(b:Array Nat):X->(Nat->Option Obj)->Prop:=λi a=>∃d:Nat,i=.pointer (f ⟨d,0,n⟩)/\a=λg=>if g=d then f (.mapIter (f h) e b e)else n
def ue(H:X->(Nat->Option Obj)->Prop)(e:Nat)(b:Array MapEntry)(d:Nat):Prop:=∀g a,H g a->a e=f (.map b d)
variable {p:ah P}
def bb.eb(bP:bb k b)(aH:k[d]?=f (.J H)){g}{U}{r}(h:ue H g U r):b.a.heap[g]?=f (.map U r)/\∃L∈b.s,g∈L.aj:=by have e:d<c b.s:=h0;obtain⟨i,a,j,m,o⟩:=bP.box d _ b.s[d] aH (bI e);have:=h _ _ a;grind
def bb.hg(bP:bb k b){j r}{dy}(aH:k[d]?=f (.J (kX j r dy))):∃a:Nat,b.s[d]?=f ⟨.pointer (f ⟨a,0,n⟩),((b.s[d]?).map (·.aj)).getD []⟩/\b.a.heap[a]?=f (.mapIter (f j) r dy r)/\∀L,b.s[d]?=f L->∀e,e∈L.aj↔e=a:=by
  have h:d<c b.s:=h0;have i:=bI h;obtain⟨m,⟨a,o,p⟩,g,t,s⟩:=bP.box d _ b.s[d] aH i;refine⟨a,?_,g a _ M,λL q e=>?_⟩
  · rw[i];simp[<-o]
  grind
def g.range{o N D}{t z}(j:q.op=.range o (.tmp N))(ag:q.dst=f D)(W:q.guard=n)(G:fi E q.dst=l)(I:P.underlying o=f (.map t z)){a9}(R:∀b m,bX E k b F m->bb k b->m.eval (.tmp N)=.map (f a9)){qy:Nat}{H:X->(Nat->Option Obj)->Prop}{U}{r}(aH:k[qy]?=f (.J H))(Q:ue H a9 U r)(ai:g p E bd (.S all bq::av) .normal ((D,.n (.R (.aV (c k))))::F) (k++[.J (kX a9 r #[])])):g p E bd (.S all (q::bq)::av) .normal F k:=by
  refine g.cC (ι:=Unit) (λ_=>.n (.R (.aV (c k)))) (λ_=>k++[.J (kX a9 r #[])]) W G ?_ λ_=>by exact hE
  intro b m K h;have J:=R b m K h;obtain⟨y,L,af,V⟩:=h.eb aH Q;have B:=run_range_map b.a o t z a9 U r I y;have C:(Instr.range o (.map (f a9))).events P b.a #[]=#[⟨.obj a9,v,v⟩]:=by
    have Z:∀U,(getObj a9).events P b.a U=U.push ⟨.obj a9,v,v⟩:=λU=>by simp only[getObj,Sem.events,Sem.runT,y];rfl
    have ae:∀q M U,(newObj q).events P M U=U:=λq M U=>by simp
    simp[Instr.range,run_underlying I,MapKept.run_getObj_map y,Z,ae]
  have ah:∀d,b.a.heap.size<=d->∀q,b.C d q=n:=λd e q=>by
    cases i:b.C d q with
    |none=>rfl
    |some aa=>have:=h.block i;omega
  let bg:ar:=b.a.alloc (.mapIter (f a9) r #[] r);have O:bg.heap.size=b.a.heap.size+1:=by show(b.a.heap.push _).size=_;simp
  have ak:bg.heap[b.a.heap.size]?=f (.mapIter (f a9) r #[] r):=lS _ _;obtain⟨x,Y⟩:=h.cn (cg:=b.C) (bg:=bg) u (λd e=>iX _ _ e) (λ_ _ _=>rfl) (λd e q aa i=>by grind) rfl rfl rfl;obtain⟨s,w⟩:=x.bY (bT:=.J (kX a9 r #[])) (L:=⟨.pointer (f ⟨b.a.heap.size,0,n⟩),[b.a.heap.size]⟩) Y rfl h
    ⟨λd=>if d=b.a.heap.size then f (.mapIter (f a9) r #[] r)else n,⟨_,rfl,rfl⟩,λd q e=>by grind,λd=>by by_cases S:d=b.a.heap.size<;>simp[S],λd e q=>by grind⟩
    (λd e=>by grind)
  refine⟨(),.value (.pointer (f ⟨b.a.heap.size,0,n⟩)),_,.pointer (f ⟨b.a.heap.size,0,n⟩),?_,.inl a,⟨λbT A=>?_,⟨.pointer (f ⟨b.a.heap.size,0,n⟩),[b.a.heap.size]⟩,?_,a,a⟩,s,w,?_⟩
  · simp[ab,j,J,cK,B,c9,dZ];rfl
  · rw[ho (bA _)]at A;simp at A;subst A;rfl
  · show(b.s++_)[c k]?=_
    rw[<-h.len,ho (bA _)];simp
  · exact x2 (dv.of_eq C (.R (mu af V))) (by simp[ab,j,J])
def bX.j'{d}(g:look F d=cM aa):∀b a,bX E k b F a->bb k b->a.eval (.tmp d)=aa:=λb a e _=>by have:=e.ak d;rw[g]at this;exact Rd.ba this
inductive si (U:Array MapEntry) (dy:Array Nat)
  |over (s:∀au∈U.toList,au.born∈dy)
  |R (au:MapEntry) (s:au∈U.toList) (jm:au.born∉dy)
def si.c'{U}{dy}:si U dy->x
  |.over _=>.Q [.R (.c (.bool v))]
  |.R a _ _=>.Q [.R (.c (.bool l)),.R (.v a.key),.R (.v a.val)]
def si.aZ{U}{dy}:si U dy->Array Nat
  |.over _=>dy
  |.R a _ _=>dy.push a.born
def g.next{B W}{ty}(cv:q.op=.next (.tmp B) v)(aD:q.type=ty)(aa:q.dst=f W)(ae:q.guard=n)(N:fi E q.dst=l){qy kl:Nat}(ah:look F B=.n (.R (.aV kl))){a9 r}{dy}(T:k[kl]?=f (.J (kX a9 r dy))){H:X->(Nat->Option Obj)->Prop}{U}(aH:k[qy]?=f (.J H))(ag:ue H a9 U r)(Z:MapKept.Stamped U r)(ax:∀b∈U.toList,dS b.key=l/\dS b.val=l)(an:∀s:si U dy,g p E bd (.S all bq::av) .normal ((W,s.c')::F) (k.set kl (.J (kX a9 r s.aZ)))):g p E bd (.S all (q::bq)::av) .normal F k:=by
  refine g.cC (ι:=si U dy) (λs=>s.c') (λs=>k.set kl (.J (kX a9 r s.aZ))) ae N ?_ λs=>by rw[aa];exact an s
  intro h ak af o;obtain⟨e,i,w,G⟩:=o.hg T;have t:ak.eval (.tmp B)=.pointer (f ⟨e,0,n⟩):=by
    have:=af.ak B;rw[ah]at this;obtain⟨_,L,S,t,_⟩:=(show cB _ h _ (.aV kl)from this)
    rw[i]at S;cases S;exact t
  obtain⟨V,L,S,aC⟩:=o.eb aH ag;have au:=b8 i;have aw:=(G _ i e).2 a;have Y:dv h ((Instr.next (.pointer (f ⟨e,0,n⟩)) v q.type).events P h.a #[]):=by
    intro b z;obtain⟨ar,Q|Q⟩:=Ww h.a q.type e a9 r r dy U r w V Z.1 (bA _) b z
    · obtain⟨K,wr,aL⟩:=b;grind[mu]
    · obtain⟨K,wr,aL⟩:=b;grind[mu]
  have ao:k.set kl (.J (kX a9 r dy))=k:=mU;rcases run_next_at (P:=P) h.a q.type e a9 r r dy U r w V Z.1 (bA _)with⟨ai,C⟩|⟨b,z,w1,O,C⟩
  · have aq:∀b∈U.toList,b.born∈dy:=by intro b z;have:=Array.eq_empty_of_size_eq_zero ai;unfold leftOf at this;grind[Array.filter_eq_empty_iff]
    refine⟨.over aq,.value (.tuple #[.bool v]),h,_,?_,.inl a,⟨[.bool v],a,Rd.bool,A⟩,?_,?_,?_⟩
    · simp[ab,cv,t,cK,C,c9,dZ]
    · show bb (k.set kl (.J (kX a9 r dy))) h
      grind
    · show cN k h (k.set kl (.J (kX a9 r dy))) h
      rw[ao];exact .refl _ _
    · exact x2 Y NY
  · have J:b∈U.toList/\b.born∉dy:=by simp[leftOf]at z;grind
    have y:w1.heap=h.a.heap/\w1.os=h.a.os/\w1.tape=h.a.tape/\w1.output=h.a.output:=by rcases O with rfl|rfl<;>exact⟨rfl,rfl,rfl,rfl⟩
    have aA:e<h.a.heap.size:=o.lt _ au e aw;have x:e<w1.heap.size:=M;obtain⟨R,t2⟩:=o.b6 (d:=kl) (j1:=kX a9 r (dy.push b.born)) (cu:=⟨.pointer (f ⟨e,0,n⟩),((h.s[kl]?).map (·.aj)).getD []⟩) (bg:=setBlock w1 e (.mapIter (f a9) r (dy.push b.born) r)) T i rfl
      (by simp[setBlock,y.1]) (λm j al=>by
        have aB:e≠m:=M;simp[setBlock]
        grind) (λm j=>.inl j)
      ⟨λm=>if m=e then f (.mapIter (f a9) r (dy.push b.born) r)else n,⟨e,rfl,rfl⟩,λm q j=>by
        by_cases u:m=e
        · subst u
          simp[dA]at j;cases j;simp[setBlock];grind
        grind,λm=>by
        rw[G _ i m]
        by_cases u:m=e<;>simp[u]⟩ (by simp[setBlock,y.2.1]) (by simp[setBlock,y.2.2.1]) (by simp[setBlock,y.2.2.2])
    obtain⟨D,I⟩:=ax b J.1;refine⟨.R b J.1 J.2,.value (.tuple #[.bool l,b.key,b.val]),_,_,?_,.inl a,⟨[.bool l,b.key,b.val],a,Rd.bool,Rd.val D,Rd.val I,A⟩,R,t2,?_⟩
    · simp[ab,cv,t,cK,C,c9,dZ]
    · exact x2 Y NY
def g.entry{s u}(i:q.op=.entry (.tmp s))(K:q.dst=f u)(R:q.guard=n)(z:fi E q.dst=l){qy kl:Nat}(O:look F s=.n (.R (.aV kl))){a9 r:Nat}{dy:Array Nat}{au:MapEntry}(D:k[kl]?=f (.J (kX a9 r (dy.push au.born)))){U:Array MapEntry}(aH:k[qy]?=f (.J H))(J:ue H a9 U r)(t:MapKept.Stamped U r)(w:au∈U.toList){bE:x}(I:∀e:a6,bv k e (.tuple #[au.key,au.val]) bE)(S:g p E bd (.S all bq::av) .normal ((u,bE)::F) k):g p E bd (.S all (q::bq)::av) .normal F k:=by
  refine g.cC (ι:=Unit) (λ_=>bE) (λ_=>k) R z ?_ λ_=>by exact hE
  intro e A C d;obtain⟨j,b,h,N⟩:=d.hg D;have m:A.eval (.tmp s)=.pointer (f ⟨j,0,n⟩):=by
    have:=C.ak s;rw[O]at this;obtain⟨_,L,o,m,_⟩:=(show cB _ e _ (.aV kl)from this)
    rw[b]at o;cases o;exact m
  obtain⟨y,L,o,B⟩:=d.eb aH J;have M:=run_entry_at (P:=P) e.a j a9 r dy U r au h y w t.2.1;have Q:=UB (P:=P) e.a j a9 r dy U r au h y w t.2.1;refine⟨(),.value (.tuple #[au.key,au.val]),e,_,?_,.inl a,I e,d,.refl _ _,?_⟩
  · simp[ab,i,m,cK,M,c9,dZ]
  · exact x2 (dv.of_eq Q (.fj (mu (b8 b) ((N _ b j).2 a)) (mu o B))) (by simp[ab,i,m])
end
end
inductive fo where
 |nil (w:Option Addr)
 |row (i cap:Nat)
def c0(b:fo)(g:Nat):X:=match b with
 |.nil d=>.slice d 0 0
 |.row e a=>.slice (f ⟨e,0,n⟩) g a
def tE(bO)(j):dS (c0 bO j)=l:=by cases bO<;>rfl
def EE(a:m X):Nat->m K:=λb=>[.val (a.getD b I)]
section
variable {p:ah P}
def b0.e2{aL}{dF:ι->bJ}{an:ι->m ap}(J:∀e g,bX E k e F g->bb k e->∃(b:ι)(a:a6),a.a=e.a/\bX E (an b) a (dF b) g/\bb (an b) a/\cN k e (an b) a)(M:∀b,b0 p E r aL (dF b) (an b)):b0 p E r aL F k:=by intro e g O d C w o B u t;obtain⟨b,a,N,I,z,y⟩:=J e g O d;have A:=y.tooQ d;refine .aP (.of d z N A) ?_;exact M b a g I z C w o B u λD K i x j Q q s h=>t D K i x j Q q s (A.trans h)
def g.gO(d){y:ap}(h:ι->ap)(t:k[d]?=f y)(s:∀i L,ew k i y L->∃j,(∀an,ew an i (h j) L)/\fM y L (h j) L)(D:∀j,g p E bd (.code r::av) .normal F (k.set d (h j))):g p E bd (.code r::av) .normal F k:=by
 refine b0.e2 (dF:=λ_=>F) (an:=λj=>k.set d (h j)) (λi M z bP=>?_) D;have O:d<c k:=(cO.1 t).1;have I:d<c i.s:=h0;have A:=bI I;generalize i.s[d]=L at A;obtain⟨j,J,Q⟩:=s i L (bP.box d _ L t A);have w:fp k i (k.set d (h j)) i:=by
  refine⟨λ_ _ _ s=>s,λm o q b e=>?_⟩;by_cases x:d=m
  .subst x;rw[t]at b;cases b;rw[A]at e;cases e;simp_all
  exact⟨o,q,by grind,e,.refl _ _⟩
 have u:cN k i (k.set d (h j)) i:=
  ⟨bA _,λ_ _ _=>rfl,λ_ _ _ s=>s,λ_ _ _ _=>rfl,λL s N C=>.inr ⟨L,s,C⟩,w.box,rfl,rfl,rfl,rfl⟩
 refine⟨j,i,a,⟨z.size,z.defers.imp λ_ B=>B.mono u.ext,λK=>(z.ak K).mono u.ext bP.len⟩,⟨bP.mem,by simp[bP.len],?_,bP.a0,bP.lt,bP.own⟩,u⟩;intro m o q b e;by_cases x:d=m
 .subst x;simp_all
 rw[j9 x]at b;exact(bP.box m o q b e).b8 w bP.len λ_ _=>⟨a,λ_=>rfl⟩
def g.gC(d)(b:ι->X->(Nat->Option Obj)->Prop)(h:k[d]?=f (.J H))(q:∀j a,H j a->∃e,b e j a)(i:∀e,g p E bd (.code r::av) .normal F (k.set d (.J (b e)))):g p E bd (.code r::av) .normal F k:=
 g.gO d (λe=>.J (b e)) h (λs L ⟨a,m,o⟩=>let ⟨e,bp⟩:=q _ _ m;⟨e,λ_=>⟨a,bp,o⟩,rfl⟩) i
def g.gR(d){W h}(a:Nat->m K)(x:k[d]?=f (.p W h j U))(J:∀b,b<j->c (a b)=h)(N:∀A b,b<j->∀(i:Nat) q,(a b)[i]?=f q->∃r,(U b)[i]?=f r/\∀o,Rd A o r->Rd A o q)(z:g p E bd (.code r::av) .normal F (k.set d (.p W h j a))):g p E bd (.code r::av) .normal F k:=by
 refine g.gO (ι:=Unit) d (λ_=>.p W h j a) x (λV L u=>⟨(),λC=>?_,λ_=>rfl,bA _⟩) λ_=>z;rcases u with T|⟨D,Z,y,X,s,t,Y,O,S,B,Q⟩
 .exact .inl T
 refine .inr ⟨D,Z,y,X,s,t,Y,O,S,⟨B.len,J,λb e i q w=>?_⟩,Q⟩;obtain⟨r,aa,R⟩:=N V.C b e i q w;obtain⟨o,M,I⟩:=B.rd b e i r aa;exact⟨o,M,R o I⟩
end
def nk:K->Bool
 |.int _ _|.bool _|.V _|.bp|.bE|.dr|.val _=>l
 |_=>v
def nj:O->Bool
 |.c a=>nk a
 |.any=>l
 |_=>v
def yk:m O->Bool
 |[]=>l
 |a::b=>match nj a with|true=>yk b|false=>v
def vc:E1->Bool
 |.R b=>nj b
 |.agg a=>yk a
def yj:m E1->Bool
 |[]=>l
 |a::b=>match vc a with|true=>yj b|false=>v
def yi:x->Bool
 |.n b=>vc b
 |.Q a=>yj a
 |.any=>l
section
theorem vb{a}{r}(b:nk r=l)(d:Rd bz aa r):Rd a aa r:=by
 cases d<;>first|(simp[nk]at b;done)|skip
 case int c5=>exact .int c5
 case bool=>exact .bool
 case V c5 dt=>exact .V c5 dt
 case bp=>exact .bp
 case bE=>exact .bE
 case dr=>exact .dr
 case val c5=>exact .val c5
def JD{a}(d:nj a=l)(e:cB k b aa a):cB an aB aa a:=by
 cases a with
 |c g=>exact vb d e
 |any=>exact e
 |_=>simp[nj]at d
def JF:∀{y:m X}{a:m O},yk a=l->bM k b y a->bM an aB y a
 |[],[],_,_=>trivial
 |[],_::_,_,d=>d.elim
 |_::_,[],_,d=>d.elim
 |i::y,h::a,e,d=>by
  simp[yk]at e;cases g:nj h with
  |false=>grind
  |true=>simp[g]at e;exact⟨JD g d.1,JF e d.2⟩
def CL{D}(a:vc D=l)(d:ey k b aa D):ey an aB aa D:=by
 cases D with
 |R i=>exact JD a d
 |agg h=>obtain⟨y,e,g⟩:=d;exact⟨y,e,JF a g⟩
def JE:∀{y:m X}{a:m E1},yj a=l->eV k b y a->eV an aB y a
 |[],[],_,_=>trivial
 |[],_::_,_,d=>d.elim
 |_::_,[],_,d=>d.elim
 |i::y,h::a,e,d=>by
  simp[yj]at e;cases g:vc h with
  |false=>grind
  |true=>simp[g]at e;exact⟨CL g d.1,JE e d.2⟩
def YC{a}(d:yi a=l)(e:bv k b aa a):bv an aB aa a:=by
 cases a with
 |n j=>exact CL d e
 |Q i=>obtain⟨y,g,h⟩:=e;exact⟨y,g,JE d h⟩
 |any=>trivial
end
def qD:m ap->Bool
 |[]=>l
 |.J _::a=>qD a
 |.M::a=>qD a
 |_=>v
def KR:∀{e:m ap},qD e=l->∀a∈e,(∃H,a=.J H)∨a=.M
 |[],_,a,aH=>by grind
 |b::g,h,a,aH=>by
  have d:((∃H,b=.J H)∨b=.M)/\qD g=l:=by cases b<;>simp_all[qD]
  rcases e8.1 aH with rfl|aH
  .exact d.1
  exact KR d.2 a aH
def Ah(i:m ap)(j:Nat)(p:X)(k o:Nat)(h:Nat->m K):Prop:=
 ∀e,bb i e->∃L d,e.s[j]?=f L/\(∀a b g,e.C a b=f g->d a b=f g)/\(∀a,a∉L.aj->∀b,d a b=e.C a b)/\(∀a b g,d a b=f g->e.a.cell? ⟨a,b,n⟩=f g) /\
  (∀a∈L.aj,∀b,e.C a b=n)/\Rd d p (.A v k o h)
section
variable {p:ah P}
def b4.hY{k}{b}{i}:∀{y:m X}{a:m x}{S:Nat}{e:X},b4 k b y a->y[S]?=f e->bv k b e i->b4 k b y (a.set S i)
 |[],[],_,_,_,d,_=>by grind
 |[],_::_,_,_,d,_,_=>d.elim
 |_::_,[],_,_,d,_,_=>d.elim
 |o::y,j::a,0,e,d,h,g=>by simp at h;subst h;exact⟨g,d.2⟩
 |o::y,j::a,S+1,e,d,h,g=>⟨d.1,b4.hY (S:=S) d.2 M g⟩
def pK(j:m ap)(k g:m x):Prop:=
 ∀e y,bb j e->b4 j e y k->∃(i:Nat->Prop) (d:Mem),(∀a,i a->∃L∈e.s,a∈L.aj)/\(∀a b h,e.C a b=f h->d a b=f h)/\(∀a,¬i a->∀b,d a b=e.C a b) /\
  (∀a b h,d a b=f h->e.a.cell? ⟨a,b,n⟩=f h)/\(∀a,i a->∀b,e.C a b=n)/\b4 j {e with C:=d} y g
def pK.refl(k)(bf):pK k bf bf:=λe y b d=>⟨λ_=>False,e.C,λ_ a=>a.elim,λ_ _ _ a=>a,λ_ _ _=>rfl,b.mem,λ_ a=>a.elim,d⟩
def pK.step{bf e}(I:pK k bf e)(o T){r}{h}(Q:e[o]?=f (cM r))(x:Ah k T r h j U):pK k bf (e.set o (ax (.A v h j U))):=by
 classical
 intro q y i z;obtain⟨t,d,aa,R,W,G,O,B⟩:=I q y i z;obtain⟨L,m,C,H,K,V,X,S⟩:=x q i;have p:∀a b g,d a b=f g->(d a b).or (m a b)=f g:=λa b g s=>by grind
 have w:∀a b g,m a b=f g->(d a b).or (m a b)=f g:=λa b g s=>by
  cases D:d a b with
  |none=>grind
  |some A=>
   grind
 refine⟨λa=>t a∨a∈L.aj,λa b=>(d a b).or (m a b),M,λa b g s=>p a b g (R a b g s),M,?_,?_,?_⟩
 .intro a b g s;cases D:d a b with
  |none=>grind
  |some A=>grind
 .grind
 have u:fp k {q with C:=d} k {q with C:=λa b=>(d a b).or (m a b)}:=⟨p,λY t L aH C=>⟨t,L,aH,C,.refl _ _⟩⟩
 have N:=B.mono u i.len;obtain⟨Z,F⟩:=b4.get B;have E:o<c y:=M;have J:y[o]?=f r:=by have:=F o;rw[Q,bI E]at this;have:=Rd.ba (show Rd d y[o] (.val r)from this);grind
 exact N.hY J (show bv k {q with C:=λa b=>(d a b).or (m a b)} r (ax (.A v h j U))from Rd.mono w S)
end
def cq(j:al)(i:Nat)(e:fo)(g:Nat)(b:m X):X->(Nat->Option Obj)->Prop:=λp d=>p=.nilFunc/\(∀q∈b,dS q=l)/\c b=g*i/\match e with
 |.nil _=>g=0/\d=λ_=>n
 |.row k a=>g<=a/\a<=9223372036854775807/\∃h,c (b++h)=a*i/\d=λo=>if o=k then f (.cells (b++h).toArray j (0,0))else n
def l6(b:Nat)(a:m X):Nat->m K:=λd=>((a.drop (d*b)).take b).map .val
def Ni{h}{af}(a:c af=j*h)(bp:e<j):c (l6 h af e)=h:=by have:e*h+h<=j*h:=FB;simp[l6,a];omega
def Nh{h}{af}{r}(b:(l6 h af e)[t]?=f r):∃a,af[e*h+t]?=f a/\r=.val a:=by simp[l6,m6,h2,pT]at b;grind
def cq.lookup{h cap}{af}(d:cq W h (.row i cap) j af aa k5):∃a,c (af++a)=cap*h/\k5 i=f (.cells (af++a).toArray W (0,0))/\∀b,(k5 b).isSome=l↔b=i:=by obtain⟨_,_,_,_,_,a,e,g⟩:=d;grind
def Rd.kg{cap h}{af}(q:∀s∈af,dS s=l)(d:c af=j*h)(g:j<=cap)(p:cap<=9223372036854775807)(u:∀m,bz i m=af[m]?):Rd bz (.slice (f ⟨i,0,n⟩) j cap) (.A v h j (l6 h af)):=by refine Rd.ek (bz:=bz) (h:=h) (j:=j) (U:=l6 h af) (y:=af) (w:=f ⟨i,0,n⟩) (i:=i) (off:=0) (cap:=cap) (o:=v) ⟨d,λr b=>Ni d b,λr b z t e=>?_⟩ bk g p C (λB k x=>by grind);obtain⟨k,a,rfl⟩:=Nh e;exact⟨k,a,.val (q k (b8 a))⟩
section
variable {p:ah P}
def cq.fK{h d}{bO}{af}(e:k[d]?=f (.J (cq W h bO j af)))(U:Nat->m K)(D:∀a,a<j->c (U a)=h/\∀J b g E,(U a)[b]?=f g->af[a*h+b]?=f E->Rd J E g):Ah k d (c0 bO j) h j U:=by
 intro q bP;have ab:=(cO.1 e).1;have X:d<c q.s:=h0;have r:=bI X;generalize q.s[d]=L at r;obtain⟨Q,H,R,F,u⟩:=bP.box d _ L e r;cases bO with
 |nil N=>
  obtain⟨_,_,_,rfl,_⟩:=H;exact⟨L,q.C,r,λ_ _ _ S=>S,λ_ _ _=>rfl,bP.mem,u,Rd.dJ⟩
 |row i cap=>
  obtain⟨ai,ag,Z,aa⟩:=H.lookup;obtain⟨ah,G,A,V,O,_⟩:=H;have I:=(F i).2 M
  have Y:=R i _ Z;obtain⟨s,t⟩:=bP.fx (i:=i) (y:=af) (u i I) (λp ao T=>by
   simp[aJ,Y]
   grind)
  refine⟨L,λx p=>if x=i then af[p]? else q.C x p,r,t,λx aL p=>bm M,s.mem,u,?_⟩;refine Rd.ek (h:=h) (j:=j) (U:=U) (y:=af) (w:=f ⟨i,0,n⟩) (i:=i) (off:=0) (cap:=cap) (o:=v) ⟨A,λa bp=>(D a bp).1,λa bp b g z=>?_⟩ bk V O C (λal an ak=>by grind);have ae:b<h:=M;have B:a*h+b<c af:=by rw[A];have:a*h+h<=j*h:=FB;omega
  exact⟨af[a*h+b],bI B,(D a bp).2 _ b g _ z (bI B)⟩
def eg.fu{h}{D aC:ae}(J:j0 P q D aC W a4)(aa:a4.size=h){bO}{af}(U:bD F D=cM (c0 bO j))(Y:k[d]?=f (.J (cq W h bO j af))){r6}{dH:Nat->m K}(bq:bD F aC=ax (.A r6 h 1 dH)){hZ}(bK:c hZ=h)(bC:∀bz g (s:Nat) bu,(dH 0)[s]?=f bu->Rd bz g bu->hZ[s]?=f g/\dS g=l)(w:(j+1)*a4.bytes<=140737488355328):
  eg P E q F k (λbf:fo=>cM (c0 bf (j+1))) λbf=>k.set d (.J (cq W h bf (j+1) (af++hZ))):=by
 intro b aD aN bP;obtain⟨bY,t2,a0,bU,Z,z,G,x,O⟩:=J.op;have bm:=(cO.1 Y).1;have au:d<c b.s:=h0;have R:=bI au;generalize b.s[d]=L at R;obtain⟨bS,aB,bN,aK,aF⟩:=bP.box d _ L Y R;have bd:=b8 R;have al:=eF aN D;rw[U]at al;have al:=Rd.ba al;have S:=eF aN aC;rw[bq]at S;have S:=b6 S;have aL:=aB.2.1;have H:=aB.2.2.1;have bV:∀i,b.a.heap.size<=i->∀q,b.C i q=n:=λi w q=>by
  cases bn:b.C i q with
  |none=>rfl
  |some g=>have:=bP.block bn;omega
 have mk:∀p A cap,c0 bO j=.slice A j cap->cap<j+1->bb (k.map λ_=>.M) {b with C:=p}->(∀e q g,b.C e q=f g->p e q=f g) ->
   Rd p (.slice A j cap) (.A v h j (l6 h af))->(∀{N},dv {b with C:=p} N->dv b N) ->
   ∃a0 aw ag g,(ab aD.eval q).run P b.a=.ok aw ag.a/\(aw=.value g∨(aw=.skip/\g=I))/\bv (k.set d (.J (cq W h a0 (j+1) (af++hZ)))) ag g (cM (c0 a0 (j+1)))/\bb (k.set d (.J (cq W h a0 (j+1) (af++hZ)))) ag/\cN k b (k.set d (.J (cq W h a0 (j+1) (af++hZ)))) ag/\dv b ((ab aD.eval q).events P b.a #[]):=by
  intro p A cap aS r ak aG aH ah;have a5:Rd ({b with C:=p}:a6).C (aD.eval aC) (.A r6 a4.size 1 dH):=by rw[aa];exact S.mono aG
  have ai:Rd ({b with C:=p}:a6).C (.slice A j cap) (.A v a4.size j (l6 h af)):=M;obtain⟨y,t,br,o,X,f3,f4,f5⟩:=vO (P:=P) (b:={b with C:=p}) (ty:=q.type) z G x O J.elem ak ai a5 r w J.bytes;have f6:=u1 (P:=P) (b:={b with C:=p}) (ty:=q.type) z G x O J.elem ak ai a5 r w J.bytes;rw[aa]at o f4;have bH:=o.len;have bB:c af+h=(j+1)*h:=M;have aP:0<h:=by have:=J.size;omega
  have aI:∀s,s<h->∃g,y[j*h+s]?=f g/\hZ[s]?=f g/\dS g=l:=λs bl=>by
   have aV:=o.bF j u;have aZ:cf j (l6 h af) dH j=dH 0:=by simp[cf]
   rw[aZ]at aV;obtain⟨g,a1,a2⟩:=o.rd j u s ((dH 0)[s]'u) M;grind
  have aU:y=af++hZ:=by
   apply pZ;intro V;by_cases bx:V<c af
   .have z:V / h<j:=sn M;have bF:=ut V h;have aY:=Ni (h:=h) H z;have bA:cf j (l6 h af) dH (V / h)=l6 h af (V / h):=by simp[cf,z]
    have aO:V % h<c (l6 h af (V / h)):=by rw[aY];exact pU _ aP
    obtain⟨g,a1,a2⟩:=o.rd (V / h) u (V % h) ((l6 h af (V / h))[V % h]) M;obtain⟨bZ,bW,bX⟩:=Nh (bI aO);grind[Rd.ba]
   grind
  subst aU;have aq:∀D∈hZ,dS D=l:=λD U=>by grind[List.getElem_of_mem]
  let bg:ar:=b.a.drew.alloc (.cells (af++hZ++t).toArray W);have bo:bg.heap[b.a.heap.size]?=f (.cells (af++hZ++t).toArray W (0,0)):=lS b.a.drew _;have bG:bg.heap.size=b.a.heap.size+1:=ND;obtain⟨aA,bc⟩:=bP.b6 (d:=d) (j1:=cq W h (.row b.a.heap.size br) (j+1) (af++hZ)) (cu:=⟨L.v,[b.a.heap.size]⟩) (bg:=bg) Y R rfl u
   (λi w _=>iX b.a.drew _ w) (λi w=>by grind)
   ⟨λe=>if e=b.a.heap.size then f (.cells (af++hZ++t).toArray W (0,0))else n,⟨aB.1,λD U=>by grind,by grind,X,f3,t,by omega,rfl⟩,λi q w=>by grind,λi=>by by_cases bx:i=b.a.heap.size<;>simp[bx]⟩ a a a
  refine⟨.row b.a.heap.size br,.value (.slice (f ⟨b.a.heap.size,0,n⟩) (j+1) br),_,_,?_,.inl a,Rd.val a,aA,bc,?_⟩
  .rw[la Z,al,aS];simp[cK,dZ];exact hE
  grind[la,iU]
 cases bO with
 |nil A=>
  obtain⟨_,_,_,rfl,_⟩:=aB;refine mk b.C A 0 a C (by have:=bP.dU;omega) (λ_ _ _ J=>J) Rd.dJ (λJ=>J)
 |row i cap=>
  obtain⟨t,bM,ao,bj⟩:=aB.lookup;obtain⟨aT,_,_,r,bs,_⟩:=aB;have a9:i∈L.aj:=(aK i).2 M;have ba:=bN i _ ao;have bt:=aF i a9;have bh:=bP.lt L bd i a9;have aM:∀q g,af[q]?=f g->b.a.cell? ⟨i,q,n⟩=f g:=by intro q g Z;simp[aJ,ba];grind
  obtain⟨aE,an⟩:=bP.fx (i:=i) (y:=af) bt aM;have ah:∀{N:Array aR},dv {b with C:=λe q=>if e=i then af[q]? else b.C e q} N->dv b N:=λbk=>
   bk.gI (i:=i) bd a9 an λe q g al=>by grind
  have aH:=Rd.kg (bz:=λe q=>if e=i then af[q]? else b.C e q) (i:=i) (cap:=cap) (af:=af) aL H r bs (λq=>by simp);by_cases a_:j+1<=cap
  .have a5:Rd ({b with C:=λe q=>if e=i then af[q]? else b.C e q}:a6).C (aD.eval aC) (.A r6 a4.size 1 dH):=by rw[aa];exact S.mono an
   obtain⟨B,o,X⟩:=DW (P:=P) (b:={b with C:=λe q=>if e=i then af[q]? else b.C e q}) (ty:=q.type) (j:=j) (i:=i) (cap:=cap) z G x O J.elem aE ba M a5 a_;have f6:=B7 (P:=P) (b:=b) (ty:=q.type) (j:=j) (i:=i) (cap:=cap) z G x O J.elem bP ba M (D:=aD.eval aC) (r6:=r6) (dH:=dH) M a_ bd a9 (λq _=>bt q);rw[aa]at o X;have aQ:c B=h:=by have:=o.len;omega
   have bJ:=o.bF 0 u;have aI:∀s,s<h->∃g,B[s]?=f g/\hZ[s]?=f g/\dS g=l:=λs bl=>by obtain⟨g,a1,a2⟩:=o.rd 0 u s ((dH 0)[s]'u) (bI u);grind
   have bR:B=hZ:=mU;subst bR;have aq:∀D∈B,dS D=l:=λD U=>by grind[List.getElem_of_mem]
   have bE:j*h+h<=cap*h:=by rw[<-oU];exact g7 _ a_
   have bL:h<=c t:=M;have bQ:((af++t).take (j*h)++B++(af++t).drop (j*h+c B))=af++B++t.drop h:=by rw[<-H,aQ];simp
   rw[bQ]at X;have bp:(b.a.setRow i (af++B++t.drop h).toArray).heap[i]?=f (.cells (af++B++t.drop h).toArray W (0,0)):=setRow_heap b.a i _ _ W _ ba;have av:∀e,e≠i->(b.a.setRow i (af++B++t.drop h).toArray).heap[e]?=b.a.heap[e]?:=λe a3=>setRow_other b.a i e _ a3;obtain⟨aA,bc⟩:=bP.b6 (d:=d) (j1:=cq W h (.row i cap) (j+1) (af++B)) (cu:=L) (bg:=b.a.setRow i (af++B++t.drop h).toArray) Y R rfl C
    (λe a3 bT=>av e M) (λe a3=>.inl a3)
    ⟨λe=>if e=i then f (.cells (af++B++t.drop h).toArray W (0,0))else n,⟨aT,λD U=>by grind,by grind,a_,bs,t.drop h,by grind,rfl⟩,λe q a3=>by grind,λe=>by grind⟩ a a a
   refine⟨.row i cap,.value (.slice (f ⟨i,0,n⟩) (j+1) cap),_,_,?_,.inl a,Rd.val a,aA,bc,?_⟩
   .rw[la Z,al];simp only[cK,dZ,c0];exact hE
   rw[la Z,al];exact iU f6
  exact mk _ (f ⟨i,0,n⟩) cap a u aE an aH ah
def g.fu{h}{x y:ae}(D:j0 P q x y W a4)(J:a4.size=h){u}(C:q.dst=f u)(M:q.guard=n)(O:fi E q.dst=l){bO}{af}(N:bD F x=cM (c0 bO j))(i:k[d]?=f (.J (cq W h bO j af))){r}{b:Nat->m K}(I:bD F y=ax (.A r h 1 b)){hZ}(A:c hZ=h)(B:∀z s (w:Nat) t,(b 0)[w]?=f t->Rd z s t->hZ[w]?=f s/\dS s=l)(e:(j+1)*a4.bytes<=140737488355328)(o:∀a:fo,g p E bd (.S all bq::av) .normal ((u,cM (c0 a (j+1)))::F) (k.set d (.J (cq W h a (j+1) (af++hZ))))):g p E bd (.S all (q::bq)::av) .normal F k:=
 g.cC (ι:=fo) (λa=>cM (c0 a (j+1))) (λa=>k.set d (.J (cq W h a (j+1) (af++hZ)))) M O (.fu D J N i I A B e) λa=>by rw[C];exact o a
def g.jy(o)(W)(h){t}(J:look F o=ax (.A l t 0 U))(u:∀e:fo,g p E bd (.code r::av) .normal ((o,cM (c0 e 0))::F) (k++[.J (cq W h e 0 [])])):g p E bd (.code r::av) .normal F k:=by
 refine b0.e2 (λz K i b=>?_) u;have x:=i.ak o;rw[J]at x;obtain⟨d,w,y,I,_,_,j,_,_⟩:=(b6 x).b0;have j:=j a;subst j;obtain⟨D,m⟩:=b.bY (bT:=.J (cq W h (.nil d) 0 [])) (L:=⟨.nilFunc,[]⟩) (.refl _ _) rfl b ⟨λ_=>n,⟨rfl,by simp,by simp,rfl,rfl⟩,by simp,by simp,by simp⟩ C;refine⟨.nil d,{z with s:=z.s++[⟨.nilFunc,[]⟩]},rfl,⟨i.size,i.defers.imp λ_ q=>q.mono m.ext,λA=>?_⟩,D,m⟩;simp only[look];cases s:ad o A with
 |false=>exact(i.ak A).mono m.ext b.len
 |true=>
  have B:=dn s;subst B;show Rd _ _ _;rw[I];exact Rd.val a
def g.iG(o d){h}{bO}{af}(s:Nat->m K)(ag:look F o=cM (c0 bO j))(w:k[d]?=f (.J (cq W h bO j af)))(Z:∀D,D<j->c (s D)=h/\∀X N r V,(s D)[N]?=f r->af[D*h+N]?=f V->Rd X V r)(M:g p E bd (.code r::av) .normal ((o,ax (.A v h j s))::F) (k.set d .M)):g p E bd (.code r::av) .normal F k:=by
 refine g.aP (λz ak C e=>?_) M;obtain⟨L,t,T,R,Q,ae,O,ai⟩:=cq.fK w s Z z e;have Y:=(cO.1 w).1;have S:=C.ak o;rw[ag]at S;have x:=Rd.ba S;have B:fp k z (k.set d .M) {z with C:=t}:=by
  refine⟨R,λq bT cu b lP=>?_⟩;by_cases u:d=q
  .subst u;rw[w]at b;cases b;exact⟨.M,cu,by grind,lP,a⟩
  exact E0
 have y:cN k z (k.set d .M) {z with C:=t}:=by refine⟨bA _,λ_ _ _=>rfl,R,λA _ J ab=>Q A (J L (b8 T)) ab,λL aa A i=>.inr ⟨L,aa,i⟩,B.box,rfl,rfl,rfl,rfl⟩
 refine⟨{z with C:=t},rfl,⟨C.size,C.defers.imp λ_ I=>I.mono y.ext,λU=>?_⟩,⟨ae,by simp[e.len],?_,e.a0,e.lt,e.own⟩,y⟩
 .simp only[look];cases i:ad o U with
  |false=>exact(C.ak U).mono y.ext e.len
  |true=>
   have u:=dn i;subst u;show Rd _ _ _;grind
 intro q bT cu b lP;by_cases u:d=q
 .subst u;rw[iq Y]at b;cases b;trivial
 rw[j9 u]at b;exact(e.box q bT cu b lP).b8 B e.len λA i=>⟨a,Q A λah=>u (e.a0 d q L cu T lP A ah i)⟩
end
structure ek(h j:Nat)(U:Nat->m K)(af:m X):Prop where
 len:c af=j*h
 ep:∀e,e<j->c (U e)=h
 b2:∀e,e<j->∀t r,(U e)[t]?=f r->∃D,af[e*h+t]?=f D/\∀bz,Rd bz D r
def ek.rd{h}{af}(k:ek h j U af):∀a,a<j->c (U a)=h/\∀bz e d i,(U a)[e]?=f d->af[a*h+e]?=f i->Rd bz i d:=λa b=>
 ⟨k.ep a b,λbz e d i g p=>by obtain⟨q,m,o⟩:=k.b2 a b e d g;grind⟩
def MU(b:X):O->O
 |.w 0 _ _ _=>.v b
 |a=>a
def Ey(d:X):E1->E1
 |.R a=>.R (MU d a)
 |b=>b
def Ez(a:X):m E1->m E1
 |[]=>[]
 |b::d=>Ey a b::Ez a d
def MV(b:X):x->x
 |.n d=>.n (Ey b d)
 |.Q a=>.Q (Ez b a)
 |.any=>.any
def rT(d:Nat):O->Bool
 |.w 0 _ b _=>ad b d
 |a=>nj a
def vA(d:Nat):E1->Bool
 |.R a=>rT d a
 |b=>vc b
def vB(a:Nat):m E1->Bool
 |[]=>l
 |b::d=>match vA a b with|true=>vB a d|false=>v
def Dq(b:Nat):x->Bool
 |.n d=>vA b d
 |.Q a=>vB b a
 |.any=>l
section
variable {h:Nat}{L:Loc}
def ado(t:b.s[0]?=f L){e}(d:rT j e=l)(i:cB [ap.w W h j U] b aa e):cB an aB aa (MU L.v e):=by
 cases e with
 |c x=>exact vb d i
 |any=>exact i
 |w p u w m=>
  cases p with
  |zero=>
   obtain⟨s,_,g⟩:=i;have g:=g W h j U a;have r:=dn d;obtain⟨q,o,k⟩:=g.2 r.symm;rw[t]at o;cases o;show Rd _ _ _;rw[k];exact .val (k▸s.cell)
  |succ p=>simp[rT,nj]at d
 |ptr=>simp[rT,nj]at d
 |aV=>simp[rT,nj]at d
 |N=>simp[rT,nj]at d
def MX(g:b.s[0]?=f L){D}(d:vA j D=l)(e:ey [ap.w W h j U] b aa D):ey an aB aa (Ey L.v D):=by
 cases D with
 |R i=>exact ado g d e
 |agg a=>exact CL (D:=.agg a) d e
def MY(g:b.s[0]?=f L):∀{y:m X}{a:m E1},vB j a=l->eV [ap.w W h j U] b y a->eV an aB y (Ez L.v a)
 |[],[],_,_=>trivial
 |[],_::_,_,d=>d.elim
 |_::_,[],_,d=>d.elim
 |o::y,k::a,e,d=>by
  simp[vB]at e;cases i:vA j k with
  |false=>grind
  |true=>simp[i]at e;exact⟨MX g i d.1,MY g e d.2⟩
def MW(d:b.s[0]?=f L){a}(e:Dq j a=l)(g:bv [ap.w W h j U] b aa a):bv an aB aa (MV L.v a):=by
 cases a with
 |n o=>exact MX d e g
 |Q m=>obtain⟨y,i,k⟩:=g;exact⟨y,i,MY d e k⟩
 |any=>trivial
end
def zr:m ResultVar->Bool
 |[]=>l
 |.tmp _::a=>zr a
 |.cell _ _::_=>v
def M0{P}{w}:∀{rs:m ResultVar},zr rs=l->∃y,(∀a,(rs.mapM (ic w)).run P a=Result.ok y a)/\dz P (rs.mapM (ic w))
 |[],_=>⟨[],by simp,by rw[List.mapM_nil];exact .pure⟩
 |.tmp h::g,e=>by
  obtain⟨y,b,d⟩:=M0 (P:=P) (w:=w) (rs:=g) e;refine⟨w.tmps.getD h I::y,λa=>?_,?_⟩
  .simp only[oW,cK,ic,dZ,c9,b]
  rw[oW];exact .bind .pure λ_=>.bind d λ_=>.pure
def l'.tmp{j}{fn}{hG}(r:l' P j hG aa b)(F:P.funcs[j]?=f fn)(C:zr fn.results.toList=l)(o:∀p s t,b.C p s=f t->b.a.cell? ⟨p,s,n⟩=f t):l' P j hG aa aB:=by
 obtain⟨k,m,D,A,d,B,u⟩:=r;have g:d=fn:=M;subst g;let w:Act:={tmps:=hG.tmps,defers:=[]}
 obtain⟨y,k1,x⟩:=M0 (P:=P) (w:=w) C;have h:∀a,(d.results.mapM (ic w)).run P a=Result.ok y.toArray a:=λa=>by grind[Array.mapM_eq_mapM_toList,Sem.run_map,Go.Result.andThen_ok]
 have e:∀a,(results d hG.tmps).run P a=.ok (if r:y.toArray.size=1 then y.toArray[0]else .tuple y.toArray) a:=λa=>by unfold results;rw[cK];refine(eD (λE=>Result.andThen E _) (h a)).trans ?_;simp
 have i:dz P (results d hG.tmps):=by
  unfold results;have g:dz P (d.results.mapM (ic w)):=by rw[wX];exact .map x
  exact .bind g λ_=>.pure
 have q:=(u b.a o).1;rw[e]at q;cases q;exact⟨k,m,D,A,d,B,λa _=>⟨e a,λg z=>by rw[i a #[]]at z;grind⟩⟩
def Z.thaw{aN:ah P}[aN.bZ]{aS}{args}{res}{h}(B:Z aN aS args [] res [.w W h j U]){fn}(al:P.funcs[aS]?=f fn)(aw:zr fn.results.toList=l)(bb:Dq j res=l)(aL:∀z,z<j->c (U z)=h/\∀aP∈U z,nk aP=l):
  bl (ι:={S:fo×m X // ek h j U S.2}) aN aS args [] (λS=>MV (c0 S.1.1 j) res) (λS=>[.J (cq W h S.1.1 j S.1.2)]):=by
 refine⟨B.1,λaA y a2 F bq aR af=>B.2 aA y a2 F bq aR λY bj aB ar x b d=>?_⟩;have a8:aA.s=[]:=jB F.len;have aZ:c aB.s=1:=b.len;obtain⟨L,ba⟩:∃L,aB.s=[L]:=by
  match aen:aB.s with
  |[L]=>grind
  |[]=>grind
  |_::_::_=>grind
 have aO:aB.s[0]?=f L:=M;obtain⟨ag,ai⟩:=b.box 0 _ L rfl aO;rcases ai with⟨⟨bd,av⟩,o⟩|⟨i,cap,cells,ae,O,ak,bA⟩
 .subst av;obtain⟨bc,cap,bk,a4,aU,bf,ax,_⟩:=o.b0;have G:cap=0:=ax a;subst G;let A:a6:={aB with s:=[⟨.nilFunc,[]⟩]}
  have aV:eZ aB A:=⟨rfl,λ_ _ _ B=>B,λ_ _ _=>rfl,b.mem,λi E=>by grind⟩
  have aK:ek h 0 U []:=⟨by simp,λz r=>by omega,λz r=>by omega⟩
  refine .aP aV (af ⟨(.nil bc,[]),aK⟩ Y bj A (ar.tmp al aw b.mem) ?_ ?_ ?_)
  .have:=MW (an:=[ap.J (cq W h (.nil bc) 0 [])]) (aB:=A) aO bb x;rw[a4]at this;exact this
  .refine⟨b.mem,a,λN aM p aH e=>?_,?_,by grind,λi E=>⟨(b.own i E).1,by grind⟩⟩
   .cases N with
    |zero=>cases aH;cases e;exact⟨λ_=>n,⟨a,by simp,by simp,a,a⟩,by simp,by simp,by simp⟩
    |succ N=>grind
   grind
  refine⟨d.size,d.a3,d.mem,d.bC,λp e i E=>?_,λN aM p aH=>by grind,d.os,d.tape,d.output,d.own⟩;grind
 .subst ae;have a_:i∈(⟨.slice (f ⟨i,0,n⟩) j cap,[i]⟩:Loc).aj:=C;have aG:aA.a.heap.size<=i:=by
   rcases d.bS _ M i a_ with aa|⟨bo,aa,_⟩
   .exact aa
   grind
  have aT:i<aB.a.heap.size:=b.lt _ M i a_;obtain⟨bw,aQ,D,br,bh,bp,_,ab,a0⟩:=ag.b0;cases br;have a':c D=j*h:=ab.len;have a5:∀w T,D[w]?=f T->cells[w]?=f T:=λw T J=>by obtain⟨bx,a9,aF,bu⟩:=a0 w T J;cases aF;have:=b.mem _ _ _ bu;simp[aJ,O]at this;simpa using this
  have bg:j*h<=c cells:=by rw[ak];exact g7 _ bh
  have aI:cells.take (j*h)=D:=mU;have a3:D++cells.drop (j*h)=cells:=FD;have aK:ek h j U D:=by refine⟨a',λz r=>(aL z r).1,λz r bz aP I=>?_⟩;obtain⟨T,R,aD⟩:=ab.rd z r bz aP I;grind[vb]
  have H:∀aE∈D,dS aE=l:=λaE a7=>by
   obtain⟨w,J,rfl⟩:=hn a7;have aY:0<h:=M;have r:w / h<j:=sn M;have bs:w / h*h+w % h=w:=ut w h;have I:w % h<c (U (w / h)):=by rw[(aL _ r).1];exact pU _ aY
   obtain⟨T,R,aD⟩:=aK.b2 _ r _ _ (bI I);rw[bs,bI J]at R;cases R;exact(aD aA.C).cell
  have bn:∀g s k,aA.C g s=f k->g≠i:=λg s k au aF=>by have:=F.block au;omega
  let V:Mem:=λg s=>if g=i then n else aB.C g s;let Q:a6:={aB with s:=[],own:=λaE=>aB.own aE∨aE=i}
  let aC:a6:={Q with C:=V}
  let A:a6:={aB with s:=[⟨.nilFunc,[i]⟩],C:=V}
  have K:∀g s k,V g s=f k->aB.C g s=f k:=λg s k q=>by grind
  have aq:eZ aB Q:=⟨rfl,λ_ _ _ B=>B,λ_ _ _=>rfl,b.mem,λg t=>by
   rcases t with(t|t)|⟨p,e,_⟩
   .grind
   .exact .inr ⟨_,by rw[ba];simp;rfl,by grind⟩
   grind⟩
  have ao:nR Q aC:=⟨rfl,rfl,rfl,K,λg s k q=>by grind⟩
  have bt:eZ aC A:=⟨rfl,λ_ _ _ B=>B,λ_ _ _=>rfl,λg s k q=>b.mem _ _ _ (K _ _ _ q),λg t=>by grind⟩
  refine .aP aq (.b1 ah.bZ.ok ao (.aP bt (af ⟨(.row i cap,D),aK⟩ Y bj A (ar.tmp al aw b.mem) ?_ ?_ ?_)))
  .exact MW (L:=⟨.slice (f ⟨i,0,n⟩) j cap,[i]⟩) aO bb x
  .refine⟨λg s k q=>b.mem _ _ _ (K _ _ _ q),a,λN aM p aH e=>?_,?_,λp e g t=>?_,λg t=>⟨(b.own g t).1,λp e=>?_⟩⟩
   .cases N with
    |zero=>
     cases aH;cases e;refine⟨λg=>if g=i then f (.cells (D++cells.drop (j*h)).toArray W (0,0))else n,⟨a,H,a',bh,bp,cells.drop (j*h),M,a⟩,λg s t=>M,λg=>?_,λg t s=>?_⟩
     .by_cases aF:g=i<;>simp[aF]
     grind
    |succ N=>grind
   .grind
   .grind
   simp[A]at e;subst e;have:=(b.own g t).2 _ (by rw[ba];simp;rfl);grind
  refine⟨d.size,d.a3,λg s k q=>?_,λg t a1 s=>?_,λp e g t=>?_,λN aM p aH=>by grind,d.os,d.tape,d.output,d.own⟩
  .simp only[A,V,bm (bn g s k q)];exact d.mem _ _ _ q
  .have:g≠i:=u;simp[A,V,bm this];exact d.bC g t a1 s
  grind
section
variable {p:ah P}
def g.iR{d:Prop}(i:∀b,bb k b->d)(j:d->g p E bd (.code r::av) .normal F k):g p E bd (.code r::av) .normal F k:=
 λb e h a=>j (i b a) b e h a
def g.fB{d:Prop}(i:∀b,bb k b->d)(j:d->g p E bd (.S all bq::av) .normal F k):g p E bd (.S all bq::av) .normal F k:=
 λb e h a=>j (i b a) b e h a
def cq.len{W}{m e d:Nat}{bO}{af}(g:k[d]?=f (.J (cq W m bO e af)))(b)(bP:bb k b):c af=e*m/\e<=9223372036854775807/\(0<e->∃i a,bO=.row i a)/\∀h,bO=.nil h->e=0:=by
 have o:d<c b.s:=h0;obtain⟨p,j,_⟩:=bP.box d _ _ g (bI o);cases bO with
 |nil h=>obtain⟨_,_,q,rfl,_⟩:=j;grind
 |row i a=>obtain⟨_,_,q,r,s,_⟩:=j;grind
def g.jl(aY:bZ P ac)(D:Nat){u:ae}{e}{eO}{h}{bO}{af}(cv:q.op=.call {callee:=.builtin .len,args:=#[u],argTypes:=ds})(M:ds[0]?=f o)(r:bW ac o=f e)(I:e.desc=.slice eO)(O:bD F u=cM (c0 bO j))(s:k[D]?=f (.J (cq W h bO j af)))(N:q.guard=n)(w:fi E q.dst=l)(t:g p E bd (.S all bq::av) .normal (gb q.dst (ax (.int .i64 j)) F) k):g p E bd (.S all (q::bq)::av) .normal F k:=by
 refine g.cC (ι:=Unit) (λ_=>ax (.int .i64 j)) (λ_=>k) N w (λm x J i=>?_) λ_=>t;obtain⟨_,A,_,K⟩:=cq.len s m i;have ak:=eF J u;rw[O]at ak;have ak:=Rd.ba ak;have z:=(aY o e r).run_underlying (Q:=m.a);rw[I]at z;have B:ds[0]?=f o:=M;have y:∃d b,c0 bO j=.slice d j b:=by
  cases bO with
  |nil d=>rw[K d rfl];exact⟨d,0,a⟩
  |row R b=>exact⟨_,b,rfl⟩
 obtain⟨d,b,C⟩:=y;rw[C]at ak;refine⟨(),.value (.int .i64 j),m,.int .i64 j,Rl,.inl a,Rd.int cS,i,.refl _ _,?_⟩;have:(ab x.eval q).events P m.a #[]=#[]:=Rl;rw[this];exact .nil
def va:m O->Bool
 |[]=>l
 |.c b::a=>match nk b with|true=>va a|false=>v
 |_=>v
def m2(y:m X)(a:m O):Prop:=c y=c a/\∀(d:Nat)b,a[d]?=f (O.c b)->∃e,y[d]?=f e/\∀g,Rd g e b
def m2.of{k}{b}:∀{y:m X}{d:m O},va d=l->bM k b y d->m2 y d
 |[],[],_,_=>⟨rfl,λi o e=>by grind⟩
 |[],_::_,_,g=>g.elim
 |_::_,[],_,g=>g.elim
 |r::y,.c s::d,e,g=>by
  simp[va]at e;cases j:nk s with
  |false=>grind
  |true=>
   simp[j]at e;obtain⟨p,q⟩:=m2.of e g.2;refine⟨by grind,λi o h=>?_⟩;cases i with
   |zero=>simp at h;subst h;exact⟨r,a,λt=>vb j g.1⟩
   |succ i=>grind
 |_::_,.ptr _ _::_,e,_=>by exact cS
 |_::_,.w _ _ _ _::_,e,_=>by exact cS
 |_::_,.aV _::_,e,_=>by exact cS
 |_::_,.N _ _::_,e,_=>by exact cS
 |_::_,.any::_,e,_=>by exact cS
theorem bM.gn{k}{b}:∀{y:m X}{d:m O},bM k b y d->∀g∈y,AM.dS g=l
 |[],[],_,g,e=>by grind
 |[],_::_,a,_,_=>a.elim
 |_::_,[],a,_,_=>a.elim
 |i::y,h::d,a,g,e=>by
  rcases e8.1 e with rfl|e
  .exact cB.cell a.1
  exact bM.gn a.2 g e
def eg.eP(aY:bZ P ac)(d){S s:ae}{h cap}{af}{new}{e}(aq:q.op=.store o S s)(Q:bW ac o=f e)(R:bD F S=cM (.pointer (f ⟨i,off,n⟩)))(ah:mm (bD F s)=f new)(Y:c new=e.size)(O:va new=l)(u:k[d]?=f (.J (cq W h (.row i cap) j af)))(Z:off+c new<=c af):
  eg P E q F k (ι:={y:m X // m2 y new}) (λ_=>.any) (λy=>k.set d (.J (cq W h (.row i cap) j (af.take off++y.1++af.drop (off+c y.1))))):=by
 intro r t N bP;have w:=eF N S;rw[R]at w;have w:=Rd.ba w;have K:=uS ah (eF N s);have V:d<c k:=(cO.1 u).1;have aC:d<c r.s:=h0;have T:=bI aC;generalize r.s[d]=L at T;obtain⟨aJ,D,aN,aH,J⟩:=bP.box d _ L u T;obtain⟨p,ax,aL,U⟩:=cq.lookup D;obtain⟨aI,aP,aw,G,aG,_⟩:=D;have an:i∈L.aj:=(aH i).2 M;have ai:=aN i _ aL;let y:=(t.eval s).cells.toList;have ao:m2 y new:=m2.of O K;have au:c y=c new:=ao.1;have aA:off+0+c y<=(af++p).toArray.size:=M;have al:=run_storeCells_at P i off W y 0 (af++p).toArray r.a ai aA K.cell;simp only[ka]at al;have aB:(af++p).take off++y++(af++p).drop (off+c y)=(af.take off++y++af.drop (off+c y))++p:=M;rw[aB]at al;have ag:c (af.take off++y++af.drop (off+c y))=c af:=M;have aa:=setRow_heap r.a i (af++p).toArray ((af.take off++y++af.drop (off+c y))++p).toArray W (0,0) ai;have x:∀g,g≠i->(r.a.setRow i ((af.take off++y++af.drop (off+c y))++p).toArray).heap[g]?=r.a.heap[g]?:=λg B=>setRow_other r.a i g _ B;obtain⟨ak,t2⟩:=bP.b6 (d:=d) (j1:=cq W h (.row i cap) j (af.take off++y++af.drop (off+c y))) (cu:=L) (bg:=r.a.setRow i ((af.take off++y++af.drop (off+c y))++p).toArray) u T rfl C
  (λg B aM=>x g M) (λg B=>.inl B)
  ⟨λg=>if g=i then f (.cells ((af.take off++y++af.drop (off+c y))++p).toArray W (0,0))else n,⟨aI,λS R=>by grind[bM.gn],by grind,G,aG,p,by grind,rfl⟩,λg q B=>by simp_all,λg=>by simp_all⟩ a a a
 have H:(t.eval s).cells.size=e.size:=M;refine⟨⟨y,ao⟩,.skip,_,I,?_,.inr ⟨a,a⟩,A,ak,t2,?_⟩
 .have av:(storeCells ⟨i,off,n⟩ (t.eval s).cells.toList).run P r.a=_:=al;simp[ab,aq,w,Instr.storeAt,Instr.sureAddr,storeVar,(aY o e Q).a',H,av]
 intro z b;have aK:ab t.eval q=(do storeVar o ⟨i,off,n⟩ (t.eval s);pure .skip):=by simp[ab,aq,w,Instr.storeAt,Instr.sureAddr]
 rw[aK]at b;have aE:z∈(storeCells ⟨i,off,n⟩ (t.eval s).cells.toList).events P r.a #[]:=by
  simp[storeVar,aD,(aY o e Q).a',H,aF,events_sizeOf,d6,hB,dm,cK,c9,Sem.events_pure]at b;generalize(storeCells ⟨i,off,n⟩ (t.eval s).cells.toList).run P r.a=aO at b;cases aO with
  |ok aR bg=>simpa using b
  |halt S bg=>simpa using b
 rcases nd (t.eval s).cells.toList 0 (af++p).toArray r.a #[] ai aA K.cell z aE with ar|⟨aQ,_,_,rfl⟩
 .grind
 exact n_ (b8 T) an (J i an _)
def g.eP{ac}(aY:bZ P ac)(d){o}{r s}{W}{h j i cap off}{af}{new}{e}(z:q.op=.store o r s)(a:bW ac o=f e)(B:bD F r=cM (.pointer (f ⟨i,off,n⟩)))(x:mm (bD F s)=f new)(u:c new=e.size)(w:va new=l)(b:k[d]?=f (.J (cq W h (.row i cap) j af)))(t:off+c new<=c af)(A:q.guard=n)(C:fi E q.dst=l)(m:∀y,m2 y new->g p E bd (.S all bq::av) .normal (gb q.dst .any F) (k.set d (.J (cq W h (.row i cap) j (af.take off++y++af.drop (off+c y)))))):g p E bd (.S all (q::bq)::av) .normal F k:=
 g.cC _ _ A C (eg.eP aY d z a B x u w b t) λy=>m y.1 y.2
def g.swap(e t){i j:X->(Nat->Option Obj)->Prop}(ar:e≠t)(z:k[e]?=f (.J i))(A:k[t]?=f (.J j))(M:∀T q,i T q->T=.nilFunc)(al:∀T q,j T q->T=.nilFunc)(V:g p E bd (.code r::av) .normal F ((k.set e (.J j)).set t (.J i))):g p E bd (.code r::av) .normal F k:=by
 refine g.aP (λo ax aa bP=>?_) V;have K:e<c k:=(cO.1 z).1;have O:t<c k:=(cO.1 A).1;have an:e<c o.s:=h0;have aq:t<c o.s:=h0;obtain⟨y,ae⟩:∃L,o.s[e]?=f L:=⟨_,bI an⟩;obtain⟨C,ag⟩:∃L,o.s[t]?=f L:=⟨_,bI aq⟩;have x:=bP.box e _ y z ae;have ab:=bP.box t _ C A ag;have aw:y.v=.nilFunc:=by obtain⟨q,G,_⟩:=x;grind
 have H:C.v=.nilFunc:=by obtain⟨q,G,_⟩:=ab;grind
 let m:a6:={o with s:=(o.s.set e C).set t y}
 have af:∀b,((k.set e (.J j)).set t (.J i))[b]?=if b=t then f (.J i)else if b=e then f (.J j)else k[b]?:=λb=>by grind
 have W:∀b,m.s[b]?=if b=t then f y else if b=e then f C else o.s[b]?:=λb=>by grind
 have Z:∀L∈m.s,L∈o.s:=λL h=>by grind
 have s:fp k o ((k.set e (.J j)).set t (.J i)) m:=by
  refine⟨λ_ _ _ J=>J,λb U L aH h=>?_⟩;rw[af,W];by_cases w:b=t
  .subst w;rw[A]at aH;cases aH;rw[ag]at h;cases h;exact⟨.J i,y,by simp,by simp,by show y.v=_;grind⟩
  by_cases Q:b=e
  .subst Q;rw[z]at aH;cases aH;rw[ae]at h;cases h;exact⟨.J j,C,by simp[w],by simp[w],by show C.v=_;grind⟩
  exact⟨U,L,by grind,by grind,.refl _ _⟩
 have Y:cN k o ((k.set e (.J j)).set t (.J i)) m:=by exact⟨bA _,λ_ _ _=>rfl,λ_ _ _ J=>J,λ_ _ _ _=>rfl,λL J u d=>.inr ⟨L,Z L J,d⟩,s.box,rfl,rfl,rfl,rfl⟩
 refine⟨m,a,⟨aa.size,aa.defers.imp λ_ M=>M.mono s,λao=>(aa.ak ao).mono s bP.len⟩,⟨bP.mem,by simp[m,bP.len],?_,?_,λL h u d=>bP.lt L (Z L h) u d,λu d=>⟨(bP.own u d).1,λL h=>(bP.own u d).2 L (Z L h)⟩⟩,Y⟩
 .intro b U L aH h;rw[af]at aH;rw[W]at h;split at aH
  .rename_i w;rw[bo w]at h;cases aH;cases h;exact x
  rename_i w;rw[bm w]at h;split at aH
  .rename_i Q;rw[bo Q]at h;cases aH;cases h;exact ab
  rename_i Q;rw[bm Q]at h;exact(bP.box b U L aH h).b8 s bP.len λu d=>⟨a,λ_=>rfl⟩
 intro b B D I R S u d N;rw[W]at R S;have key:∀b L,(if b=t then f y else if b=e then f C else o.s[b]?)=f L->o.s[if b=t then e else if b=e then t else b]?=f L:=λb L aA=>by grind
 have:=bP.a0 _ _ D I (key b D R) (key B I S) u d N;by_cases ah:b=t<;>by_cases ai:B=t<;>by_cases ak:b=e<;>by_cases au:B=e<;>simp_all
def g.jw(aY:bZ P ac){S T:ae}{e}{H U}(aD:q.op=.makeSlice o S T)(ah:bW ac o=f e)(aM:e.desc=.slice W)(aa:bW ac W=f a4)(al:bD F S=ax (.int H j))(an:bD F T=ax (.int U j))(i:j*a4.bytes<=140737488355328)(aT:j<=140737488355328)(ag:q.guard=n)(af:fi E q.dst=l)(aq:∀z d,g p E bd (.S all bq::av) .normal (gb q.dst (cM (c0 (.row z j) j)) F) (k++[.J (cq W a4.size (.row z j) j d)])):g p E bd (.S all (q::bq)::av) .normal F k:=by
 refine g.cC (ι:=Nat×m X) (λw=>cM (c0 (.row w.1 j) j)) (λw=>k++[.J (cq W a4.size (.row w.1 j) j w.2)]) ag af (λb V aC r=>?_) λw=>aq w.1 w.2;have I:=eF aC S;rw[al]at I;have I:=b6 I;generalize aA:V.eval S=aN at I;cases I;have J:=eF aC T;rw[an]at J;have J:=b6 J;generalize x:V.eval T=aO at J;cases J;have ao:=(aY o e ah).ec;rw[aM]at ao;obtain⟨A,N,R,aP,aQ,aB,br,aR,aS⟩:=(aY W a4 aa).cW;have B:(A.bytes:Int)*(j:Int)<=281474976710656:=M;have aI:=run_make (P:=P) (w:=b.a) o W A N ao R aB H U j j u (Int.le_refl _) B u;simp[cZ]at aI;let d:=(madeCells N.cells (j*A.size)).toList;have G:c d=j*a4.size:=by grind[size_madeCells]
 have aE:∀D∈N.cells.toList,dS D=l:=bM.gn (ui (k:=k) (b:=b) br);have aG:c N.cells.toList=a4.size:=NR;have aK:∀D∈d,dS D=l:=by intro D ak;simp[d,madeCells,Array.toList_map,hq]at ak;grind[Nat.mod_lt]
 have aH:ew (k++[.J (cq W a4.size (.row b.a.heap.size j) j d)]) {b with a:=b.a.alloc (.cells d.toArray W),s:=b.s++[⟨.nilFunc,[b.a.heap.size]⟩]} (.J (cq W a4.size (.row b.a.heap.size j) j d)) ⟨.nilFunc,[b.a.heap.size]⟩:=by
  refine⟨λO=>if O=b.a.heap.size then f (.cells (d++[]).toArray W (0,0))else n,⟨a,aK,G,bA _,by omega,[],by grind,a⟩,λO q B=>?_,λO=>?_,λO B q=>?_⟩
  .by_cases s:O=b.a.heap.size
   .subst s;simp[dA]at B;grind[lS]
   grind
  .by_cases s:O=b.a.heap.size<;>simp[s]
  simp at B;subst B;cases t:b.C b.a.heap.size q with
  |none=>rfl
  |some D=>have:=r.block t;omega
 have K:bb k {b with a:=b.a.alloc (.cells d.toArray W)}/\cN k b k {b with a:=b.a.alloc (.cells d.toArray W)}:=
  r.cn C (λz i=>iX b.a _ i) (λz i q=>rfl) (λz i q D t=>by have:=r.block t;omega) a a a
 obtain⟨Y,Z⟩:=K.1.bY K.2 rfl r aH (λz i=>by simp_all);refine⟨(b.a.heap.size,d),.value (.slice (f ⟨b.a.heap.size,0,n⟩) j j),_,_,?_,.inl a,Rd.val a,Y,Z,?_⟩
 .simp[ab,aD,aA,x,aI,d]
 have s:ab V.eval q=(do pure (.value (<-Instr.makeSlice o (.int H j) (.int U j)))):=by simp[ab,aD,aA,x]
 rw[s];refine iU ?_;intro s y;have ai:∀h,(underlying o).run P h=.ok (.slice W) h:=λh=>by simp[underlying,ao]
 have aJ:∀h,(typeInfo W).run P h=.ok A h:=λh=>by simp[typeInfo,R]
 have L:∀h,(zeroValue W).run P h=.ok N h:=λh=>by simp[zeroValue,typeInfo,R,aB]
 have aL:∀h,(sizeOf W).run P h=.ok A.size h:=λh=>by simp[sizeOf,typeInfo,R]
 have aw:IntKind.i64.wrap (j:Int)=j:=by grind[IntKind.wrap_i64]
 have ar:¬(j:Int)<0:=u;have au:¬(281474976710656<(A.bytes:Int)*j):=u;simp[Instr.makeSlice,ai,aJ,aL,asInt,asIntOf,aw,ar,au]at y;rw[L]at y;simp[aF,(dz.newRow (P:=P)) _ _,ite_self]at y;unfold askRoom at y;split at y
 .have:s=⟨.mark .noRoom,v,l⟩:=by simpa using y
  rw[this];exact .inl a
 simp at y
end
section
variable {h N:Nat}{bx:X}
end
def YB{a y:m α}{b}(g:b+c y<=c a)(d):(a.take b++y++a.drop (b+c y))[d]?=if b<=d/\d<b+c y then y[d-b]? else a[d]?:=by have e:c (a.take b)=b:=M;grind
def ek.fh{h}{d:Nat->m K}{af}{new}(k:ek h j U af)(e t)(bp:e<j)(q:m2 y new)(D:t+c new<=h)(B:∀a,a<j->a≠e->d a=U a)(w:c (d e)=h)(p:∀b g,(d e)[b]?=f g->(t<=b/\b<t+c new/\new[b-t]?=f (O.c g))∨(¬(t<=b/\b<t+c new)/\(U e)[b]?=f g)):ek h j d (af.take (e*h+t)++y++af.drop (e*h+t+c y)):=by
 have J:e*h+h<=j*h:=FB;have I:=q.1;have E:=k.len;have r:e*h+t+c y<=c af:=u;refine⟨by grind,λa i=>?_,λa i b g A=>?_⟩
 .by_cases o:a=e
  .grind
  rw[B a i o];exact k.ep a i
 rw[YB r];by_cases o:a=e
 .subst o;rcases p b g A with⟨c5,dt,C⟩|⟨c5,dt⟩
  .rw[bo u,show a*h+b-(a*h+t)=b-t by omega];exact q.2 _ g C
  rw[bm u];exact k.b2 a i b g dt
 have z:(U a)[b]?=f g:=M;have F:b<h:=by rw[<-k.ep a i];grind
 rw[bm ?_]
 .exact k.b2 a i b g z
 rcases Nat.lt_or_gt_of_ne o with x|s
 .have:a*h+h<=e*h:=by rw[<-oU];exact g7 _ x
  omega
 have:e*h+h<=a*h:=by rw[<-oU];exact g7 _ s
 omega
def ek.gH{h}{a:Nat->m K}{af}(g:ek h j U af)(s:∀b,b<j->a b=U b)(t:c (a j)=h)(z:c y=h)(B:∀(d:Nat)e,(a j)[d]?=f e->∃o,y[d]?=f o/\∀p,Rd p o e):ek h (j+1) a (af++y):=by
 have w:=g.len;refine⟨by grind,λb k=>?_,λb k d e A=>?_⟩
 .by_cases r:b=j
  .grind
  rw[s b u];exact g.ep b u
 by_cases r:b=j
 .grind
 have i:b<j:=u;have q:(U b)[d]?=f e:=M;have x:d<h:=by rw[<-g.ep b i];grind
 have:b*h+h<=j*h:=by rw[<-oU];exact g7 _ i
 rw[j6 u];exact g.b2 b i d e q
def pq(b:m (Nat×cm))(a:bJ):m ResultVar->Option (m x)
 |[]=>f []
 |.tmp i::h=>match pq b a h with
  |some g=>f (look a i::g)
  |none=>n
 |.cell d i::h=>match pq b a h with
  |some g=>match look a d with
   |.n (.R (.c (.O e)))=>match bW b i with
    |some k=>match hj k (e.map O.c)with
     |some j=>f (.n j::g)
     |none=>n
    |none=>n
   |_=>n
  |none=>n
def DT{P}{ac}(aY:bZ P ac){E}{k}{b}{F}{V}(ab:bX E k b F V):∀{S:m ResultVar}{d:m x},pq ac F S=f d ->
  ∃y,b4 k b y d/\∀Q,(∀i B T,b.C i B=f T->Q.cell? ⟨i,B,n⟩=f T)->(S.mapM (ic V)).run P Q=Result.ok y Q/\∀p,∀z∈(S.mapM (ic V)).events P Q p,z∈p∨∃i B T,z=⟨.cell ⟨i,B,n⟩,v,v⟩/\b.C i B=f T
 |[],d,o=>by cases o;exact⟨[],A,λQ _=>⟨by simp,λp z q=>.inl (by simpa using q)⟩⟩
 |.tmp w::an,d,o=>by
  simp[pq]at o;cases W:pq ac F an with
  |none=>grind
  |some aJ=>
   simp[W]at o;subst o;obtain⟨y,af,aL⟩:=DT aY ab W;refine⟨V.tmps.getD w I::y,⟨ab.ak w,af⟩,λQ C=>?_⟩;obtain⟨k1,R⟩:=aL Q C;refine⟨by simp[oW,cK,ic,dZ,c9,k1],λp z q=>R p z ?_⟩;simpa[oW,ic,k1]using q
 |.cell t w::an,d,o=>by
  simp[pq]at o;cases W:pq ac F an with
  |none=>grind
  |some aJ=>
   simp[W]at o;have Z:=ab.ak t;generalize look F t=aN at o Z;split at o
   case h_2=>cases o
   rename_i e;cases J:bW ac w with
   |none=>grind
   |some s=>
    simp[J]at o;cases N:hj s (e.map O.c)with
    |none=>grind
    |some ag=>
     simp[N]at o;subst o;obtain⟨y,af,aL⟩:=DT aY ab W;have G:=b6 Z;generalize aG:V.tmps.getD t I=aM at G;cases G;rename_i i h X K aq;let U:=(az (c e)).map X;have H:bM k b U (e.map O.c):=by
      have key:∀j d,(∀g aa,d[g]?=f aa->Rd b.C (X (j+g)) aa)->bM k b ((az (c d)).map λg=>X (j+g)) (d.map O.c):=by
       intro j d;induction d generalizing j with
       |nil=>intro _;trivial
       |cons aI d ak=>
        intro Y;rw[fh,wO];refine⟨Y 0 aI a,?_⟩;have:=ak (j+1) (λg aa u=>by have:=Y (g+1) aa M;grind);grind[Function.comp_def]
      have:=key 0 e M;grind
     have ax:∀g r,U[g]?=f r->b.C i (h+g)=f r:=λg r u=>by
      simp[U,m6]at u;by_cases au:g<c e
      .simp[au]at u;subst u;exact K g e[g] (bI au)
      grind
     let cb:ar:={b.a with heap:=b.a.heap}
     have aw:∃r,ey k b r ag/\∀Q,(∀i B T,b.C i B=f T->Q.cell? ⟨i,B,n⟩=f T)->(loadVar w ⟨i,h,n⟩).run P Q=.ok r Q:=by
      have ae:=aY w s J;cases D:s.agg<;>simp[hj,D]at N
      .cases av:c' 0 (e.map O.c)with
       |none=>grind
       |some aH=>
        simp[av]at N;subst N;obtain⟨r,ai,aC⟩:=H.get (eo av);refine⟨r,aC,λQ C=>?_⟩;have:=C _ _ _ (ax 0 r ai);simp[loadVar,cK,ae.et,c9,D];grind[run_load]
      cases av:mR s.size (e.map O.c)with
      |none=>grind
      |some r0=>
       simp[av]at N;subst N;obtain⟨al,aK⟩:=tM av;have ao:=H.take s.size;rw[<-al]at ao;have ah:c (U.take s.size)=s.size:=M;refine⟨.agg (U.take s.size).toArray,⟨U.take s.size,a,ao⟩,λQ C=>?_⟩;have L:=run_loadCells_list (P:=P) Q ⟨i,h,n⟩ (U.take s.size) (λg r u=>by grind[g0]);rw[ah]at L;simp[loadVar,cK,ae.et,c9,D];simp[ae.a',L]
     obtain⟨r,aB,aE⟩:=aw;refine⟨r::y,⟨aB,af⟩,λQ C=>?_⟩;obtain⟨k1,R⟩:=aL Q C;have aA:(ic V (.cell t w))=loadVar w ⟨i,h,n⟩:=by simp[ic,aG,asAddr]
     refine⟨by grind[Go.Sem.run_bind,Go.Sem.run_pure,Go.Result.andThen_ok],λp z q=>?_⟩;rw[oW,aA]at q;simp[aD,aE Q C,aF,k1,Sem.events_pure]at q;rcases R _ z q with q|q
     .rcases De q with q|q
      .grind
      obtain⟨g,u,rfl⟩:=o5 (aY w s J) (Q:=Q) (j:=c e) (λg u=>⟨X g,C _ _ _ (K g e[g] (bI u))⟩) (by have:=r7 N;grind) z q;exact .inr ⟨i,h+g,X g,a,K g e[g] (bI u)⟩
     grind
theorem oL.fa(aY:bZ P ac){fn}{bf}{o}(t:pq ac F fn.results.toList=f bf)(k:pc bf=f o):oL P fn F o:=by
 intro A B x g r;obtain⟨y,i,j⟩:=DT aY r t;refine⟨_,J4 k i,λe s=>?_⟩;obtain⟨k1,u⟩:=j e s;have h:(fn.results.mapM (ic g)).run P e=Result.ok y.toArray e:=Rn;have q:∀a,∀d∈(fn.results.mapM (ic g)).events P e a,d∈a∨∃m p z,d=⟨.cell ⟨m,p,n⟩,v,v⟩/\x.C m p=f z:=by rw[wX];intro a d b;exact u a d (by simpa using b)
 constructor
 .unfold results;rw[cK];refine(eD (λw=>Result.andThen w _) (Eq.trans ?_ h)).trans ?_
  .congr 2
  simp
 intro d b;have C:d∈(fn.results.mapM (ic g)).events P e #[]:=by unfold results at b;rw[aD]at b;change d∈((fn.results.mapM (ic g)).run P e).evThen ((fn.results.mapM (ic g)).events P e #[]) _ at b;rw[h]at b;simpa using b
 grind
section
variable {p:ah P}
def tt(h:m (Nat×cm))(e:m ResultVar)(b:m Nat)(g:bJ)(a:x):Option (m Prop):=
 match pq h g e with
 |some d=>match pc d with
  |some i=>match hQ (c b) a with
   |true=>ko i (fc b a)
   |false=>n
  |none=>n
 |none=>n
def g.cr(aY:bZ P ac){fn}{d}{res}(aU)(e:tt ac fn.results.toList aU F res=f Y)(o:T Y)(m:dx aU k=f an)(j:l1 an=l)(i:fb aU=l)(h:∀b,b<d->aU[b]?=f b):
  g p E (kZ P fn d res an) (.code .ret::av) .normal F k:=by refine g.ret ⟨.inl a,aU,?_⟩;unfold tt at e;grind[oL.fa]
def Z.bG{i}{fn}{args}{res}(h:P.funcs[i]?=f fn)(e:(fn.name== "runtime.NumGoroutine")=v)(d:fn.body=f r)(m:ay args.length fn.ntmps=l)(o:kA args k->g p fn.ntmps (kZ P fn k.length res an) [.code r] .normal (h4 0 args) k):Z p i args k res an:=by refine⟨⟨fn,h,e,by grind⟩,λj y b a=>?_⟩;have:=bl.je (p:=p) (ι:=Unit) (an:=λ_=>an) (res:=λ_=>res) h e d (fq m) (b0.mono (g.aR (o ⟨j,y,b,a⟩)) λ_ _ _ q=>⟨(),q⟩);exact this.toZ.2 j y b a
def bY.mk{fn}{d}{res}(aU)(e:pr fn.results.toList aU F res=f Y)(m:T Y)(j:dx aU k=f an)(i:l1 an=l)(h:fb aU=l)(g:∀b,b<d->aU[b]?=f b):bY fn d res an .ret F k:=by refine⟨.inl a,aU,?_⟩;unfold pr at e;grind
end
def Gj{t:ah P}{i:aG}{h}{w}{bq}{E}(I:i.kind≠.early)(o:aM[e]?=f q)(W:aS q (yielded aM w.tmps)=l)(F:bb k b)(S:∀u,(ab w.eval q).run P u=.ok (.enter E y.toArray) u)(R:∀u,(ab w.eval q).events P u #[]=#[])(V:bl t E cQ k res aQ)(M:b4 k b y cQ)(N:∀m s g,bv (aQ m) g s (res m)->bb (aQ m) g->de k b (aQ m) g->ce t br (G (i.ab (w.put q.dst s) (.inRegion aM bq::h)) ag) g):
  ce t br (G (i.ab w (.inRegion aM (e::bq)::h)) ag) b:=by
 obtain⟨_,Q⟩:=V;refine .next a λD U=>?_;have C:=t.bI U;have A:=F.rely C;have J:b4 k D y cQ:=M.mono C.aI.ext F.len;refine⟨_,D,_,tC o W I (S D.a),?_,Q _ y J A br _ λm K s T z j d p=>?_⟩
 .refine⟨⟨k,k,A,A,.refl _ _⟩,dv.seen ?_⟩;rw[R];exact .nil
 refine uE (ag:=ag) (r:=i.ab w (.inRegion aM (e::bq)::h)) d z λO x=>?_;have B:=qi (i:=i) (w:=w) (h:=h) aM e bq s;rw[o]at B;simp only[n0]at B;rw[B];exact N m s O (j.mono x.aI.ext d.len) (d.rely x) (C.aI.trans (p.trans x.aI))
def g.cI{t:ah P}{Z:a1}(ae:bl t Z cQ k res aQ)(aH:q.guard=n)(o:q.op=.call {callee:=.value cP,args:=af,argTypes:=ds})(s:g1 (bD F cP)=f (Z,cap))(aB:lW (af.toList.map (bD F)++e' cap) cQ=f Y)(x:T Y)(H:fi E q.dst=l)(aA:∀d,g t E bd (.S all bq::av) .normal (gb q.dst (res d) F) (aQ d)):g t E bd (.S all (q::bq)::av) .normal F k:=by
 intro ai W r e aq Q w ao idx i a C;cases idx with
 |nil=>exact a.elim
 |cons aJ idx=>
 obtain⟨D,a⟩:=a;have ag:=eF r cP;unfold g1 at s;split at s
 case h_2=>cases s
 case h_1 u4 uR he=>
  cases s;rw[he]at ag;have aa:=b6 ag;generalize V:W.eval cP=aw at aa;cases aa with
  |fn z b J m au y ax A aF R=>
   have K:z=[]:=jB J;subst K;have aC:b4 k ai b (e' cap):=p' (λd ar I=>⟨y d,A d M,R d ar I⟩) m;have aE:b4 k ai (af.toList.map W.eval++b) cQ:=s_ aB x ((m1 (eF r) af.toList).append aC);obtain⟨fn,ak,ab,X⟩:=ae.1;refine Gj i D (i_ aH) e (λU=>(mL o ak ab X V U).1) (λU=>(mL o ak ab X V U).2) ae aE λd aK S N j h=>?_;refine aA d S _ ?_ j aq Q w ao idx i a λan O G u aD f3 B p=>C an O G u aD f3 B (h.trans p);have al:=k8 H;cases aI:q.dst with
   |none=>exact r.mono h e.len
   |some aG=>exact(r.mono h e.len).put (al aG aI) N
def L4{k:Type}{d}{D}:∀{a:m Nat}{e h:m k},dx a e=f h->d∉a->dx a (e.set d D)=f h
 |[],e,h,b,_=>b
 |o::a,e,h,b,i=>by
  simp[e8,not_or]at i;simp[dx,ld]at b⊢;rw[j9 i.1];cases g:e[o]? with
  |none=>simp[g]at b
  |some q=>
   simp[g]at b⊢;cases j:dx a e with
   |none=>simp[j]at b
   |some p=>rw[L4 j i.2];simp only[j]at b;exact b
def Kn{h}{d}(b:ei h d=v):h∉d:=λa=>by rw[vu a]at b;cases b
def yG:Option (Tmp×E1)->m ResultVar
 |none=>[]
 |some a=>[.tmp a.1]
def KM(a:m O):Option (Tmp×E1)->x
 |none=>.n (.agg a)
 |some b=>.Q [.agg a,b.2]
def uk(w:m (Nat×cm))(fn:Func)(y:Nat)(b:x)(h:m ap):fw:=λs r d=>
 (s=.ret∨s=.normal)/\∃a o u e t j g i,∃p:Option (Tmp×E1),(∀q,p=f q->look r q.1=.n q.2)/\fn.results.toList=.cell t j::yG p/\bW w j=f g/\g.agg=l/\c e=g.size/\look r t=aI o 0/\d[o]?=f (.cells u e)/\o∉a /\
  ko (KM e p) (fc a b)=f i/\T i/\hQ (c a) b=l/\dx a d=f h/\l1 h=l/\fb a=l/\(∀k,k<y->a[k]?=f k)
def bl.jE{p:ah P}(aY:bZ P ac){a1}{fn}{args}{an:ι->m ap}(o_:P.funcs[a1]?=f fn)(aM:(fn.name== "runtime.NumGoroutine")=v)(cT:fn.body=f r)(bO:args.length<=fn.ntmps)(a3:∀b b7,bX fn.ntmps k b (h4 0 args) b7->bb k b->∀i b' S (aV:ai->a6->Prop),i.kind≠.early->i.roundOf=n ->
  (∀B ae J aB aZ,(∃s,uk ac fn (c k) (res s) (an s) B ae J)->bX fn.ntmps J aB ae aZ->bb J aB->de k b J aB->kI p aV i b' S B aZ aB)->ce p aV (G (i.ab b7 (.code r::b')) S) b):bl p a1 args k res an:=by
 refine⟨⟨fn,o_,aM,by rw[cT];rfl⟩,λb y bQ bL aV S bH=>?_⟩;obtain⟨bN,bK⟩:=b4.get bQ;let i:aG:={fn:=a1,tmps:=#[],todo:=[],defers:=[],mode:=.run,kind:=.normal,roundOf:=n}
 have ca:Frame.enter P a1 y.toArray .normal=i.ab {tmps:=y.toArray++Array.replicate (fn.ntmps-y.toArray.size) I,defers:=[]} [.code r]:=NJ;rw[ca];refine a3 b {tmps:=y.toArray++Array.replicate (fn.ntmps-y.toArray.size) I,defers:=[]} ⟨by simp;omega,⟨[],A⟩,λaI=>?_⟩ bL i [] S aV (by simp[i]) rfl ?_
 .rw[yv];simp only[gZ,dA,sr];have:=bK aI;rcases dW aI (c y) with b_|b9
  .have B:(y.toArray++Array.replicate (fn.ntmps-y.toArray.size) I).getD aI I=(y[aI]?).getD I:=Fy;rw[B];exact this
  rw[wP u];trivial
 .rintro B ae aK e kD ⟨ak,V,aU,d,W,aF,aI,ty,it,Y,q,bS,aQ,aR,tn,DL,bT,bd,bU,bC,bD,bE,a4,a7,bF,cf⟩ f0 N bf;obtain⟨a5,a8⟩:=Lh a7;have O:=f0.ak aI;rw[bT]at O;obtain⟨_,L,d8,E,a_,aN⟩:=O;obtain⟨cc,z,a9,cb,b5,cj⟩:=N.box d _ L bd E;subst a9;cases a_;let cg:Mem:=λx q=>if x=d8 then z[q]? else e.C x q;have bp:∀q t,z[q]?=f t->e.a.cell? ⟨d8,q,n⟩=f t:=λq t bP=>by simpa[aJ,cb]using bP
  have aA:∀x q t,e.C x q=f t->cg x q=f t:=λx q t Z=>by grind
  have ar:∀x q t,cg x q=f t->e.a.cell? ⟨x,q,n⟩=f t:=λx q t Z=>by
   by_cases B:x=d8
   .grind
   simp[cg,B,dm]at Z;exact N.mem x q t Z
  obtain⟨U,H⟩:=N.b4 (cg:=cg) (bg:=e.a) (ec:=.M) (cu:=⟨.pointer (f ⟨d8,0,n⟩),[]⟩) bd E rfl (bA _) (λ_ _ _=>rfl) (λx _ aL q=>by grind) aA ar C rfl rfl rfl A
  have al:eZ e ⟨e.s.set d ⟨.pointer (f ⟨d8,0,n⟩),[]⟩,cg,e.a,e.own⟩:=⟨rfl,aA,λx aL q=>by
   have:x≠d8:=by rintro rfl;exact aL _ (b8 E) C
   simp[cg,this,dm],ar,λx aL=>by grind⟩
  have bz:bX fn.ntmps (aK.set d .M) ⟨e.s.set d ⟨.pointer (f ⟨d8,0,n⟩),[]⟩,cg,e.a,e.own⟩ ae kD:=⟨f0.size,f0.defers.imp λ_ bB=>bB.mono H.ext,λF=>(f0.ak F).mono H.ext N.len⟩
  have af:=L4 (D:=ap.M) a4 bU;have aO:bM (aK.set d .M) ⟨e.s.set d ⟨.pointer (f ⟨d8,0,n⟩),[]⟩,cg,e.a,e.own⟩ z aF:=b5.mono H.ext N.len;have bY:=bf.trans (H.tooQ N);let bo:X:=match q with|none=>.agg z.toArray|some bc=>.tuple #[.agg z.toArray,kD.tmps.getD bc.1 I]
  have b3:∀Q,(∀i q F,cg i q=f F->Q.cell? ⟨i,q,n⟩=f F)->(results fn kD.tmps).run P Q=.ok bo Q/\∀B∈(results fn kD.tmps).events P Q #[],∃i q F,B=⟨.cell ⟨i,q,n⟩,v,v⟩/\cg i q=f F:=by
   intro Q aP;have bq:=aY ty it aR;have aD:c z=it.size:=by rw[b5.cH,DL]
   have aq:∀s t,z[s]?=f t->Q.cell? ⟨d8,0+s,n⟩=f t:=λs t w=>aP _ _ _ M;have a:=run_loadCells_list (P:=P) Q ⟨d8,0,n⟩ z (λs t w=>by rw[g0];exact aq s t w);rw[aD]at a;have ax:(loadVar ty ⟨d8,0,n⟩).run P Q=.ok (.agg z.toArray) Q:=by simp[loadVar,cK,bq.et,c9,tn];simp[bq.a',a]
   have b6:fn.results=(ResultVar.cell aI ty::yG q).toArray:=by apply Array.ext';simpa using aQ
   have b2:asAddr (kD.tmps[aI]?.getD I)=(pure ⟨d8,0,n⟩:Sem Addr):=by rw[<-hA,aN];rfl
   refine⟨by cases q<;>simp[results,b6,b2,ax,bo,yG],λB V=>?_⟩;have a':B∈(loadVar ty ⟨d8,0,n⟩).events P Q #[]:=by cases q<;>simpa[results,b6,b2,ax,yG]using V
   obtain⟨s,w,rfl⟩:=o5 bq (Q:=Q) (j:=c z) (λs w=>⟨_,aq s z[s] (bI w)⟩) (by rw[tn,aD];simp) B a';exact⟨d8,0+s,z[s],rfl,by grind⟩
  have fin:∀o g,cV (⟨e.s.set d ⟨.pointer (f ⟨d8,0,n⟩),[]⟩,cg,e.a,e.own⟩:a6) g->o.fn=a1->o.tmps=kD.tmps->o.defers=kD.defers->o.mode=.returning->o.kind=.normal->ce p aV (G o S) g:=by
   intro o g h bt bu bw a0 bx;have a2:=bz.rely h U;have aS:=U.rely h;have ab:=bY.trans h.aI;have bV:bv (aK.set d .M) g bo (KM aF q):=by
    have aC:=aO.mono h.aI.ext U.len;cases q with
    |none=>exact⟨z,rfl,aC⟩
    |some bc=>
     have ba:=a2.ak bc.1;rw[bS bc rfl]at ba;exact⟨[.agg z.toArray,kD.tmps.getD bc.1 I],rfl,⟨z,rfl,aC⟩,ba,A⟩
   obtain⟨ag,bn⟩:=vS (kM:=g.s) af aS.len;have bW:=(pd bC bD bV).sub af bn bE;obtain⟨cd,bs⟩:=l2 af;obtain⟨d1,d2⟩:=l2 bn;have br:∀L∈ag,L∈g.s:=D1 bn;have au:bb (an ak) {g with s:=ag}:=by obtain⟨T,_⟩:=aS.sub af bn a5 bF;refine⟨T.mem,T.len,λs bm L aH E=>?_,T.a0,T.lt,λi cT=>⟨(aS.own i cT).1,λL E=>(aS.own i cT).2 L (br L E)⟩⟩;exact ew.plain (k:=an ak) (b:={g with s:=ag,own:=ou g ag}) (aB:={g with s:=ag}) rfl rfl (vK a5 bm (b8 aH)) (T.box s bm L aH E)
   have bh:de k b (an ak) {g with s:=ag}:=by refine⟨ab.size,ab.a3,ab.mem,ab.bC,λL E i cT=>ab.bS _ (br L E) i cT,λd bm L aH E=>?_,ab.os,ab.tape,ab.output,ab.own⟩;have bN:d<c k:=(cO.1 aH).1;obtain⟨ec,cu,ck,cl,cm⟩:=ab.box d bm L aH E;grind
   obtain⟨bR,aw⟩:=a2.defers;refine AU bR o g _ aS.dU M a0 (by rw[bw];exact aw.gG aS) λaa R=>?_;have K:cV {g with s:=ag} {aa with s:=ag}:=by
    refine⟨rfl,R.C,R.own,R.size,λi cT=>R.a3 i (cT.imp id ?_),R.mem,R.os,R.tape,R.output⟩;rintro⟨L,E,cT⟩;obtain⟨s,w,rfl⟩:=hn E;have av:s<c aU:=by rw[<-d1];exact w
    obtain⟨cn,bk,b1⟩:=d2 s _ (bI av);obtain⟨D,b0,bj⟩:=bs s _ (bI av);rw[bI w]at bk;cases bk;refine⟨_,_,b1,λbJ=>?_,cT⟩;rw[aw.e6 _ bJ]at bj;cases bj;exact vw a8 _ (b8 b0) rfl
   have bG:eZ aa {aa with s:=ag}:=⟨rfl,λ_ _ _ a3=>a3,λ_ _ _=>rfl,λi q t Z=>R.mem i q t (by rw[<-R.C];exact Z),λi cT=>cT.imp id λ⟨L,E,cT⟩=>⟨L,by rw[R.s];exact br L E,cT⟩⟩
   have ao:g.C=cg:=h.C;refine .aP bG (bH ak _ bo _ ⟨bt,a0,rfl,bx,fn,by grind,λQ aP=>?_⟩ (bW.mono K.aI.ext au.len) (au.rely K) (bh.trans K.aI));show(results fn o.tmps).run P Q=_/\∀B∈(results fn o.tmps).events P Q #[],_;rw[bu];have aE:∀i q F,cg i q=f F->Q.cell? ⟨i,q,n⟩=f F:=λi q F a3=>aP i q F (by show aa.C i q=f F;rw[R.C,ao];exact a3);refine⟨(b3 Q aE).1,λB V=>?_⟩;obtain⟨i,q,F,aQ,aR⟩:=(b3 Q aE).2 B V;exact⟨i,q,F,aQ,by show aa.C i q=f F;rw[R.C,ao];exact aR⟩
  rcases V with rfl|rfl
  .intro pre;exact .aP al (.ctl U rfl (λ_=>D5 rfl) λg h=>fin _ g h rfl rfl (hp _) rfl rfl)
  exact .aP al (.ctl U rfl (λ_=>D3 rfl) λg h=>fin _ g h rfl rfl (hp _) rfl rfl)
def bl.bG{p:ah P}(aY:bZ P ac){i}{fn}{args}{an:ι->m ap}(t:P.funcs[i]?=f fn)(s:(fn.name== "runtime.NumGoroutine")=v)(b:fn.body=f r)(C:ay args.length fn.ntmps=l)(D:kA args k->g p fn.ntmps (λB w h=>∃u,uk ac fn k.length (res u) (an u) B w h) [.code r] .normal (h4 0 args) k):bl p i args k res an:=by refine⟨⟨fn,t,s,by rw[b];rfl⟩,λe y d a=>?_⟩;have:=bl.jE (p:=p) (an:=an) (res:=res) aY t s b (fq C) λI z i o A E j x q _ F=>(show b0 p fn.ntmps r _ (h4 0 args) k from g.aR (D ⟨e,y,d,a⟩)) I z i o A E j x q F;exact this.2 e y d a
def bM.set{k}{b}{i}{aa}:∀{y:m X}{a:m O}{h:Nat},bM k b y a->y[h]?=f aa->cB k b aa i->bM k b y (a.set h i)
 |[],[],_,_,d,_=>by grind
 |[],_::_,_,d,_,_=>d.elim
 |_::_,[],_,d,_,_=>d.elim
 |o::y,j::a,0,d,e,g=>by simp at e;subst e;exact⟨g,d.2⟩
 |o::y,j::a,h+1,d,e,g=>⟨d.1,bM.set d.2 M g⟩
section
variable {p:ah P}
def g.ck(d t)(W h)(b:Nat->m K){eO}{ag}{gk}{aq:Nat->m K}(B:c' d k=f (.cells eO ag))(A:c' t ag=f (.c (.A l gk 0 aq)))(D:g p E bd (.code r::av) .normal F ((k++[ap.w W h 0 b]).set d (.cells eO (ag.set t (.w (c k) h 0 b))))):g p E bd (.code r::av) .normal F k:=by
 refine g.aP (λe ax N bP=>?_) D;have aH:=eo B;have X:=eo A;have G:d<c k:=(cO.1 aH).1;have ai:d<c e.s:=h0;have I:=bI ai;generalize e.s[d]=L at I;obtain⟨w,y,ar,Z,S,U⟩:=bP.box d _ L aH I;obtain⟨i,Y,V⟩:=S.get X;have j:Rd e.C i (.A l h 0 b):=(Rd.fW (h:=gk) (gk:=h) (.inr a) V).cz λR ae=>by omega
 have an:ew (k++[ap.w W h 0 b]) {e with s:=e.s++[⟨i,[]⟩]} (.w W h 0 b) ⟨i,[]⟩:=⟨j.eg,.inl ⟨⟨rfl,rfl⟩,j⟩⟩;obtain⟨H,O⟩:=bP.bY (.refl _ _) rfl bP an C
 have x:(k++[ap.w W h 0 b])[d]?=f (.cells eO ag):=M;have al:(e.s++[(⟨i,[]⟩:Loc)])[d]?=f L:=M;have ah:(e.s++[(⟨i,[]⟩:Loc)]).set d L=e.s++[⟨i,[]⟩]:=mU;have au:fM (.cells eO ag) L (.cells eO (ag.set t (.w (c k) h 0 b))) L:=rfl;have aw:c k≠d:=u;have ab:ew ((k++[ap.w W h 0 b]).set d (.cells eO (ag.set t (.w (c k) h 0 b)))) ⟨(e.s++[(⟨i,[]⟩:Loc)]).set d L,e.C,e.a,e.own⟩ (.cells eO (ag.set t (.w (c k) h 0 b))) L:=by
  rw[ah];refine⟨w,y,ar,Z,?_,U⟩;have z:fp (k++[ap.w W h 0 b]) {e with s:=e.s++[⟨i,[]⟩]} ((k++[ap.w W h 0 b]).set d (.cells eO (ag.set t (.w (c k) h 0 b)))) {e with s:=e.s++[⟨i,[]⟩]}:=by
   refine⟨λ_ _ _ q=>q,λR bT cu Q lP=>?_⟩;by_cases aA:d=R
   .grind
   exact E0
  have aa:bM (k++[ap.w W h 0 b]) {e with s:=e.s++[⟨i,[]⟩]} y ag:=S.mono O.ext bP.len;refine bM.set (aa.mono z H.len) Y ?_;refine⟨j.eg,by simp,λT af ak kJ q=>?_⟩;rw[j9 u,ho u,sw]at q;cases q;refine⟨bA _,λ_=>⟨⟨i,[]⟩,?_,a⟩⟩;exact tY
 obtain⟨aL,J⟩:=H.b4 (cg:=e.C) (bg:=e.a) (cu:=L) x al au (bA _) (λ_ _ _=>rfl) (λ_ _ _ _=>rfl) (λ_ _ _ q=>q) bP.mem (λw s=>⟨.inl s,bP.lt L (b8 I) w s⟩) rfl rfl rfl ab;have o:=O.trans J;exact⟨⟨(e.s++[(⟨i,[]⟩:Loc)]).set d L,e.C,e.a,e.own⟩,a,⟨N.size,N.defers.imp λ_ j=>j.mono o.ext,λao=>(N.ak ao).mono o.ext bP.len⟩,aL,o⟩
end
section
variable {p:ah P}
def g.e_(o)(W h)(dH:Nat->m K){e}{s:Nat->m K}(u:look F o=ax (.A l e 0 s))(i:g p E bd (.code r::av) .normal ((o,cD (c k) (.A 0 h 0 0))::F) (k++[.p W h 0 dH])):g p E bd (.code r::av) .normal F k:=by
 refine g.aP (λj w a bP=>?_) i;have B:=a.ak o;rw[u]at B;obtain⟨t,b⟩:=bP.bY (bT:=.p W h 0 dH) (L:=⟨.slice n 0 0,[]⟩) (.refl _ _) rfl bP (.inl ⟨rfl,rfl⟩) C;refine⟨{j with s:=j.s++[⟨.slice n 0 0,[]⟩]},rfl,⟨a.size,a.defers.imp λ_ d=>d.mono b.ext,λq=>?_⟩,t,b⟩;simp only[look];cases cT:ad o q with
 |false=>exact(a.ak q).mono b.ext bP.len
 |true=>
  exact Qg
def g.ej(d t)(W h)(b:Nat->m K){eO}{ag}{B}{ai:Nat->m K}(A:c' d k=f (.cells eO ag))(z:c' t ag=f (.c (.A l B 0 ai)))(C:g p E bd (.code r::av) .normal F ((k++[ap.p W h 0 b]).set d (.cells eO (ag.set t (.N (c k) (.A 0 h 0 0)))))):g p E bd (.code r::av) .normal F k:=by
 refine g.aP (λe ao J bP=>?_) C;have aH:=eo A;have T:=eo z;have H:d<c k:=(cO.1 aH).1;have ae:d<c e.s:=h0;have I:=bI ae;generalize e.s[d]=L at I;obtain⟨q,y,al,X,O,R⟩:=bP.box d _ L aH I;obtain⟨ar,V,S⟩:=O.get T;let i:Loc:=⟨.slice n 0 0,[]⟩
 obtain⟨N,G⟩:=bP.bY (bT:=.p W h 0 b) (L:=i) (.refl _ _) rfl bP (.inl ⟨rfl,rfl⟩) M;have Q:(k++[ap.p W h 0 b])[d]?=f (.cells eO ag):=M;have af:(e.s++[i])[d]?=f L:=M;have ab:(e.s++[i]).set d L=e.s++[i]:=mU;have x:fM (.cells eO ag) L (.cells eO (ag.set t (.N (c k) (.A 0 h 0 0)))) L:=rfl;have aa:ew ((k++[ap.p W h 0 b]).set d (.cells eO (ag.set t (.N (c k) (.A 0 h 0 0))))) ⟨(e.s++[i]).set d L,e.C,e.a,e.own⟩ (.cells eO (ag.set t (.N (c k) (.A 0 h 0 0)))) L:=by
  rw[ab];refine⟨q,y,al,X,?_,R⟩;have s:fp (k++[ap.p W h 0 b]) {e with s:=e.s++[i]} ((k++[ap.p W h 0 b]).set d (.cells eO (ag.set t (.N (c k) (.A 0 h 0 0))))) {e with s:=e.s++[i]}:=by
   refine⟨λ_ _ _ u=>u,λZ bT L an ak=>?_⟩;by_cases aq:d=Z
   .grind
   exact⟨bT,L,by grind,ak,.refl _ _⟩
  have Y:bM (k++[ap.p W h 0 b]) {e with s:=e.s++[i]} y ag:=O.mono G.ext bP.len;exact bM.set (Y.mono s N.len) V (Dm (W:=W) (U:=b) S M (by simp[<-bP.len,i]))
 obtain⟨aL,D⟩:=N.b4 (cg:=e.C) (bg:=e.a) (cu:=L) Q af x (bA _) (λ_ _ _=>rfl) (λ_ _ _ _=>rfl) (λ_ _ _ u=>u) bP.mem (λq o=>⟨.inl o,bP.lt L (b8 I) q o⟩) rfl rfl rfl aa;have j:=G.trans D;exact⟨⟨(e.s++[i]).set d L,e.C,e.a,e.own⟩,a,⟨J.size,J.defers.imp λ_ w=>w.mono j.ext,λah=>(J.ak ah).mono j.ext bP.len⟩,aL,j⟩
end
def h':Nat->(Nat->m K)->Nat->m K
 |0,a=>a
 |b+1,a=>fs (b+1) a
def yI(q)(a:Nat->m K)(e):h' q a e=a (q+e):=by cases q<;>simp[h',fs]
def xA(h g j:Nat)(b:Nat->m K)(a:O):Option (O×m Prop):=match lU h a with
 |true=>f (a,[])
 |false=>match a with
  |.N e (.A o d k i)=>match ad e h,ad d g with
   |true,l=>f (.c (.A v g i (h' k b)),[o=j,k+i<=j])
   |_,_=>n
  |_=>n
def xC(g e h:Nat)(a:Nat->m K):m O->Option (m O×m Prop)
 |[]=>f ([],[])
 |i::o=>match xA g e h a i with
  |some (b,j)=>match xC g e h a o with
   |some (d,k)=>f (b::d,gM j k)
   |none=>n
  |none=>n
def uU(h g i:Nat)(b:Nat->m K):E1->Option (E1×m Prop)
 |.R d=>match xA h g i b d with|some (d,e)=>f (.R d,e)|none=>n
 |.agg a=>match xC h g i b a with|some (a,e)=>f (.agg a,e)|none=>n
def xB(g e h:Nat)(a:Nat->m K):m E1->Option (m E1×m Prop)
 |[]=>f ([],[])
 |i::o=>match uU g e h a i with
  |some (b,j)=>match xB g e h a o with
   |some (d,k)=>f (b::d,gM j k)
   |none=>n
  |none=>n
def uT(h g i:Nat)(b:Nat->m K):x->Option (x×m Prop)
 |.n e=>match uU h g i b e with|some (e,d)=>f (.n e,d)|none=>n
 |.Q a=>match xB h g i b a with|some (a,d)=>f (.Q a,d)|none=>n
 |.any=>f (.any,[])
section
variable {aQ:m ap}{b3:a6}{W h:Nat}
structure mW(aQ:m ap)(W h j:Nat)(U:Nat->m K)(b b3:a6):Prop where
 a3:∀aa w,cB (aQ++[.p W h j U]) b aa w->lU (c aQ) w=l->cB aQ b3 aa w
 e0:∀aa gk q z,cB (aQ++[.p W h j U]) b aa (.N (c aQ) (.A j gk q z))->gk=h->q+z<=j->Rd b3.C aa (.A v h z (h' q U))
def mW.cO(m:mW aQ W h j U b b3){aa}{w i}{Y}(g:xA (c aQ) h j U w=f (i,Y))(p:T Y)(o:cB (aQ++[.p W h j U]) b aa w):cB aQ b3 aa i:=by
 unfold xA at g;split at g
 .rename_i r;cases g;exact m.a3 aa w o r
 split at g
 .rename_i t B s q z _;split at g
  .rename_i d e;cases g;have d:=dn d;have e:=dn e;subst d e;obtain⟨rfl,k⟩:B=j/\q+z<=j:=p;exact m.e0 aa _ _ _ o a k
  grind
 grind
def mW.fv(o:mW aQ W h j U b b3):∀{y:m X}{d a:m O}{e:m Prop},xC (c aQ) h j U d=f (a,e)->T e->bM (aQ++[.p W h j U]) b y d->bM aQ b3 y a
 |[],[],_,_,g,_,_=>by cases g;trivial
 |[],_::_,_,_,_,_,i=>i.elim
 |_::_,[],_,_,_,_,i=>i.elim
 |u::y,r::d,a,e,g,k,i=>by
  simp[xC]at g;split at g
  .rename_i p s c5;split at g
   .rename_i q t dt;cases g;rw[T.Z]at k;exact⟨o.cO c5 k.1 i.1,o.fv dt k.2 i.2⟩
   grind
  grind
def mW.n(k:mW aQ W h j U b b3){e i}(a:uU (c aQ) h j U e=f (i,Y))(g:T Y)(m:ey (aQ++[.p W h j U]) b aa e):ey aQ b3 aa i:=by
 cases e with
 |R s=>
  simp[uU]at a;split at a
  .rename_i d r c5;cases a;exact k.cO c5 g m
  grind
 |agg o=>
  simp[uU]at a;split at a
  .rename_i d r c5;cases a;obtain⟨y,q,p⟩:=m;exact⟨y,q,k.fv c5 g p⟩
  grind
def mW.g2(o:mW aQ W h j U b b3):∀{y:m X}{d a:m E1}{e:m Prop},xB (c aQ) h j U d=f (a,e)->T e->eV (aQ++[.p W h j U]) b y d->eV aQ b3 y a
 |[],[],_,_,g,_,_=>by cases g;trivial
 |[],_::_,_,_,_,_,i=>i.elim
 |_::_,[],_,_,_,_,i=>i.elim
 |u::y,r::d,a,e,g,k,i=>by
  simp[xB]at g;split at g
  .rename_i p s c5;split at g
   .rename_i q t dt;cases g;rw[T.Z]at k;exact⟨o.n c5 k.1 i.1,o.g2 dt k.2 i.2⟩
   grind
  grind
def mW.c'(i:mW aQ W h j U b b3){d r}(a:uT (c aQ) h j U d=f (r,Y))(g:T Y)(k:bv (aQ++[.p W h j U]) b aa d):bv aQ b3 aa r:=by
 cases d with
 |n d=>
  simp[uT]at a;split at a
  .rename_i e p c5;cases a;exact i.n c5 g k
  grind
 |Q q=>
  simp[uT]at a;split at a
  .rename_i e p c5;cases a;obtain⟨y,o,m⟩:=k;exact⟨y,o,i.g2 c5 g m⟩
  grind
 |any=>cases a;trivial
def bb.e0(o:bb (aQ++[.p W h j U]) b)(au:km (c aQ) aQ=l):
  ∃z:a6,bb aQ z/\eZ b z/\mW aQ W h j U b z/\∀{s:m ap} {R:a6},de s R (aQ++[.p W h j U]) b->s.length<=c aQ->de s R aQ z:=by
 have aH:(aQ++[ap.p W h j U])[c aQ]?=f (.p W h j U):=C;have G:c b.s=c aQ+1:=by rw[o.len];simp
 have X:b.s[c aQ]?=f b.s[c aQ]:=bI u;generalize b.s[c aQ]=L at X;have aG:=o.box _ _ L aH X;obtain⟨cg,ak,K,x,aA⟩:∃cg:Mem,(∀i d g,b.C i d=f g->cg i d=f g)/\(∀i,i∉L.aj->∀d,cg i d=b.C i d)/\(∀i d g,cg i d=f g->b.a.cell? ⟨i,d,n⟩=f g) /\
   (∀g e d B,cB (aQ++[.p W h j U]) b g (.N (c aQ) (.A j e d B))->e=h->d+B<=j->Rd cg g (.A v h B (h' d U))):=by
  rcases aG with⟨rfl,rfl⟩|⟨i,aB,y,aM,rfl,br,aO,ac,E,H,aE⟩
  .refine⟨b.C,λ_ _ _ aD=>aD,λ_ _ _=>rfl,o.mem,λg e d B Q F aa=>?_⟩;obtain⟨ae,⟨ao,Z,S,aB,J,T,ab,ax,ar,av⟩,_,al⟩:=Q;grind[Rd.dJ]
  let cg:Mem:=λr d=>if r=i then y[d]? else b.C r d;have an:∀r d g,b.C r d=f g->cg r d=f g:=λr d g J=>by grind
  refine⟨cg,an,λr aN d=>M,λr d g J=>?_,λg e d B Q F aa=>?_⟩
  .by_cases F:r=i
   .subst F;simp[cg,dA]at J;simp[aJ,br];grind
   simp[cg,F,dm]at J;exact o.mem r d g J
  subst F;obtain⟨ae,⟨ao,Z,S,aC,J,T,ab,ax,ar,av⟩,_,al⟩:=Q;obtain⟨cu,Y,aq⟩:=(al _ _ _ _ aH).2 rfl;rw[X]at Y;cases Y;rw[ar]at aq;cases aq;rw[J];have O:∀q,q<B->∀w D,(h' d U q)[w]?=f D->∃ah,y[(d+q)*e+w]?=f ah/\Rd b.C ah D:=λq t w D p=>by rw[yI]at p;exact H.rd (d+q) u w D p
  refine .A i (d*e) (λq w=>(y[(d+q)*e+w]?).getD I) T u C (λq t=>by rw[yI];exact H.bF _ u) (λaF=>M) (λq t w D p=>M) (λq t w D p=>?_);obtain⟨ah,aw,aL⟩:=O q t w D p;rw[aw];exact aL.mono an
 have aI:(aQ++[ap.p W h j U]).set (c aQ) .M=aQ++[.M]:=C;obtain⟨ai,N⟩:=o.b4 (cg:=cg) (bg:=b.a) (ec:=.M) (cu:=⟨L.v,[]⟩) aH X A (bA _) (λ_ _ _=>rfl) (λi _ k d=>K i k d) ak x C rfl rfl rfl A;rw[aI]at ai N;have af:=ai.drop (bq:=[.M]) au;refine⟨_,af,⟨a,ak,λi k d=>K i (k L (b8 X)) d,x,λi k=>?_⟩,⟨λg ao Q aK=>?_,λg e d B Q F aa=>aA g e d B Q F aa⟩,λ{s R} ag V=>(ag.trans (N.tooQ o)).drop (bq:=[.M]) V⟩
 .rcases k with k|⟨cu,Y,k⟩
  .exact .inl k
  have:=gY Y;grind
 exact(Q.mono N.ext o.len).drop (bq:=[.M]) aK
end
def bl.bL{C:ah P}{D}{args}{b:ι->x}{aQ:ι->m ap}{W h}{j:ι->Nat}{U:ι->Nat->m K}(E:bl C D args k res (λa=>aQ a++[.p W h (j a) (U a)])){i:ι->m Prop}(N:∀a,uT (c (aQ a)) h (j a) (U a) (res a)=f (b a,i a))(M:∀a,T (i a))(J:∀a,km (c (aQ a)) (aQ a)=l)(I:∀a,c k<=c (aQ a)):bl C D args k b aQ:=by refine⟨E.1,λO y z u F r t=>E.2 O y z u F r λa s R Q w d g B=>?_⟩;obtain⟨A,o,e,p,q⟩:=g.e0 (J a);exact .aP e (t a s R A (w.mono e.mem) (p.c' (N a) (M a) d) o (q B (I a)))
def Z.bL{P:aE}{b:ah P}{d}{args}{k}{res a}{aQ}{W h j}{U:Nat->m K}(p:Z b d args k res (aQ++[.p W h j U])){Y}(o:uT (c aQ) h j U res=f (a,Y))(i:T Y)(g:km (c aQ) aQ=l)(e:c k<=c aQ):Z b d args k a aQ:=
 (bl.bL (ι:=Unit) p.tocH (λ_=>o) (λ_=>i) (λ_=>g) (λ_=>e)).toZ
section
def X8{b:ae}(s:q.op=.call {callee:=.builtin .clear,args:=#[b],argTypes:=#[o]})(a:ae->X):
  ab a q=(do pure (.value (<-Builtin.clear_ #[o] q.type #[a b]))):=RB
def Nz{a:X}{b}{h}(k:a.cells.toList.map k0=b.map f)(e:c b=h):eU bz h z (λ_=>b) (Builtin.zeroCells a.cells z).toList:=by
 have j:a.cells.size=h:=by have:=eD List.length k;grind
 have r:bM [] ⟨[],bz,default,λ_=>False⟩ a.cells.toList (b.map O.c):=ui k;refine⟨by simp[Builtin.zeroCells,j],λ_ _=>e,λg d t o B=>?_⟩;have y:t<h:=M;obtain⟨i,x,s⟩:=r.get (t:=t) (w:=O.c o) M;refine⟨i,?_,s⟩;have q:g*h+t<z*h:=by
  have:g*h+h<=z*h:=by rw[<-oU];exact g7 h d
  omega
 have m:(g*h+t) % h=t:=by grind[Nat.add_mul_mod_self_right,Nat.mod_eq_of_lt]
 have A:t<a.cells.size:=u;have C:a.cells[t]=i:=M;have p:a.cells[t]! = i:=M;simp[Builtin.zeroCells,j,q,m,p]
def a0.eX(aY:bZ P ac){I:ae}(aQ:q.op=.call {callee:=.builtin .clear,args:=#[I],argTypes:=#[o]}){e}(T:bW ac o=f e)(aM:e.desc=.slice W)(R:bW ac W=f a4){b}{x}(aa:η I=cD d (.A j a4.size b z))(r:k[d]?=f (.p x a4.size j U))(al:b+z<=j):
  a0 P q η k .any (k.set d (.p x a4.size j (nK b (b+z) a4.zero U))):=by
 intro s ak p X;have m:=X I;rw[aa]at m;change cB k s (ak I) (.N d _)at m;obtain⟨aS,⟨au,aN,ax,aP,Z,aB,aC,aE,aL,aJ⟩,_,G⟩:=m;obtain⟨L,J,ag⟩:=(G _ _ _ _ r).2 rfl;rw[aL]at ag;have B:=(aY o e T).ec;rw[aM]at B;rw[X8 aQ,Z];by_cases V:z=0
 .subst V;have ab:nK b (b+0) a4.zero U=U:=by funext t;simp only[nK];grind
  have Y:k.set d (.p x a4.size j U)=k:=mU;rw[ab,Y];refine⟨.value (.tuple #[]),s,?_,A,p,.refl _ _,?_⟩
  .cases au<;>simp[Builtin.clear_,run_underlying B]
  intro i g;cases au<;>simp[Builtin.clear_,run_underlying B,aD]at g
 obtain⟨aw,rfl,rfl⟩:=aJ u;rcases p.box d _ L r J with⟨_,rfl⟩|⟨aO,g9,y,E,rfl,N,aI,av,aK,ar,an⟩
 .cases ag
 cases ag;obtain⟨aH,h,aq,aU,aV,ao,ai,aZ,a⟩:=(aY W a4 R).cW;have af:=Nz (bz:=s.C) (z:=z) ai a;have a1:=af.len;have aG:=ar.len;have aR:b*a4.size+z*a4.size<=j*a4.size:=by rw[<-jD];exact g7 _ al
 have D:=ar.hP af al;have S:(λe=>if b<=e/\e<b+z then(λ_=>a4.zero) (e-b)else U e)=nK b (b+z) a4.zero U:=rfl;rw[S]at D;obtain⟨ah,t2⟩:=p.gD r J aI av aK N D M an;have aA:=af.cell;have Q:=run_storeCells_at P aw (b*a4.size) x (Builtin.zeroCells h.cells z).toList 0 (y++E).toArray s.a N M aA;have K:((y++E).toArray.toList.take (b*a4.size+0)++(Builtin.zeroCells h.cells z).toList++(y++E).toArray.toList.drop (b*a4.size+0+(Builtin.zeroCells h.cells z).toList.length))=y.take (b*a4.size)++(Builtin.zeroCells h.cells z).toList++y.drop (b*a4.size+(Builtin.zeroCells h.cells z).toList.length)++E:=M;rw[K]at Q;have O:∀w,(zeroValue W).run P w=.ok h w:=λw=>by simp[zeroValue,typeInfo,aq,ao]
 have H:∀w U,(zeroValue W).events P w U=U:=λw U=>by simp[zeroValue,typeInfo,aq,ao,aD]
 obtain⟨F,rfl⟩:∃F,z=F+1:=⟨z-1,by omega⟩
 refine⟨.value (.tuple #[]),_,?_,A,ah,t2,?_⟩
 .simp[Builtin.clear_,run_underlying B,O,Q]
 intro i g;have aT:i∈(storeCells ⟨aw,b*a4.size,n⟩ (Builtin.zeroCells h.cells (F+1)).toList).events P s.a #[]:=by simp only[Builtin.clear_,aD,j8,mf]at g;simpa[run_underlying B,O,H,Q]using g
 rcases nd (Builtin.zeroCells h.cells (F+1)).toList 0 (y++E).toArray s.a #[] N M aA i aT with aF|⟨t,_,_,rfl⟩
 .grind
 exact n_ (b8 J) C (an _)
end
section
variable {p:ah P}
theorem g.hf{h}(K:∀e i,bX E k e F i->bb k e->∃a:a6,a.a=e.a/\bX E an a h i/\bb an a/\cN k e an a)(N:g p E bd (.S all bq::av) .normal h an):g p E bd (.S all bq::av) .normal F k:=by intro e i M b C w q B idx u d t;obtain⟨a,J,D,z,y⟩:=K e i M b;have A:=y.tooQ b;refine .aP (.of b z J A) ?_;exact N a i D z C w q B idx u d λI m x o O r s j=>t I m x o O r s (A.trans j)
def g.dI(o)(W h)(dH:Nat->m K){e}{r:Nat->m K}(t:look F o=ax (.A l e 0 r))(i:g p E bd (.S all bq::av) .normal ((o,cD (c k) (.A 0 h 0 0))::F) (k++[.p W h 0 dH])):g p E bd (.S all bq::av) .normal F k:=by
 refine g.hf (λj u a bP=>?_) i;have B:=a.ak o;rw[t]at B;obtain⟨s,b⟩:=bP.bY (bT:=.p W h 0 dH) (L:=⟨.slice n 0 0,[]⟩) (.refl _ _) rfl bP (.inl ⟨rfl,rfl⟩) C;refine⟨{j with s:=j.s++[⟨.slice n 0 0,[]⟩]},rfl,⟨a.size,a.defers.imp λ_ d=>d.mono b.ext,λq=>?_⟩,s,b⟩;simp only[look];cases cT:ad o q with
 |false=>exact(a.ak q).mono b.ext bP.len
 |true=>
  exact Qg
def g.en(aY:bZ P ac){x:ae}{B t}(Q:q.op=.binOp .eql o x (.const (.slice n B t)) ty){e}(D:bW ac o=f e)(ak:e.desc=.slice W){eN}{h}(V:bD F x=ax (.A eN h j U))(X:q.guard=n)(K:fi E q.dst=l)(J:∀i:Bool,(i=l->j=0)->g p E bd (.S all bq::av) .normal (gb q.dst (ax (.bool i)) F) k):g p E bd (.S all (q::bq)::av) .normal F k:=by
 refine g.cC (ι:={i:Bool // i=l->j=0}) (λi=>ax (.bool i.1)) (λ_=>k) X K (λr N T C=>?_) λi=>J i.1 i.2;have w:=eF T x;rw[V]at w;obtain⟨b,d,y,w,_,_,_,_,I⟩:=(b6 w).b0;have A:=(aY o e D).ec;rw[ak]at A;have S:=b6 (by have:=eF T x;rw[V]at this;exact this);have ai:b.isNone=l->j=0:=by
  intro ag;rw[w]at S;cases S with
  |A i R al an aa ah af Z I m=>
   grind
 refine⟨⟨b.isNone,ai⟩,.value (.bool b.isNone),r,.bool b.isNone,?_,.inl a,Rd.bool,C,.refl _ _,?_⟩
 .have m:(binOp .eql o (.slice b j d) (.slice n B t)).run P r.a=.ok (.bool b.isNone) r.a:=Go.Lib.run_eql_slice_nil r.a o W b j d B t A;have M:∀z,eqGuard .eql o x z (.slice b j d) (.slice n B t)=pure ():=λz=>by simp[eqGuard]
  have u:N.eval (.const (.slice n B t))=.slice n B t:=rfl;simp[ab,Q,w,u,M];simp[m]
 have O:∀U,(Op.equal o (.slice b j d) (.slice n B t)).events P r.a U=U:=λU=>by show(aN (9999+1) o _ _).events P r.a U=U;unfold aN;cases b<;>simp[underlying,A]
 have m:(Op.equal o (.slice b j d) (.slice n B t)).run P r.a=.ok b.isNone r.a:=by show(aN (9999+1) o _ _).run P r.a=_;grind[Go.Lib.run_equalIn_slice_nil]
 have M:∀z,eqGuard .eql o x z (.slice b j d) (.slice n B t)=pure ():=λz=>by simp[eqGuard]
 have u:N.eval (.const (.slice n B t))=.slice n B t:=rfl;intro Y s;exfalso;simp[ab,Q,w,u,M,binOp]at s;simp[m,O,aD]at s
end
def fY(a:m UInt8):m X:=a.map λb=>.int .u8 b.toNat
theorem M6{af}:c (fY af)=c af:=by simp[fY]
def adw{af i}:fY (af++i)=fY af++fY i:=by simp[fY]
def jG(b:Option (Nat×Nat))(e:Nat):X:=match b with|none=>.slice n 0 0|some (d,a)=>.slice (f ⟨d,0,n⟩) e a
def eJ(r q:al)(s:Bool)(h:X)(i:Option (Nat×Nat))(b:m UInt8)(o:Nat):X->(Nat->Option Obj)->Prop:=λp d=>
 ∃g,p=.pointer (f ⟨g,0,n⟩)/\dS h=l/\d g=f (.cells #[if s then p else .pointer n,h] r (0,0)) /\
 match i with
 |none=>b=[]/\∀e,(d e).isSome=l↔e=g
 |some (j,a)=>j≠g/\c b<=a/\0<a/\a<=9223372036854775807/\o<=c b/\(∃k,c (fY b++k)=a/\d j=f (.cells (fY b++k).toArray q (0,o)))/\∀e,(d e).isSome=l↔e=g∨e=j
section
variable {p:ah P}{h:m (Nat×cm)}{ac:al}{w:Bool}{v1:X}{bO:Option (Nat×Nat)}{af:m UInt8}{ak:Nat}
structure mV(P:aE)(k:m ap)(b:a6)(d:Nat)(ac W:al)(w:Bool)(v1:X)(bO:Option (Nat×Nat))(af:m UInt8)(ak:Nat)(L:Loc)(i:Nat)(cJ:Nat->Option Obj):Prop where
 s:b.s[d]?=f L
 v:L.v=.pointer (f ⟨i,0,n⟩)
 gg:eJ ac W w v1 bO af ak L.v cJ
 heap:∀(i:Nat) (q:Obj),cJ i=f q->b.a.heap[i]?=f q
 aj:∀i,i∈L.aj↔(cJ i).isSome=l
 C:∀i∈L.aj,∀q,b.C i q=n
 cJ:cJ i=f (.cells #[if w then L.v else .pointer n,v1] ac (0,0))
 cell:dS v1=l
def eJ.row(bP:bb k b)(m:k[d]?=f (.J (eJ ac W w v1 bO af ak))):∃L e a,mV P k b d ac W w v1 bO af ak L e a:=by have p:d<c b.s:=h0;have g:=bI p;generalize b.s[d]=L at g;obtain⟨a,o,h,i,s⟩:=bP.box d _ L m g;have q:=o;obtain⟨e,r,t,j,_⟩:=q;exact⟨L,e,a,g,r,o,h,i,s,j,t⟩
def mV.mem{L}(a:mV P k b d ac W w v1 bO af ak L i k5):i∈L.aj:=(a.aj i).2 (by rw[a.cJ];rfl)
def mV.ptr{L}(g:mV P k b d ac W w v1 bO af ak L i k5)(h:bv k b aa (aI d off)):aa=.pointer (f ⟨i,off,n⟩):=by obtain⟨_,j,m,a,e,rfl⟩:=(h:cB k b aa (.ptr d off));rw[g.s]at a;cases a;rw[g.v]at e;grind
def A0(aY:bZ P h){r:ae}{e}(x:q.op=.load o r)(p:bW h o=f e)(C:e.agg=v)(K:k[d]?=f (.J (eJ ac W w v1 bO af ak))){u}(E:η r=aI d off)(O:∀a L b g,bb k a->mV P k a d ac W w v1 bO af ak L b g->∃m,(#[if w then L.v else .pointer n,v1]:Array X)[off]?=f m/\bv k a m u):a0 P q η k u k:=by
 refine .du λa s B G=>?_;obtain⟨L,b,g,i⟩:=eJ.row (P:=P) B K;have A:=i.ptr (by have:=G r;rwa [E]at this);obtain⟨m,H,Q⟩:=O a L b g B i;have I:a.a.cell? ⟨b,off,n⟩=f m:=by simp only[aJ,i.heap _ _ i.cJ];grind
 have t:(loadVar o ⟨b,off,n⟩).run P a.a=.ok m a.a:=by simp[loadVar,(aY o e p).et,C,run_load,I]
 refine⟨m,by simp[ab,x,A,Instr.loadAt,Instr.sureAddr,t],Q,λz y=>?_⟩;have N:z∈(loadVar o ⟨b,off,n⟩).events P a.a #[]:=by
  have F:ab s q=(do pure (.value (<-loadVar o ⟨b,off,n⟩))):=by simp[ab,x,A,Instr.loadAt,Instr.sureAddr]
  rw[F]at y;simpa[t]using y
 obtain⟨J,D,rfl⟩:=o5 (aY o e p) (j:=1) (λJ D=>by grind) M z N;exact qf (b8 i.s) i.mem
def a0.eQ(aY:bZ P h){g:ae}{e}(p:q.op=.load o g)(a:bW h o=f e)(i:e.agg=v)(b:k[d]?=f (.J (eJ ac W w v1 bO af ak)))(m:η g=aI d 1):a0 P q η k (cM v1) k:=
 A0 aY p a i b m λu L t j r s=>⟨v1,by simp,Rd.val s.cell⟩
def ZP(e:k[d]?=f (.J H)):∀a,k[d]?=f a->a.dH=v:=by intro a b;rw[e]at b;cases b;rfl
def a0.gM(aY:bZ P h){i:ae}{e}(s:q.op=.load o i)(b:bW h o=f e)(m:e.agg=v)(a:k[d]?=f (.J (eJ ac W l v1 bO af ak)))(r:η i=aI d 0):a0 P q η k (aI d 0) k:=
 A0 aY s b m a r λu L j p t g=>⟨L.v,by simp,ZP a,L,j,g.s,g.v,g.v⟩
def a0.iu(aY:bZ P h){g:ae}{e}(p:q.op=.load o g)(a:bW h o=f e)(j:e.agg=v)(b:k[d]?=f (.J (eJ ac W v v1 bO af ak)))(m:η g=aI d 0):a0 P q η k (ax .bp) k:=
 A0 aY p a j b m λu L s i r t=>⟨.pointer n,by simp,Rd.bp⟩
def setRow_size(a:ar)(i)(row):(a.setRow i row).heap.size=a.heap.size:=by simp[World.setRow]
def GD(aY:bZ P h){D p:ae}{e}(Z:q.op=.store o D p)(A:bW h o=f e)(x:e.size=1)(V:k[d]?=f (.J (eJ ac W w v1 bO af ak))){r}{t}(R:η D=aI d off)(Q:off<2)(J:dS t=l)(ao:∀m L i s z,bb k m->mV P k m d ac W w v1 bO af ak L i s->bv k m z (η p)->dS z=l/\(#[if w then L.v else .pointer n,v1]:Array X).setIfInBounds off z=#[if r then L.v else .pointer n,t]):a0 P q η k .any (k.set d (.J (eJ ac W r t bO af ak))):=by
 intro m b I Y;obtain⟨L,i,s,j⟩:=eJ.row (P:=P) I V;have G:=j.ptr (by have:=Y D;rwa [R]at this);obtain⟨K,H⟩:=ao m L i s (b p) I j (Y p);have ag:(b p).cells=#[b p]:=by cases F:b p<;>simp[F,dS,Value.cells]at K⊢
 have ai:∀z∈[b p],z.oneCell'=l:=by intro z G;simp at G;subst G;cases F:b p<;>simp[F,dS,Value.oneCell']at K⊢
 have S:=j.heap _ _ j.cJ;have T:=run_storeCells_at P i off ac [b p] 0 _ m.a S M ai;have O:((#[if w then L.v else .pointer n,v1]:Array X).toList.take (off+0)++[b p]++(#[if w then L.v else .pointer n,v1]:Array X).toList.drop (off+0+[b p].length)).toArray=#[if r then L.v else .pointer n,t]:=by
  rw[<-H]
  match off,Q with
  |0,_=>grind
  |1,_=>grind
 rw[O]at T;have ax:(m.a.setRow i #[if r then L.v else .pointer n,t]).heap[i]?=f (.cells #[if r then L.v else .pointer n,t] ac (0,0)):=setRow_heap m.a i _ _ ac _ S;have ah:∀g,g≠i->(m.a.setRow i #[if r then L.v else .pointer n,t]).heap[g]?=m.a.heap[g]?:=λg y=>setRow_other m.a i g _ y;obtain⟨C,t2⟩:=I.b6 (d:=d) (j1:=eJ ac W r t bO af ak) (cu:=L) (bg:=m.a.setRow i #[if r then L.v else .pointer n,t]) V j.s rfl (by rw[setRow_size];grind)
  (λg y N=>ah g (by rintro rfl;exact N j.mem)) (λg y=>.inl y)
  ⟨λg=>if g=i then f (.cells #[if r then L.v else .pointer n,t] ac (0,0))else s g,by
   obtain⟨E,U,ar,au,av⟩:=j.gg;have:E=i:=by rw[j.v]at U;grind
   subst this;have aw:∀g,(if g=E then f (Obj.cells #[if r then L.v else .pointer n,t] ac (0,0))else s g).isSome=l↔(s g).isSome=l:=M;refine⟨E,U,J,by simp,?_⟩;grind,λg aq y=>by
   by_cases u:g=i
   .grind
   .simp only[u,dm]at y;rw[ah g u];exact j.heap _ _ y,λg=>by
   rw[j.aj g];by_cases u:g=i
   .subst u;simp[j.cJ]
   grind⟩ a a a
 have al:m.s.set d L=m.s:=by
  apply pZ;intro aa;by_cases u:d=aa
  .subst u;rw[iq (cO.1 j.s).1,j.s]
  grind
 rw[al]at C t2;refine⟨.skip,{m with a:=m.a.setRow i #[if r then L.v else .pointer n,t]},?_,rfl,C,t2,?_⟩
 .simp[ab,Z,G,Instr.storeAt,Instr.sureAddr,storeVar,(aY o e A).a',x,ag,T]
 intro aL B;have u:ab b q=(do storeVar o ⟨i,off,n⟩ (b p);pure .skip):=by simp[ab,Z,G,Instr.storeAt,Instr.sureAddr]
 rw[u]at B;have an:aL∈(storeCells ⟨i,off,n⟩ [b p]).events P m.a #[]:=by
  simp only[storeVar,aD,(aY o e A).a',ag,x,aF,events_sizeOf,d6,hB,dm,cK,c9,Sem.events_pure,List.size_toArray,gh]at B;generalize(storeCells ⟨i,off,n⟩ [b p]).run P m.a=j at B;cases j with
  |ok z bg=>simpa using B
  |halt D bg=>simpa using B
 rcases nd [b p] 0 _ m.a #[] S M ai aL an with aA|⟨aa,_,_,rfl⟩
 .grind
 exact n_ (b8 j.s) j.mem (j.C _ j.mem _)
def a0.gf(aY:bZ P h){i j:ae}{e}(s:q.op=.store o i j)(a:bW h o=f e)(p:e.size=1)(b:k[d]?=f (.J (eJ ac W w v1 bO af ak))){r}(z:η i=aI d 1)(x:η j=cM r)(y:dS r=l):a0 P q η k .any (k.set d (.J (eJ ac W w r bO af ak))):=
 GD aY s a p b z u y λC L A m D t B g=>by rw[x]at g;have:=Rd.ba g;grind
def a0.iv(aY:bZ P h){m p:ae}{e}(x:q.op=.store o m p)(b:bW h o=f e)(r:e.size=1)(g:k[d]?=f (.J (eJ ac W w v1 bO af ak)))(A:η m=aI d 0)(t:η p=aI d 0)(z:dS v1=l):a0 P q η k .any (k.set d (.J (eJ ac W l v1 bO af ak))):=
 GD aY x b r g A u z λC L B s D y j i=>by rw[t]at i;have:=j.ptr i;subst this;refine⟨a,?_⟩;rw[<-j.v];rfl
def a0.ij{ac}(p:q.op=.alloc ac)(r:∀j,(zeroValue ac).run P j=.ok (.agg #[.pointer n,.slice n 0 0]) j)(u:∀j g,(zeroValue ac).events P j g=g):a0 P q η k (aI (c k) 0) (k++[.J (eJ ac W v (.slice n 0 0) n [] 0)]):=by
 intro b A bP w;let bg:=b.a.alloc (.cells #[.pointer n,.slice n 0 0] ac);obtain⟨y,x⟩:=bP.cn (cg:=b.C) (bg:=bg) (by simp[bg]) (λt h=>iX b.a _ h) (λ_ _ _=>rfl) (λt h q z e=>by have:=bP.block e;omega) rfl rfl rfl;have C:bg.heap.size=b.a.heap.size+1:=by simp[bg]
 have B:bg.heap[b.a.heap.size]?=f (.cells #[.pointer n,.slice n 0 0] ac (0,0)):=lS b.a _;obtain⟨o,t2⟩:=y.bY x rfl bP (bT:=.J (eJ ac W v (.slice n 0 0) n [] 0)) (L:=⟨.pointer (f ⟨b.a.heap.size,0,n⟩),[b.a.heap.size]⟩)
  ⟨λd=>if d=b.a.heap.size then f (.cells #[.pointer n,.slice n 0 0] ac (0,0))else n,⟨b.a.heap.size,rfl,rfl,by simp,rfl,λd=>by by_cases m:d=b.a.heap.size<;>simp[m]⟩,λd s i=>by
   grind,λd=>by by_cases m:d=b.a.heap.size<;>simp[m],λd i s=>by
   simp at i;subst i;show b.C _ _=n;cases e:b.C b.a.heap.size s with
   |none=>rfl
   |some z=>have:=bP.block e;omega⟩ (λd i=>by grind)
 refine⟨.value (.pointer (f ⟨b.a.heap.size,0,n⟩)),_,?_,⟨by simp,⟨.pointer (f ⟨b.a.heap.size,0,n⟩),[b.a.heap.size]⟩,b.a.heap.size,?_,a,a⟩,o,t2,?_⟩
 .simp[ab,p,Instr.alloc,r,Go.newVar,newRow,Value.cells,bg]
 .exact tY
 simp[ab,p,Instr.alloc,r,u,Go.newVar,newRow];exact .nil
end
end Go.AM
