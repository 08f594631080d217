/- Part 2. No condition. -/
import Derived.Test.YtkpmoikakakhkaaGreatDoorA1
import Derived.KernelRfl
import Derived.Test.YtkpmoikakakhkaaGreatDoorProg
import Derived.MapKept
import Derived.Maps.RangeRun
import Derived.Laws.MakeOwn
import Derived.Lib.SliceRun
import Derived.Lib.FrozenHead
import Derived.Lib.UnsafeStr
import Derived.Lib.MakeNoZero
import Derived.Laws.Externs
import Derived.Lib.Builder
set_option linter.all false
set_option maxHeartbeats 8000000
open Go.Proofs
open Go.Proofs.Tryz
open Go.Conc (G)
open List renaming length → c, range → aB, getD_eq_getElem?_getD → ak, all_eq_true → aX
open Go renaming Value → Y, TypeId → al, Event → aO, undef → J, World → ar, Frame → aG, FuncId → a0, execOp → ab, Operand → ae, Program → aE, Goroutine → ai, stepG → ao, Oper → an
open Option renaming some → f, none → n
open Bool renaming true → l, false → v
open Nat renaming beq → ad, ble → ay
open Go.Region renaming wanted → aP, ready → aN
open Go.World renaming cell? → aH
open Go.Instr renaming sliceBounds → aT
open Go.Sem renaming events_bind → aD
open Go.Result renaming evThen_ok → aF
open Go.Op renaming equalIn → aL
open Go.Proofs.Tryz renaming prog → T
namespace Go.AM
variable {j A:Nat}{h:Int}{d i e u:Nat}{W:al}{H:Y->(Nat->Option Obj)->Prop}{L:Array Bool}{bB:Mem}{E:Nat}{P:aE}{br:ai->a6->Prop}{s:Code}{C:ai}{r:an}{b:a6}{o:al}{aa:Y}{p:ar}{α:Type}{η:ae->y}{ι:Type}{k:m aq}{I:bJ}{all:m an}{dr:Array al}{cap:m N}{cQ:m y}{k6:Nat->Option Obj}{ah:m aG}{bh:m (Nat×Bool)}{V:Nat->m N}{cP:ae}{gs:Array ai}{aV:m Nat}{cn:m Prop}{off:Nat}{op:BinOp}{aQ:Array an}{Z:m Prop}{bq:m an}{aA:a6}{ty:al}{val:Nat->Nat->Y}{z:m Y}{bi:ar}{ag:Array ae}{ap dh:m aq}{res:ι->y}{aS:ι->m aq}
section force
variable {S:Type}
def va:N->(N->Option S)->Option S
 |.int g h,a=>a (.int g h)
 |.bool e,a=>a (.bool e)
 |.T m,a=>a (.T m)
 |.B l g h d,a=>a (.B l g h d)
 |.B v g h d,a=>a (.B v g h d)
 |.R b,a=>e0 b λb=>a (.R b)
 |.cE o b,a=>e0 b λb=>a (.cE o b)
 |.fn k i e,a=>e0 i λi=>e0 e λe=>a (.fn k i e)
 |j,a=>a j
def YQ(s)(b:N->Option S):va s b=b s:=by
 cases s with
 |B d=>cases d<;>rfl
 |R a=>simp[va,hz]
 |cE d a=>simp[va,hz]
 |fn h e g=>simp[va,hz]
 |_=>rfl
def u':R->(R->Option S)->Option S
 |.c j,a=>va j λj=>a (.c j)
 |.ptr b i,a=>a (.ptr b i)
 |.x b d h e,a=>a (.x b d h e)
 |.aM b,a=>a (.aM b)
 |.O b (.B g d i h),a=>a (.O b (.B g d i h))
 |.O b (.bt g d m k),a=>a (.O b (.bt g d m k))
 |.any,a=>a .any
def JK(a)(b:R->Option S):u' a b=b a:=by
 cases a with
 |O e d=>cases d<;>simp[u']
 |_=>simp[u',YQ]
def yi:m R->(m R->Option S)->Option S
 |[],b=>b []
 |a::d,b=>u' a λa=>yi d λd=>b (a::d)
def YP(d)(a:m R->Option S):yi d a=a d:=by
 induction d generalizing a with
 |nil=>rfl
 |cons e g b=>simp[yi,JK,b]
def yk:E1->(E1->Option S)->Option S
 |.Q b,d=>u' b λb=>d (.Q b)
 |.agg a,d=>yi a λa=>d (.agg a)
def JL(a)(b:E1->Option S):yk a b=b a:=by cases a<;>simp[yk,JK,YP]
def yl:m E1->(m E1->Option S)->Option S
 |[],b=>b []
 |a::d,b=>yk a λa=>yl d λd=>b (a::d)
def YR(d)(a:m E1->Option S):yl d a=a d:=by
 induction d generalizing a with
 |nil=>rfl
 |cons e g b=>simp[yl,JL,b]
def o':y->(y->Option S)->Option S
 |.n d,b=>yk d λd=>b (.n d)
 |.S a,b=>yl a λa=>b (.S a)
 |.any,b=>b .any
theorem vb(a)(b:y->Option S):o' a b=b a:=by cases a<;>simp[o',JL,YR]
end force
def qJ:y->Option (Bool×Nat×Nat×(Nat->m N))
 |.n (.Q (.c (.B e b d a)))=>f (e,b,d,a)
 |.n (.Q (.x _ b d a))=>f (v,b,d,a)
 |_=>n
theorem tx{d}{o}{h}(a:qJ d=f (o,h,j,V))(k)(b)(aa)(e:bx k b aa d):Rd b.D aa (.B o h j V):=by
 unfold qJ at a;split at a
 .cases a;exact e
 .cases a;exact e.1
 grind
def kD(b:m UInt8)(a:Int):UInt8:=b.getD a.toNat 0
def De(b:m (Nat×cp))(h:al)(a:y):Option y:=
 match bZ b h with
 |none=>n
 |some d=>match d.desc with
  |.slice _=>match qJ a with
   |some (_,_,e,_)=>f (ax (.int .i64 e))
   |none=>n
  |.string=>match a with
   |.n (.Q (.c (.T g)))=>f (ax (.int .i64 (c g)))
   |_=>n
  |_=>n
def BZ(e:m (Nat×cp))(b dst:al)(d:y):Option (y×m Prop):=
 match bZ e b with
 |none=>n
 |some h=>match bZ e dst with
  |none=>n
  |some i=>match i.desc with
   |.int a=>match d with
    |.n (.Q (.c (.int _ k)))=>f (ax (.int a k),[a7 a k])
    |_=>n
   |.string=>match d with
    |.n (.Q (.c (.T s)))=>f (ax (.T s),[])
    |d=>match h.desc with
     |.slice o=>match bZ e o with
      |some j=>match j.desc with
       |.int .u8=>match qJ d with
        |some (_,p,q,g)=>match ad p 1 with
         |true=>match uO g 0 q with
          |some r=>f (ax (.T r),[])
          |none=>n
         |false=>n
        |none=>n
       |_=>n
      |none=>n
     |_=>n
   |_=>n
def Ee(j:m (Nat×cp))(a:ae->y)(t:al)(p:ae)(i h:Option ae):Option (y×m Prop):=
 match bZ j t with
 |none=>n
 |some r=>match kC a i with
  |none=>n
  |some d=>match kC a h with
   |none=>n
   |some e=>match r.desc with
    |.string=>match a p with
     |.n (.Q (.c (.T o)))=>f (ax (.T (mq o d e)),jh (c o) d e)
     |_=>n
    |.slice q=>match bZ j q with
     |none=>n
     |some b=>match qJ (a p)with
      |some (eO,s,k,g)=>match ad s b.size with
       |true=>f (ax (.B (xM eO e) b.size (bV k e-bV 0 d) (fA (bV 0 d) g)),jh k d e)
       |false=>n
      |none=>n
    |_=>n
def sA(d:BinOp)(e:IntKind)(g:Int)(b:IntKind)(h:Int):Option (y×m Prop):=
 match uJ d e g b h with
 |some (i,a)=>f (ax (.int e i),a)
 |none=>n
theorem SB{h a}{b i}{e}(g:sA op h b a i=f (e,cn)):∃d,e=ax (.int h d)/\uJ op h b a i=f (d,cn):=by unfold sA at g;grind
def GG(q:m (Nat×cp))(e:BinOp)(r:al)(t u:y):Option (y×m Prop):=
 match t,u with
 |.n (.Q (.c (.bool b))),.n (.Q (.c (.bool a)))=>match bZ q r with
  |some p=>match p.desc with
   |.bool=>match h9 e (b==a)with
    |some g=>f (ax (.bool g),[])
    |none=>n
   |_=>n
  |none=>n
 |.n (.Q (.c b)),.n (.Q (.c a))=>match e with
  |.xor=>match b,a with
   |.int .i64 b,.int .i64 a=>f (ax (.int .i64 ((b.toNat ^^^ a.toNat:Nat):Int)),[0<=b,0<=a])
   |.int .u64 b,.int d a=>sA .xor .u64 b d a
   |_,_=>n
  |.shl=>match b,a with
   |.int h b,.int d a=>sA .shl h b d a
   |_,_=>n
  |.shr=>match b,a with
   |.int h b,.int d a=>sA .shr h b d a
   |_,_=>n
  |.and=>match b,a with
   |.int h b,.int d a=>sA .and h b d a
   |_,_=>n
  |_=>match xi e b a with
   |some (g,i)=>f (ax g,i)
   |none=>n
 |.n (.agg j),.n (.agg o)=>match bZ q r with
  |some p=>match p.eq with
   |[]=>n
   |s::k=>match qf (s::k) j o with
    |some a=>match h9 e a with
     |some g=>f (ax (.bool g),[])
     |none=>n
    |none=>n
  |none=>n
 |_,_=>n
def yT(g:m (Nat×cp))(A:m (Nat×bI))(b:bJ)(O:an):Option (y×m Prop):=
 match O.op with
 |.move a|.assign a=>f (bD b a,[])
 |.index d a x=>match bZ g d with
  |some k=>match k.desc with
   |.string=>match bD b a,bD b x with
    |.n (.Q (.c (.T r))),.n (.Q (.c (.int _ i)))=>f (ax (.int .u8 (kD r i).toNat),[0<=i,i<c r])
    |_,_=>n
   |_=>n
  |none=>n
 |.indexAddr d a x=>match bZ g d with
  |some k=>match k.desc with
   |.slice M=>match bZ g M with
    |some I=>match qJ (bD b a),bD b x with
     |some (_,o,z,p),.n (.Q (.c (.int _ i)))=>match ad o I.size with
      |true=>f (ax (.R (p i.toNat)),[0<=i,i<z])
      |false=>n
     |_,_=>n
    |none=>n
   |_=>n
  |none=>n
 |.slice d a J F n=>Ee g (bD b) d a J F
 |.convert w dst a=>BZ g w dst (bD b a)
 |.call h=>match h.callee with
  |.builtin .len=>match h.args.toList,h.argTypes[0]? with
   |[a],f d=>match De g d (bD b a)with
    |some N=>f (N,[])
    |none=>n
   |_,_=>n
  |.value E=>BL A b E h.args.toList
  |_=>n
 |.pick h s t=>match bD b h with
  |.n (.Q (.c (.bool l)))=>f (bD b s,[])
  |.n (.Q (.c (.bool v)))=>f (bD b t,[])
  |_=>n
 |.binOp q d a x _=>GG g q d (bD b a) (bD b x)
 |.unOp q _ a=>match bD b a with
  |.n (.Q (.c s))=>match zG q s with
   |some h=>f (ax h,[])
   |none=>n
  |_=>n
 |.extract a i=>match bD b a with
  |.S K=>match c_ i K with
   |some u=>f (.n u,[])
   |none=>n
  |_=>n
 |.fieldAddr d a D=>match lc g d D with
  |some (o,_)=>match bD b a with
   |.n (.Q (.ptr r j))=>f (aI r (j+o),[])
   |.n (.Q (.c (.R e)))=>f (ax (.R (f_ o e)),[])
   |_=>n
  |none=>n
 |.field d a D=>match lc g d D with
  |some (o,i)=>match bD b a with
   |.n (.agg e)=>match hh i (f_ o e)with
    |some u=>f (.n u,[])
    |none=>n
   |_=>n
  |none=>n
 |.nilCheck a=>match bD b a with
  |.n (.Q (.ptr r j))=>f (aI r j,[])
  |.n (.Q (.c (.R e)))=>f (ax (.R e),[])
  |_=>n
 |.build d parts=>match xm g (bD b) d parts.toList with
  |some e=>f (.n (.agg e),[])
  |none=>n
 |.buildSlice d z parts=>match rO g (bD b) d z parts.toList with
  |some (o,p)=>f (ax (.B l o z λk=>p.getD k []),[])
  |none=>n
 |.makeFunc fn s t=>match ru (bD b) s.toList with
  |some B=>match ru (bD b) t.toList with
   |some C=>f (ax (.fn fn B C),[])
   |none=>n
  |none=>n
 |.makeInterface d a=>match bZ g d with
  |some k=>match vo k.desc with
   |false=>match yJ d (bD b a)with
    |some h=>f (ax h,[])
    |none=>n
   |true=>n
  |none=>n
 |.typeAssert a _ d l=>match bZ g d with
  |some k=>match vo k.desc with
   |false=>match bD b a with
    |.n (.Q (.c h))=>match sy d k h with
     |some (u,t)=>f (.S [u,.Q (.c (.bool t))],[])
     |none=>n
    |_=>n
   |true=>n
  |none=>n
 |_=>n
def Dj(h:m (Nat×cp))(g:bJ)(i:m aq)(k:al)(o:ae):Option y:=
 match bZ h k with
 |some e=>match bD g o with
  |.n (.Q (.ptr j b))=>match c_ j i with
   |some (.cells _ a)=>match hh e (f_ b a)with
    |some d=>f (.n d)
    |none=>n
   |_=>n
  |.n (.Q (.c (.R a)))=>match hh e (a.map R.c)with
   |some d=>f (.n d)
   |none=>n
  |_=>n
 |none=>n
def DC(k:m (Nat×cp))(b:bJ)(J:an):Option (y×m Prop):=
 match J.op with
 |.indexAddr j g w=>match bZ k j with
  |some a=>match a.desc with
   |.slice q=>match bZ k q with
    |some e=>match bD b g,bD b w with
     |.n (.Q (.O s (.B r o u h))),.n (.Q (.c (.int _ d)))=>match ad o e.size with
      |true=>f (cC s (.bt r e.size (u+d.toNat) 0),[0<=d,d<h])
      |false=>n
     |.n (.Q (.c (.val (.slice (f ⟨z,i,n⟩) p _)))),.n (.Q (.c (.int _ d)))=>f (ax (.val (.pointer (f ⟨z,i+d.toNat*e.size,n⟩))),[0<=d,d<p])
     |_,_=>n
    |none=>n
   |_=>n
  |none=>n
 |.fieldAddr j g I=>match lc k j I with
  |some (o,_)=>match bD b g with
   |.n (.Q (.O s (.bt r x a u)))=>f (cC s (.bt r x a (u+o)),[])
   |.n (.Q (.c (.val (.pointer (f ⟨z,i,n⟩)))))=>f (ax (.val (.pointer (f ⟨z,i+o,n⟩))),[])
   |_=>n
  |none=>n
 |.nilCheck g=>match bD b g with
  |.n (.Q (.O s (.bt r x a u)))=>f (cC s (.bt r x a u),[])
  |_=>n
 |.slice j g D C n=>match bZ k j with
  |none=>n
  |some a=>match kC (bD b) D with
   |none=>n
   |some t=>match kC (bD b) C with
    |none=>n
    |some F=>match a.desc with
     |.slice q=>match bZ k q with
      |none=>n
      |some e=>match bD b g with
       |.n (.Q (.O s (.B r o u h)))=>match ad o e.size with
        |true=>f (cC s (.B r e.size (u+bV 0 t) (bV h F-bV 0 t)),jh h t F)
        |false=>n
       |_=>n
     |_=>n
 |.slice j g n (f w) (f E)=>match bZ k j with
  |none=>n
  |some a=>match a.desc with
   |.slice q=>match bZ k q with
    |none=>n
    |some _=>match qJ (bD b g),bD b w,bD b E with
     |some (_,o,p,B),.n (.Q (.c (.int _ d))),.n (.Q (.c (.int _ h)))=>f (ax (.B v o d.toNat B),[0<=d,d<=h,h<=p])
     |_,_,_=>n
   |_=>n
 |.slice j g (f K) (f w) (f E)=>match bZ k j with
  |none=>n
  |some a=>match a.desc with
   |.slice q=>match bZ k q with
    |none=>n
    |some _=>match bD b g,bD b K,bD b w,bD b E with
     |.n (.Q (.O _ (.B _ _ _ p))),.n (.Q (.c (.int _ a))),.n (.Q (.c (.int _ d))),.n (.Q (.c (.int _ h)))=>f (.n (.Q .any),[0<=a,a<=d,d<=h,h<=p])
     |_,_,_,_=>n
   |_=>n
 |.call A=>match A.callee with
  |.builtin .len=>match A.args.toList,A.argTypes[0]? with
   |[g],f j=>match bZ k j with
    |some a=>match a.desc with
     |.slice _=>match bD b g with
      |.n (.Q (.O _ (.B _ _ _ h)))=>f (ax (.int .i64 h),[])
      |.n (.Q (.c (.val (.slice _ p _))))=>f (ax (.int .i64 p),[p<=9223372036854775807])
      |_=>n
     |_=>n
    |none=>n
   |_,_=>n
  |_=>n
 |_=>n
def yA(i:m (Nat×cp))(h:bJ)(j:m aq)(s:al)(t:ae):Option (y×m Prop):=
 match bZ i s with
 |some b=>match bD h t with
  |.n (.Q (.O r (.bt p q e o)))=>match c_ r j with
   |some (.q _ d g a)=>match ad d q with
    |true=>match hh b ((f_ o (a e)).map R.c)with
     |some k=>f (.n k,[p=g,e<g])
     |none=>n
    |false=>n
   |_=>n
  |_=>n
 |none=>n
def aeh:Nat->m N->Nat->Bool
 |0,a,b=>ad (c a) b
 |_+1,_,_=>v
def Eo(u:m (Nat×cp))(q:bJ)(i:m aq)(w:al)(x z:ae):Option (y×m aq×m Prop):=
 match bZ u w with
 |some k=>match bD q x with
  |.n (.Q (.O o (.bt s t h r)))=>match c_ o i with
   |some (.q p e g d)=>match ad e t with
    |true=>match mn (bD q z)with
     |some new=>match ad (c new) k.size with
      |true=>match h3 new with
       |some b=>match aeh r b t with
        |true=>e0 (da.cu o (.q p e g (l5 h b d)) i) λa=>f (.any,a,[s=g,h<g])
        |false=>match iZ r b (d h)with
         |some j=>e0 (da.cu o (.q p e g (l5 h j d)) i) λa=>f (.any,a,[s=g,h<g])
         |none=>n
       |none=>n
      |false=>n
     |none=>n
    |false=>n
   |_=>n
  |_=>n
 |none=>n
def po(b:m (Nat×cp))(d:m (Nat×bI))(a:bJ)(g:m aq)(e:an):Option (y×m Prop):=
 match e.op with
 |.load h i=>match Dj b a g h i with
  |some j=>f (j,[])
  |none=>yA b a g h i
 |_=>match yT b d a e with
  |some k=>f k
  |none=>DC b a e
def xc(e:m (Nat×cp))(i t2:al):Option (al×cp):=
 match bZ e i with
 |none=>n
 |some h=>match bZ e t2 with
  |none=>n
  |some g=>match h.desc with
   |.slice b=>match g.desc with
    |.slice d=>match ad d b with
     |false=>n
     |true=>match bZ e b with
      |none=>n
      |some a=>match ay 1 a.bytes,ay 1 a.size with
       |true,l=>f (b,a)
       |_,_=>n
    |_=>n
   |_=>n
def uF(h:m (Nat×cp))(e:ae->y)(k:ae)(j t2:al):Option (al×cp×Nat×(Nat->m N)):=
 match xc h j t2 with
 |none=>n
 |some (g,b)=>match qJ (e k)with
  |none=>n
  |some (_,d,i,a)=>match ad d b.size with
   |false=>n
   |true=>f (g,b,i,a)
def AW(t:m (Nat×cp))(s:ae->y)(j:m aq)(x z:ae)(w t2:al):Option (y×m aq×m Prop):=
 match uF t s z w t2 with
 |none=>n
 |some (q,a,i,b)=>match s x with
  |.n (.Q (.c (.B l r d g)))=>match ad r a.size with
   |true=>e0 (j++[.x q a.size (d+i) (cg d g b)]) λh=>f (.n (.Q (.x (c j) a.size (d+i) (cg d g b))),h,[(d+i)*a.bytes<=140737488355328,d=0∨0<i])
   |false=>match ad d 0 with
    |true=>e0 (j++[.x q a.size (d+i) (cg d g b)]) λh=>f (.n (.Q (.x (c j) a.size (d+i) (cg d g b))),h,[(d+i)*a.bytes<=140737488355328,d=0∨0<i])
    |false=>n
  |.n (.Q (.x p r d g))=>match c_ p j with
   |some (.x k o e kH)=>match ad k q,ad r a.size,ad o a.size with
    |true,l,l=>e0 (da.cu p (.x q a.size (d+i) (cg d g b)) j) λh=>f (.n (.Q (.x p a.size (d+i) (cg d g b))),h,[e=d,kH=g,(d+i)*a.bytes<=140737488355328])
    |_,_,_=>n
   |_=>n
  |.n (.Q (.O p (.B u r 0 d)))=>match c_ p j with
   |some (.q k o e kH)=>match ad k q,ad r a.size,ad o a.size with
    |true,l,l=>e0 (da.cu p (.q q a.size (e+i) (cg e kH b)) j) λh=>f (cC p (.B (e+i) a.size 0 (e+i)),h,[u=e,d=e,(e+i)*a.bytes<=140737488355328])
    |_,_,_=>n
   |_=>n
  |_=>n
def DF(d:m (Nat×cp))(g:m (Nat×bI))(a:bJ)(b:m aq)(i:an):Option (y×m aq×m Prop):=
 match i.op with
 |.alloc _|.box _ _=>yS d a b i
 |.store j k o=>match yS d a b i with
  |some p=>f p
  |none=>Eo d a b j k o
 |.call e=>match e.callee with
  |.builtin .append=>match e.args.toList,e.argTypes.toList with
   |[k,o],[j,t2]=>AW d (bD a) b k o j t2
   |_,_=>n
  |.value h=>BK g a b h e.args.toList
  |_=>n
 |_=>n
def AV(i:m (Nat×cp))(e:ae->y)(k o:ae)(j t2:al):Option (y×m Prop):=
 match uF i e o j t2 with
 |none=>n
 |some (_,b,h,a)=>match e k with
  |.n (.Q (.c (.B l p d g)))=>match ad d 0 with
   |true=>f (ax (.B v b.size (d+h) (cg d g a)),[(d+h)*b.bytes<=140737488355328,d=0∨0<h])
   |false=>n
  |_=>n
def DD(d:m (Nat×cp))(b:bJ)(e:an):Option (y×m Prop):=
 match e.op with
 |.call a=>match a.callee with
  |.builtin .append=>match a.args.toList,a.argTypes.toList with
   |[h,i],[g,t2]=>AV d (bD b) h i g t2
   |_,_=>n
  |_=>n
 |_=>n
def vv:m (Nat×Bool)->Nat->Option Bool
 |[],_=>n
 |(d,b)::e,a=>match ad d a with|true=>f b|false=>vv e a
def C'(a:m (Nat×Bool)):Option Nat->Bool
 |none=>v
 |some b=>match vv a (2000000+b)with
  |some l=>l
  |_=>v
def Zy(a:m (Nat×Bool)):Option Nat->Bool
 |none=>v
 |some b=>match vv a (3000000+b)with
  |some l=>l
  |_=>v
def AX(s:al)(a:cp)(d:ae->y)(t:m aq)(z A:ae):Option (y×m aq×m Prop):=
 match d z,d A with
 |.n (.Q (.O e (.B w x 0 o))),.n (.Q (.O r (.B k p u g)))=>match ad r e with
  |false=>n
  |true=>match c_ e t with
   |some (.q h q b j)=>match ad h s,ad x a.size,ad p a.size,ad q a.size with
    |true,l,l,l=>e0 (da.cu e (.q s a.size b (qC o u g j)) t) λi=>f (cC e (.B b a.size 0 (o+g)),i,[w=b,k=b,o+g<=b,u+g<=b])
    |_,_,_,_=>n
   |_=>n
 |_,_=>n
def AY(s:Bool)(k:m (Nat×cp))(b:ae->y)(h:m aq)(p q:ae)(o t2:al):Option (y×m aq×m Prop):=
 match s with
 |true=>match uF k b q o t2 with
  |none=>n
  |some (g,a,e,d)=>match b p with
   |.n (.Q (.c (.B l _ r j)))=>match ad r 0 with
    |true=>e0 (h++[.q g a.size (0+e) (cg 0 j d)]) λi=>f (cC (c h) (.B (0+e) a.size 0 (0+e)),i,[(0+e)*a.bytes<=140737488355328])
    |false=>n
   |_=>n
 |false=>match xc k o t2 with
  |none=>n
  |some (g,a)=>AX g a b h p q
def yU(i:Bool)(d:m (Nat×cp))(b:bJ)(e:m aq)(g:an):Option (y×m aq×m Prop):=
 match g.op with
 |.call a=>match a.callee with
  |.builtin .append=>match a.args.toList,a.argTypes.toList with
   |[j,k],[h,t2]=>AY i d (bD b) e j k h t2
   |_,_=>n
  |_=>n
 |_=>n
def vG(h:m (Nat×Bool))(e:m (Nat×cp))(b:m (Nat×bI))(d:bJ)(g:m aq)(a:an):Option (y×m aq×m Prop):=
 match Zy h a.dst with
 |true=>yU l e d g a
 |false=>match DF e b d g a with
  |some i=>f i
  |none=>yU v e d g a
def u1(b:m (Nat×Bool))(g:Option Nat)(d:y)(a:m Prop):Option (y×m Prop):=
 match g with
 |none=>f (d,a)
 |some i=>match vv b i with
  |none=>f (d,a)
  |some e=>match d with
   |.n (.Q (.c (.bool h)))=>f (ax (.bool e),gM a [h=e])
   |_=>n
def To{g}{d e}{b}(a:u1 bh g d cn=f (e,b))(h:U b):e=d/\U cn:=by
 unfold u1 at a;split at a
 .grind
 split at a
 .grind
 split at a
 .cases a;simp_all
 grind
def iy(j:m (Nat×cp))(g:m (Nat×bI))(d:m (Nat×Bool))(h:m an)(i:bJ)(q:m aq)(e:an):Option (y×Option (m aq)×m Prop):=
 let go:Option (y×Option (m aq)×m Prop):=match po j g i q e with
  |some (b,a)=>match u1 d e.dst b a with
   |some (p,r)=>o' p λp=>f (p,n,r)
   |none=>n
  |none=>match C' d e.dst with
   |true=>match DD j i e with
    |some (b,a)=>o' b λb=>f (b,n,a)
    |none=>n
   |false=>match vG d j g i q e with
    |some (b,k,a)=>o' b λb=>f (b,f k,a)
    |none=>n
 match e.guard with
 |none=>go
 |some (t,s)=>match yr i h t with
  |some (f o)=>match s,o with
   |true,l=>go
   |false,v=>go
   |_,_=>f (.S [],n,[])
  |some n=>f (.S [],n,[])
  |none=>n
section
variable {q:af P}{ac:m (Nat×cp)}{CT:m (Nat×bI)}
def Gv(aY:b2 P ac){j k:ae}{t2:al}{a4}(g:r.op=.call {callee:=.builtin .append,args:=#[j,k],argTypes:=#[o,t2]})(a:xc ac o t2=f (W,a4)):jY P r j k W a4:=by
 unfold xc at a;split at a
 .cases a
 rename_i i e;split at a
 .cases a
 rename_i h q;split at a
 case h_2=>cases a
 rename_i W s;split at a
 case h_2=>cases a
 rename_i m b;split at a
 .cases a
 rename_i p;have t:=dn p;subst t;split at a
 .cases a
 rename_i a4 d;split at a
 case h_2=>cases a
 rename_i u w;cases a;exact⟨⟨o,t2,i,h,g,aY o i e,s,aY t2 h q,b⟩,aY _ _ d,by exact lI,by exact lI⟩
def AZ(aY:b2 P ac){p h:ae}{t2:al}{a4}{a:Nat->m N}(j:r.op=.call {callee:=.builtin .append,args:=#[p,h],argTypes:=#[o,t2]})(b:uF ac η h o t2=f (W,a4,A,a)):
  jY P r p h W a4/\∃d,∀i e g,bx i e g (η h)->Rd e.D g (.B d a4.size A a):=by
 unfold uF at b;split at b
 .cases b
 rename_i t;split at b
 .cases b
 rename_i d u A a k;split at b
 .cases b
 rename_i q;have s:=dn q;subst s;cases b;exact⟨Gv aY j t,d,λi e g=>tx k i e g⟩
theorem Sq(aY:b2 P ac)(z:∀k i m,b0 E k i I m->aP r (yielded all.toArray m.tmps)=l){u w:ae}{t2:al}{s}(e:r.op=.call {callee:=.builtin .append,args:=#[u,w],argTypes:=#[o,t2]})(a:AV ac (bD I) u w o t2=f (s,cn))(p:U cn):aZ q E all r I k s k:=by
 unfold AV at a;split at a
 .cases a
 rename_i x A F t d;obtain⟨y,B,b⟩:=AZ aY e d;have b:=λi D=>b k i D;split at a
 .rename_i h j V g;split at a
  .rename_i C;cases a;exact(aZ.a0 z (a1.fZ y g (.inr (dn C)) b p.1 p.2)).e0
  grind
 grind
theorem Sr(aY:b2 P ac){E F:ae}{t2:al}{B}(t:r.op=.call {callee:=.builtin .append,args:=#[E,F],argTypes:=#[o,t2]})(a:AW ac η k E F o t2=f (B,ap,cn))(e:U cn):a1 P r η k B ap:=by
 unfold AW at a;split at a
 .cases a
 rename_i J K S D s;obtain⟨i,O,g⟩:=AZ aY t s;have g:=λM Q=>g k M Q;split at a
 .rename_i h j V b;split at a
  .rename_i bX;rw[hz]at a;cases a;exact a1.fZ i b (.inl (dn bX)) g e.1 e.2
  split at a
  .rename_i W;rw[hz]at a;cases a;exact a1.fZ i b (.inr (dn W)) g e.1 e.2
  grind
 .rename_i d h j V b;split at a
  .rename_i N I m kH gQ;split at a
   .rename_i p x A;rw[hz,mO]at a;cases a;obtain⟨u,R,y⟩:m=j/\kH=V/\_:=e;subst u;subst R;have w:=dn p;subst w;have z:=dn x;have q:=dn A;subst q;subst z;exact a1.ia i b (et gQ) g y
   grind
  grind
 .rename_i d C h j b;split at a
  .rename_i N I m kH gQ;split at a
   .rename_i p x A;rw[hz,mO]at a;cases a;obtain⟨u,R,y⟩:C=m/\j=m/\_:=e;subst u;subst R;have w:=dn p;subst w;have z:=dn x;have q:=dn A;subst q;subst z;exact a1.h7 i b (et gQ) g y
   grind
  grind
 grind
theorem ZI(aY:b2 P ac){i:ae}{g}(d:r.op=.call {callee:=.builtin .len,args:=#[i],argTypes:=dr})(p:dr[0]?=f o)(a:De ac o (η i)=f g):a1 P r η k g k:=by
 unfold De at a;split at a
 .cases a
 rename_i t b;split at a
 .rename_i W m;split at a
  .rename_i eO h j V e;cases a;exact a1.jj aY d p b m (λq s=>tx e k q s)
  grind
 .grind [a1.jo]
 grind
theorem Ta(aY:b2 P ac){b dst:al}{t:ae}{q}(i:r.op=.convert b dst t)(a:BZ ac b dst (η t)=f (q,cn))(w:U cn):a1 P r η k q k:=by
 unfold BZ at a;split at a
 .cases a
 rename_i D g;split at a
 .cases a
 rename_i E p;split at a
 .rename_i z e;split at a
  .rename_i h u d;cases a;exact a1.iC aY i g p e d w
  grind
 .rename_i e;split at a
  .grind [a1.iD]
  split at a
  .rename_i W y;split at a
   .rename_i a4 m;split at a
    .rename_i s;split at a
     .rename_i eO h j V o;split at a
      .rename_i bX;have x:=dn bX;subst x;split at a
       .rename_i F C;cases a;exact a1.iB aY i g p y e m s (λA B=>tx o k A B) C
       grind
      grind
     grind
    grind
   grind
  grind
 grind
theorem ab5(aY:b2 P ac){d:ae}{e6 bp}{b}(e:r.op=.slice o d e6 bp n)(a:Ee ac η o d e6 bp=f (b,cn))(g:U cn):a1 P r η k b k:=by
 unfold Ee at a;split at a
 .cases a
 rename_i m h;split at a
 .cases a
 rename_i p j;split at a
 .cases a
 rename_i q i;split at a
 .grind [a1.jV]
 .grind [Nat.eq_of_beq_eq_true,a1.jU,tx]
 grind
theorem A0{a:Array α}{b:α}(d:a.toList=[b]):a=#[b]:=Array.ext' d
theorem A1{a:Array α}{b d:α}(e:a.toList=[b,d]):a=#[b,d]:=Array.ext' e
theorem aan(aY:b2 P ac)(L:a_ q CT){F:y}(t:yT ac CT I r=f (F,cn))(m:U cn)(a':∀k z g,b0 E k z I g->aP r (yielded all.toArray g.tmps)=l):aZ q E all r I k F k:=by
 unfold yT at t;split at t
 .grind [aZ.a0,a1.move]
 .grind [aZ.a0,a1.assign]
 .rename_i o X B a;split at t
  .rename_i e bp;split at t
   .rename_i p;split at t
    .rename_i d h u b R;cases t;obtain⟨M,K⟩:0<=u/\u<(c d:Int):=m;have:=a1.jf (k:=k) (A:=u.toNat) aY a bp p b R w w;have J:kD d u=d[u.toNat]'w:=by simp[kD,ak,bH (by omega:u.toNat<c d)]
     grind[aZ.a0]
    grind
   grind
  grind
 .rename_i o X B a;split at t
  .rename_i e bp;split at t
   .rename_i W p;split at t
    .rename_i a4 x;split at t
     .rename_i eO h j V S u b R;split at t
      .rename_i bX;cases t;obtain⟨M,K⟩:0<=u/\u<(j:Int):=m;have J:=dn bX;subst J;exact aZ.a0 a' (a1.indexAddr (A:=u.toNat) aY a bp p x (λz T=>tx b k z T) R w w)
      grind
     grind
    grind
   grind
  grind
 .grind [aZ.a0,ab5]
 .grind [aZ.a0,Ta]
 .rename_i s a;obtain⟨H,args,D⟩:=s;grind[A0,aZ.a0,ZI,aZ.iz]
 .rename_i s g i bl;split at t
  .exact Pf
  .exact Pf
  grind
 .rename_i op o B Z ty bl;unfold GG at t;split at t
  .grind [aZ.a0,a1.iu]
  .rename_i g i _ N C;split at t
   .split at t
    .rename_i _ _ O Q _ _;cases t;exact aZ.a0 a' (a1.j_ bl N C m.1 m.2)
    .exact zT
    grind
   .exact zT
   .exact zT
   .exact zT
   grind[aZ.a0,a1.binOp]
  .rename_i ah V N C;split at t
   .grind [aZ.a0,a1.j7]
   grind
  grind
 .grind [aZ.a0,a1.unOp]
 .grind [aZ.a0,a1.extract,et]
 .rename_i o B Y bl;split at t
  .rename_i h u G;split at t
   .rename_i d off b;cases t;exact aZ.a0 a' (a1.g3 aY bl b G)
   .grind [aZ.a0,a1.g4]
   grind
  grind
 .grind [aZ.a0,a1.field]
 .grind [aZ.a0,a1.ht,a1.hx]
 .grind [aZ.a0,a1.build]
 .grind [aZ.a0,a1.buildSlice]
 .grind [aZ.a0,a1.makeFunc]
 .grind [aZ.a0,a1.makeInterface]
 .grind [aZ.a0,a1.typeAssert]
 grind
theorem aak(aY:b2 P ac){K:y}(a:DC ac I r=f (K,cn))(q:U cn):a1 P r (bD I) k K k:=by
 unfold DC at a;split at a
 .rename_i o w O b;split at a
  .rename_i e bp;split at a
   .rename_i W R;split at a
    .rename_i a4 m;split at a
     .rename_i d C h M A D u g z;split at a
      .rename_i bX;cases a;obtain⟨N,x⟩:0<=u/\u<(A:Int):=q;grind[Nat.eq_of_beq_eq_true,a1.jd]
      grind
     .rename_i i off j cap D u g z;cases a;obtain⟨N,x⟩:0<=u/\u<(j:Int):=q;grind[a1.je]
     grind
    grind
   grind
  grind
 .rename_i o w ag b;split at a
  .rename_i h u H;split at a
   .rename_i d C aM e M g;cases a;exact a1.iO aY b g H
   .rename_i i off g;cases a;exact a1.iP aY b g H
   grind
  grind
 .grind [a1.jz]
 .rename_i o w e6 bp b;split at a
  .cases a
  rename_i e E;split at a
  .cases a
  rename_i Z ab;split at a
  .cases a
  grind[Nat.eq_of_beq_eq_true,a1.sliceB]
 .rename_i o w O T b;split at a
  .cases a
  rename_i e E;split at a
  .rename_i W R;split at a
   .cases a
   rename_i a4 m;split at a
   .rename_i eO h j V B u L A g z G;cases a;obtain⟨N,x,F⟩:0<=u/\u<=A/\A<=(j:Int):=q;exact a1.jR aY b E R m (λQ S=>tx g k Q S) z G N x F
   grind
  grind
 .rename_i o w p O T b;split at a
  .cases a
  rename_i e E;split at a
  .rename_i W R;split at a
   .cases a
   rename_i a4 m;split at a
   .rename_i d C h M j ae e B u L A g aa z G;cases a;obtain⟨N,x,F,Y⟩:0<=e/\e<=u/\u<=A/\A<=(j:Int):=q;grind[a1.slice3B]
   grind
  grind
 .rename_i s b;obtain⟨X,args,J⟩:=s;simp only at a;split at a
  .split at a
   .rename_i w o g au;split at a
    .rename_i e bp;split at a
     .rename_i W R;split at a
      .grind [A0,a1.ji]
      .rename_i af j cap t;cases a;have:=A0 g;subst this;exact a1.jq aY b au bp R t q
      grind
     grind
    grind
   grind
  grind
 grind
theorem ZN(aY:b2 P ac){q:ae}(b:r.op=.load o q){m}(a:yA ac I k o q=f (m,cn))(g:U cn):a1 P r (bD I) k m k:=by
 unfold yA at a;split at a
 .rename_i u bp;split at a
  .rename_i d C h e w s;split at a
   .rename_i W t j V aJ;split at a
    .rename_i bX;have p:=dn bX;subst p;split at a
     .rename_i p i;cases a;exact a1.e7 aY b s g.1 (et aJ) bp i g.2
     grind
    grind
   grind
  grind
 grind
theorem acx(aY:b2 P ac){y z:ae}(i:r.op=.store o y z){x}(a:Eo ac I k o y z=f (x,ap,cn))(p:U cn):a1 P r (bD I) k x ap:=by
 unfold Eo at a;split at a
 .rename_i D bp;split at a
  .rename_i d C h e q s;split at a
   .rename_i W t j V aJ;split at a
    .rename_i bX;have B:=dn bX;subst B;split at a
     .rename_i new m;split at a
      .rename_i u;split at a
       .rename_i gN b;split at a
        .rename_i A;rw[hz,mO]at a;cases a;have w:q=0/\c gN=t:=by
          cases q with
          |zero=>exact⟨rfl,dn A⟩
          |succ q=>exact cS
         obtain⟨rfl,w⟩:=w;exact a1.hZ aY i s p.1 (et aJ) bp m (dn u) b (λE=>Mw M) p.2
        split at a
        .rename_i ci g;rw[hz,mO]at a;cases a;exact a1.hZ aY i s p.1 (et aJ) bp m (dn u) b (λ_=>g) p.2
        grind
       grind
      grind
     grind
    grind
   grind
  grind
 grind
theorem aap(aY:b2 P ac)(h:a_ q CT){d}(a:po ac CT I k r=f (d,cn))(g:U cn)(m:∀k e b,b0 E k e I b->aP r (yielded all.toArray b.tmps)=l):aZ q E all r I k d k:=by
 unfold po at a;split at a
 .rename_i o p j;split at a
  .rename_i C i;cases a;unfold Dj at i;split at i
   .grind [aZ.a0,a1.hi,et,a1.hj]
   grind
  grind[aZ.a0,ZN]
 grind[aan,aZ.a0,aak]
theorem aal(aY:b2 P ac)(o:a_ q CT){d:y}(e:DF ac CT I k r=f (d,ap,cn))(i:U cn)(m:∀k h a,b0 E k h I a->aP r (yielded all.toArray a.tmps)=l):aZ q E all r I k d ap:=by
 unfold DF at e;split at e
 .grind [aZ.a0,DE]
 .grind [aZ.a0,DE]
 .grind [aZ.a0,DE,acx]
 .rename_i s g;obtain⟨j,args,b⟩:=s;grind[A1,aZ.a0,Sr,aZ.call]
 grind
def Ss{i m:ae}{a4}{g}(q:jY P r i m W a4)(a:AX W a4 η k i m=f (g,ap,cn))(p:U cn):a1 P r η k g ap:=by
 unfold AX at a;split at a
 .rename_i d C h e z x y u A K D;split at a
  .cases a
  rename_i s;have b:=dn s;subst b;split at a
  .rename_i N M j V gQ;split at a
   .rename_i o DU tj DV;have t:=dn o;have J:=dn DU;have w:=dn tj;have E:=dn DV;rw[hz]at a;cases a;obtain⟨R,I,B,F⟩:=p;subst R I t J w E;have:=a1.h_ (k:=k) q K D (et gQ) B F;grind[mO]
   grind
  grind
 grind
theorem St(aY:b2 P ac){p}{q s:ae}{t2:al}{i}(b:r.op=.call {callee:=.builtin .append,args:=#[q,s],argTypes:=#[o,t2]})(a:AY p ac η k q s o t2=f (i,ap,cn))(g:U cn):a1 P r η k i ap:=by
 unfold AY at a;split at a
 .split at a
  .cases a
  rename_i t z E m d;obtain⟨u,B,w⟩:=AZ aY b d;split at a
  .rename_i h j V e;split at a
   .rename_i C;have x:=dn C;subst x;rw[hz]at a;cases a;exact a1.h' u e (λA D=>w _ A D) g
   grind
  grind
 split at a
 .cases a
 rename_i y;exact Ss (Gv aY b y) a g
theorem aam(aY:b2 P ac)(p:a_ q CT){a:y}(b:vG bh ac CT I k r=f (a,ap,cn))(j:U cn)(o:∀k i d,b0 E k i I d->aP r (yielded all.toArray d.tmps)=l):aZ q E all r I k a ap:=by
 have key:∀g,yU g ac I k r=f (a,ap,cn)->aZ q E all r I k a ap:=by
  intro g b;unfold yU at b;split at b
  .rename_i s h;obtain⟨m,args,e⟩:=s;grind[A1,aZ.a0,St]
  grind
 unfold vG at b;grind[aal]
def ee(aY:b2 P ac)(K:a_ q CT){i}{ap}(a:iy ac CT bh all I k r=f (i,ap,cn))(B:U cn):aZ q E all r I k i (ap.getD k):=by
 have go:(∀k g d,b0 E k g I d->aP r (yielded all.toArray d.tmps)=l)->(match po ac CT I k r with
  |some (b,cn)=>match u1 bh r.dst b cn with
   |some (m,z)=>o' m λm=>f (m,n,z)
   |none=>n
  |none=>match C' bh r.dst with
   |true=>match DD ac I r with
    |some (b,cn)=>o' b λb=>f (b,n,cn)
    |none=>n
   |false=>match vG bh ac CT I k r with
    |some (b,ap,cn)=>o' b λb=>f (b,f ap,cn)
    |none=>n)=f (i,ap,cn)->aZ q E all r I k i (ap.getD k):=by
  intro R a;split at a
  .rename_i b e p;split at a
   .rename_i m A C;rw[vb]at a;cases a;obtain⟨rfl,M⟩:=To C B;grind[aap]
   grind
  split at a
  .split at a
   .rename_i b e j;rw[vb]at a;cases a;unfold DD at j;split at j
    .rename_i s y;obtain⟨J,args,t⟩:=s;grind[A1,Sq]
    grind
   grind
  grind[vb,aam]
 unfold iy at a;simp only at a;split at a
 .grind [i6]
 rename_i F u w;split at a
 .rename_i x o;have D:∀k g d,b0 E k g I d->aP r (yielded all.toArray d.tmps)=(f x==f u):=λk g d h=>by simp only[aP,w,ys o h]
  split at a
  .grind
  .grind
  cases a;refine aZ.hG (λk g d h=>(D k g d h).trans ?_);cases u<;>cases x<;>simp_all
 .rename_i o;cases a;exact aZ.hG (λk g d h=>by simp only[aP,w,ys o h];rfl)
 grind
end
variable {CT:m (Nat×bI)}{au:m ik}{bd:fw}{ac:m (Nat×cp)}{a4:cp}
def mD(a:bJ)(b:an):Bool:=match b.op with
 |.load _ d=>match bD a d with
  |.n (.Q (.c (.R _)))=>v
  |_=>l
 |_=>v
def aao{fe}(d:mD I r=v):po ac CT I k r=po ac CT I fe r:=by
 unfold po;split
 .rename_i o e a;simp[mD,a]at d;split at d
  .rename_i ah b;simp[Dj,yA,b]
  grind
 simp
def aaq{d}(j:mD I r=v)(a:iy ac CT bh all I k r=f (d,n,cn))(fe):
  iy ac CT bh all I fe r=f (d,n,cn):=by
 unfold iy at a⊢;simp only at a⊢;rw[aao (fe:=k) j];cases i:po ac CT I k r with
 |some o=>grind
 |none=>
  simp[i]at a⊢;cases h:C' bh r.dst with
  |true=>grind
  |false=>
   simp[h]at a⊢;have key:∀{g:Option (y×Option (m aq)×m Prop)},(match vG bh ac CT I k r with|some (e,b,cn)=>o' e λe=>f (e,f b,cn)|none=>n)=g->g≠f (d,n,cn):=by grind[vb]
   split at a
   .grind
   grind
def jM(a:Nat):m an->Bool
 |[]=>v
 |e::b=>match e.dst with
  |some d=>match ad d a with|true=>l|false=>jM a b
  |none=>jM a b
theorem vg{o}:∀{d:m an}{e:Nat}{a:an},d[e]?=f a->a.dst=f o->jM o d=l
 |[],_,_,t,_=>by grind
 |h::g,0,a,t,b=>by simp at t;subst t;simp[jM,b,sv]
 |h::g,e+1,a,t,b=>by have:=vg (d:=g) wC b;simp[jM];grind
theorem C0{o}:∀{b:m an},jM o b=l->∃(e:Nat)(r:an),b[e]?=f r/\r.dst=f o
 |[],t=>by cases t
 |d::j,t=>by
  simp[jM]at t;split at t
  .rename_i g s;split at t
   .rename_i h;exact⟨0,d,a,by grind[Nat.eq_of_beq_eq_true]⟩
   exact Rc
  exact Rc
def lk:m an->Bool
 |[]=>l
 |d::a=>match d.dst with
  |some b=>match jM b a with|true=>v|false=>lk a
  |none=>lk a
theorem DB{o}:∀{k:m an}{g h:Nat}{b d:an},lk k=l->k[g]?=f b->k[h]?=f d->b.dst=f o->d.dst=f o->g=h
 |[],_,_,_,_,_,t,_,_,_=>by grind
 |p::e,0,0,_,_,_,_,_,_,_=>rfl
 |p::e,0,h+1,b,d,a,i,j,d1,d2=>by simp at i;subst i;simp[lk,d1]at a;grind[vg]
 |p::e,g+1,0,b,d,a,i,j,d1,d2=>by simp at j;subst j;simp[lk,d2]at a;grind[vg]
 |p::e,g+1,h+1,b,d,a,i,j,d1,d2=>by
  have:lk e=l:=by simp[lk]at a;grind
  have r:e[g]?=f b:=M;have q:e[h]?=f d:=M;have s:=DB this r q d1 d2;omega
def mL(a:m an):bJ->bJ
 |[]=>[]
 |(d,e)::b=>match jM d a with|true=>mL a b|false=>(d,e)::mL a b
def s_{all}{o}:∀{b:bJ},look (mL all b) o=if jM o all=l then .any else look b o
 |[]=>by simp[mL,look]
 |(a,i)::j=>by
  simp[mL];by_cases g:ad a o=l
  .have h:=dn g;subst h;cases e:jM a all with
   |true=>simp only;rw[s_];grind
   |false=>simp[look]
  have d:ad a o=v:=M;cases e:jM a all with
  |true=>simp only;rw[s_];simp[look,d]
  |false=>simp[look,d,cond];rw[s_]
def c9:m Edge->m Nat
 |[]=>[]
 |b::a=>match b.ground with
  |.textOnly _=>c9 a
  |.gcOnly _=>c9 a
  |_=>b.on::c9 a
theorem l1{u}:∀{d:m Edge},u∈c9 d↔∃a∈d,eS a=l/\a.on=u
 |[]=>by simp[c9]
 |a::b=>by
  have k:=l1 (u:=u) (d:=b);have h:c9 (a::b)=a.on::c9 b->eS a=l->(u∈c9 (a::b)↔∃e∈a::b,eS e=l/\e.on=u):=M;have g:c9 (a::b)=c9 b->eS a=v->(u∈c9 (a::b)↔∃e∈a::b,eS e=l/\e.on=u):=M;cases i:a.ground with
  |textOnly j=>exact g EU NY
  |gcOnly j=>exact g EU NY
  |_=>exact h EU (by unfold eS Region.binds;rw[i])
def nt(a b:Nat):m an->Bool
 |[]=>v
 |e::d=>match e.dst with
  |some g=>match ad g b with
   |true=>match ek a (c9 e.after.toList)with
    |true=>nt a b d
    |false=>l
   |false=>nt a b d
  |none=>nt a b d
def J0{e o}:∀{i:m an},nt e o i=v->∀(d:Nat)a,i[d]?=f a->a.dst=f o->ek e (c9 a.after.toList)=l
 |[],_,d,a,b,_=>by grind
 |k::j,b,0,a,h,g=>by simp at h;subst h;simp[nt,g,sv]at b;grind
 |k::j,b,d+1,a,h,g=>by
  have:nt e o j=v:=by simp[nt]at b;grind
  exact J0 this d a M g
def ou(a:m an):bJ->m (Nat×y×Bool)
 |[]=>[]
 |(b,d)::e=>match jM b a with
  |true=>(b,d,l)::ou a e
  |false=>(b,d,v)::ou a e
def hd(b:Nat)(a:m an):m (Nat×y×Bool)->bJ
 |[]=>[]
 |(e,g,h)::d=>match h with
  |false=>(e,g)::hd b a d
  |true=>match nt b e a with
   |true=>hd b a d
   |false=>(e,g)::hd b a d
def Ky{e}{all}{o}:∀{I:bJ},look (hd e all (ou all I)) o=if jM o all=l/\nt e o all=l then .any else look I o
 |[]=>by simp[ou,hd,look]
 |(bz,b)::a=>by
  have h:=Ky (e:=e) (all:=all) (o:=o) (I:=a);have g:look ((bz,b)::hd e all (ou all a)) o=if ad bz o=l then b else look (hd e all (ou all a)) o:=RJ;have d:look ((bz,b)::a) o=if ad bz o=l then b else look a o:=RJ;cases x:jM bz all with
  |false=>
   simp[ou,x,hd];exact tZ
  |true=>
   cases aw:nt e bz all with
   |true=>
    exact OI
   |false=>
    exact OI
def fU(d:Nat->Bool):Nat->m (Option Nat×y)->bJ->bJ
 |_,[],a=>a
 |b,(g,i)::e,a=>match d b with
  |true=>match g with
   |some h=>(h,i)::fU d (b+1) e a
   |none=>fU d (b+1) e a
  |false=>fU d (b+1) e a
def vw{A:Nat->Bool}{I}{o}:∀{d:m (Option Nat×y)}{e:Nat},(∃u b,d[u]?=f (f o,b)/\A (e+u)=l/\look (fU A e d I) o=b)∨look (fU A e d I) o=look I o
 |[],e=>.inr rfl
 |(h,b)::g,e=>by
  have t:=vw (A:=A) (I:=I) (o:=o) (d:=g) (e:=e+1);have step:look (fU A e ((h,b)::g) I) o=look (fU A (e+1) g I) o->((∃u i,((h,b)::g)[u]?=f (f o,i)/\A (e+u)=l/\look (fU A e ((h,b)::g) I) o=i)∨look (fU A e ((h,b)::g) I) o=look I o):=by
   intro p;rw[p];rcases t with⟨u,i,r,j,C⟩|x
   .exact .inl ⟨u+1,i,by grind,by grind,C⟩
   grind
  cases k:A e with
  |false=>exact step (by simp[fU,k])
  |true=>
   cases h with
   |none=>exact step (by simp[fU,k])
   |some q=>
    by_cases w:ad q o=l
    .have p:=dn w;subst p;exact .inl ⟨0,b,a,by grind,by simp[fU,k,look]⟩
    have s:ad q o=v:=M;exact step (by simp[fU,k,look,s])
structure kX where
 a_:Nat
 pre:m (Option Nat×y)
 b:m aq
 b5:m (m Bool)
 dA:m Bool
 dI:m Bool
 cz:m Prop
def s'(a:Nat):m Nat->Bool
 |[]=>l
 |b::d=>match Nat.blt b a with|true=>s' a d|false=>v
def Dl{e}:∀{g:m Nat},s' e g=l->∀d∈g,d<e
 |[],_,d,b=>by grind
 |i::j,b,d,a=>by
  simp[s']at b;cases h:Nat.blt i e with
  |false=>grind
  |true=>
   simp[h]at b;rcases e9.1 a with rfl|a
   .simp_all
   exact Dl b d a
def gy:m Bool->Nat->Bool
 |[],_=>v
 |a::_,0=>a
 |_::d,b+1=>gy d b
def jP:m Bool->m Bool->m Bool
 |[],b=>b
 |true::a,[]=>l::a
 |false::a,[]=>v::a
 |true::a,_::b=>l::jP a b
 |false::a,l::b=>l::jP a b
 |false::a,v::b=>v::jP a b
def p_:∀{a b:m Bool}{d:Nat},gy (jP a b) d=(gy a d||gy b d)
 |[],b,d=>by exact cS
 |true::a,[],d=>by simp[jP,gy]
 |false::a,[],d=>by simp[jP,gy]
 |true::a,e::b,0=>by exact cS
 |true::a,e::b,d+1=>by simp[jP,gy];exact p_
 |false::a,l::b,0=>by exact cS
 |false::a,l::b,d+1=>by simp[jP,gy];exact p_
 |false::a,v::b,0=>by exact cS
 |false::a,v::b,d+1=>by simp[jP,gy];exact p_
def nE:Nat->m Bool
 |0=>[l]
 |a+1=>v::nE a
theorem xj:∀{b a:Nat},gy (nE b) a=decide (b=a)
 |0,0=>rfl
 |0,a+1=>by exact cS
 |b+1,0=>by exact cS
 |b+1,a+1=>by simp only[nE,gy,xj];simp
def lK(a:m (m Bool)):m Nat->m Bool
 |[]=>[]
 |b::d=>match c_ b a with
  |some e=>jP (jP e (nE b)) (lK a d)
  |none=>jP (nE b) (lK a d)
theorem BT{i}{u}:∀{k:m Nat},gy (lK i k) u=l->∃d∈k,d=u∨∃b,i[d]?=f b/\gy b u=l
 |[],a=>by exact cS
 |d::o,a=>by
  simp[lK,ld]at a;have qS:∀{j:Nat},gy (nE d) j=l->d=j:=by grind[xj]
  have h:gy (lK i o) u=l->∃g∈d::o,g=u∨∃b,i[g]?=f b/\gy b u=l:=by intro a;obtain⟨g,q,p⟩:=BT a;grind
  split at a
  .rename_i b e;rw[p_,p_,jD,jD]at a;grind
  rw[p_,jD]at a;grind
def pB:m Bool->m Bool->Bool
 |[],_=>l
 |true::a,l::b=>pB a b
 |true::_,_=>v
 |false::a,_::b=>pB a b
 |false::a,[]=>pB a []
theorem tD:∀{b d:m Bool}{u:Nat},pB b d=l->gy b u=l->gy d u=l
 |[],d,u,_,a=>by exact cS
 |true::b,l::d,0,_,_=>rfl
 |true::b,l::d,u+1,e,a=>by simp[gy]at a⊢;exact tD cS a
 |true::b,v::d,u,e,_=>by exact cS
 |true::b,[],u,e,_=>by exact cS
 |false::b,g::d,0,_,a=>by exact cS
 |false::b,g::d,u+1,e,a=>by simp[gy]at a⊢;exact tD cS a
 |false::b,[],0,_,a=>by exact cS
 |false::b,[],u+1,e,a=>by simp[gy]at a;have:=tD (u:=u) (by simpa[pB]using e) a;exact cS
def pz(u:m (Nat×cp))(o:m (Nat×bI))(t:Nat)(q:m (Nat×Bool))(e:m an)(k:m (Nat×y×Bool))(a:kX)(j:an):Option kX:=
 match fj t j.dst with
 |false=>n
 |true=>
  e0 (c9 j.after.toList) λh=>
  match s' a.a_ h with
  |false=>n
  |true=>match iy u o q e (fU (λr=>ek r h) 0 a.pre (hd a.a_ e k)) a.b j with
   |none=>n
   |some (s,i,b)=>
    e0 (lK a.b5 h) λg=>
    match i,mD (fU (λr=>ek r h) 0 a.pre (hd a.a_ e k)) j with
    |none,v=>e0 (a.pre++[(j.dst,s)]) λpre=>e0 (a.b5++[g]) λd=>e0 (gM b a.cz) λb=>f ⟨a.a_+1,pre,a.b,d,a.dA,a.dI,b⟩
    |none,l=>match pB a.dA g with
     |true=>e0 (a.pre++[(j.dst,s)]) λpre=>e0 (a.b5++[g]) λd=>e0 (gM b a.cz) λb=>e0 (jP a.dI (nE a.a_)) λp=>f ⟨a.a_+1,pre,a.b,d,a.dA,p,b⟩
     |false=>n
    |some i,_=>match pB a.dI g with
     |true=>e0 (a.pre++[(j.dst,s)]) λpre=>e0 (a.b5++[g]) λd=>e0 (gM b a.cz) λb=>e0 (jP a.dI (nE a.a_)) λp=>e0 (jP a.dA (nE a.a_)) λw=>f ⟨a.a_+1,pre,i,d,w,p,b⟩
     |false=>n
def y_(j:m (Nat×cp))(d:m (Nat×bI))(i:Nat)(g:m (Nat×Bool))(a:m an)(e:m (Nat×y×Bool)):m an->kX->Option kX
 |[],b=>f b
 |k::o,b=>match pz j d i g a e b k with
  |some h=>y_ j d i g a e o h
  |none=>n
def x0(k:m (Nat×cp))(d:m (Nat×bI))(j:Nat)(h:m (Nat×Bool))(a:m an)(i:bJ)(o:m aq):Option (bJ×m aq×m Prop):=
 match lk a with
 |false=>n
 |true=>e0 (ou a i) λg=>match y_ k d j h a g a ⟨0,[],o,[],[],[],[]⟩with
  |some b=>e0 (fU (λ_=>l) 0 b.pre (mL a i)) λe=>f (e,b.b,b.cz)
  |none=>n
def ev:an:=⟨n,.move (.tmp 0),0,"",#[],n⟩
section
variable (ac:m (Nat×cp))(CT:m (Nat×bI))(E:Nat)(bh:m (Nat×Bool))(all:m an)(cI:m (Nat×y×Bool))
def jF(a:kX):Nat->kX
 |0=>a
 |b+1=>(pz ac CT E bh all cI (jF a b) (all.getD b ev)).getD (jF a b)
def qn(a:kX)(b:Nat):bJ:=fU (λd=>ek d (c9 (all.getD b ev).after.toList)) 0 (jF ac CT E bh all cI a b).pre (hd (jF ac CT E bh all cI a b).a_ all cI)
def y9(a:kX)(b:Nat):Option (y×Option (m aq)×m Prop):=iy ac CT bh all (qn ac CT E bh all cI a b) (jF ac CT E bh all cI a b).b (all.getD b ev)
def r6(a:kX)(b:Nat):y:=match y9 ac CT E bh all cI a b with|some (d,_,_)=>d|none=>.any
def jk(a:kX)(b:Nat):Bool:=match y9 ac CT E bh all cI a b with|some (_,f _,_)=>l|_=>v
def qp(a:kX)(b:Nat):Bool:=!mD (qn ac CT E bh all cI a b) (all.getD b ev)&&!jk ac CT E bh all cI a b
def qd(a:kX)(b:Nat):m Bool:=lK (jF ac CT E bh all cI a b).b5 (c9 (all.getD b ev).after.toList)
end
section
variable {ac:m (Nat×cp)}{CT:m (Nat×bI)}{E:Nat}{bh:m (Nat×Bool)}{all:m an}{cI:m (Nat×y×Bool)}
structure F9(ac:m (Nat×cp))(CT:m (Nat×bI))(E:Nat)(bh:m (Nat×Bool))(all:m an)(cI:m (Nat×y×Bool))(b9 rX:kX)(r:an)(F:y)(ap:Option (m aq))(cz:m Prop):Prop where
 dst:fj E r.dst=l
 lt:s' b9.a_ (c9 r.after.toList)=l
 op:iy ac CT bh all (fU (λu=>ek u (c9 r.after.toList)) 0 b9.pre (hd b9.a_ all cI)) b9.b r=f (F,ap,cz)
 a_:rX.a_=b9.a_+1
 pre:rX.pre=b9.pre++[(r.dst,F)]
 b5:rX.b5=b9.b5++[lK b9.b5 (c9 r.after.toList)]
 b:rX.b=ap.getD b9.b
 cz:rX.cz=gM cz b9.cz
 iI:rX.dA=if ap.isSome=l then jP b9.dA (nE b9.a_)else b9.dA
 jy:rX.dI=if(mD (fU (λu=>ek u (c9 r.after.toList)) 0 b9.pre (hd b9.a_ all cI)) r||ap.isSome)=l then jP b9.dI (nE b9.a_)else b9.dI
 load:mD (fU (λu=>ek u (c9 r.after.toList)) 0 b9.pre (hd b9.a_ all cI)) r=l->ap.isSome=v->pB b9.dA (lK b9.b5 (c9 r.after.toList))=l
 ca:ap.isSome=l->pB b9.dI (lK b9.b5 (c9 r.after.toList))=l
def MA{b9 h}(b:pz ac CT E bh all cI b9 r=f h):∃k d g,F9 ac CT E bh all cI b9 h r k d g:=by
 unfold pz at b;split at b
 .cases b
 rename_i j;simp[hz]at b;split at b
 .cases b
 rename_i i;split at b
 .cases b
 rename_i k d g e;refine⟨k,d,g,?_⟩;cases d with
 |none=>
  cases m:mD (fU (λo=>ek o (c9 r.after.toList)) 0 b9.pre (hd b9.a_ all cI)) r with
  |false=>
   simp[m,hz]at b;cases b;exact⟨j,i,e,a,a,a,a,a,by simp,by grind,by grind,by simp⟩
  |true=>
   simp[m,hz]at b;split at b
   .rename_i s;cases b;exact⟨j,i,e,a,a,a,a,a,by simp,by grind,λ_ _=>s,by simp⟩
   grind
 |some d=>
  simp[hz]at b;split at b
  .rename_i s;cases b;exact⟨j,i,e,a,a,a,a,a,by simp,by simp,by simp,λ_=>s⟩
  grind
def L5{b9 d}:∀{bq:m an}{h:Nat},(∀a,bq[a]?=all[h+a]?)->y_ ac CT E bh all cI bq (jF ac CT E bh all cI b9 h)=f d ->
  (∀a g,bq[a]?=f g->pz ac CT E bh all cI (jF ac CT E bh all cI b9 (h+a)) g=f (jF ac CT E bh all cI b9 (h+a+1)))/\jF ac CT E bh all cI b9 (h+c bq)=d
 |[],h,_,b=>by cases b;grind
 |p::q,h,e,b=>by
  simp[y_]at b;have k:all[h]?=f p:=by have:=e 0;grind
  split at b
  .rename_i i j;have o:jF ac CT E bh all cI b9 (h+1)=i:=by simp[jF,ak,k,h0,j]
   rw[<-o]at b;obtain⟨s,r⟩:=L5 (bq:=q) (h:=h+1) (λa=>by have:=e (a+1);grind) b;grind
  grind
theorem qB:∀{a:m Nat},ek u a=l->u∈a:=by
 intro a;induction a with
 |nil=>intro b;cases b
 |cons d g e=>
  intro b;simp[ek]at b;exact tZ
def Tv{aO:af P}(a4:P.follows Departure.mixedOrders=l)(aY:b2 P ac)(aR:a_ aO CT){aN}(t:x0 ac CT E bh aQ.toList I k=f (aN,ap,cn))(bJ:U cn){aM}(bD:aM .normal aN ap)(id):
  b3 aO E (.region id aQ l) aM I k:=by
 unfold x0 at t;split at t
 .cases t
 rename_i bm;rw[hz]at t;split at t
 case h_2=>cases t
 rename_i ah aD;rw[hz]at t;cases t;generalize bE:aQ.toList=g at *;generalize aE:ou g I=cI at *;have bs:∀e:Nat,aQ[e]?=g[e]?:=λe=>by grind
 have bb:aQ.size=c g:=M;let m:kX:=⟨0,[],k,[],[],[],[]⟩
 obtain⟨bQ,bR⟩:=L5 (ac:=ac) (CT:=CT) (E:=E) (bh:=bh) (cI:=cI) (b9:=m) (bq:=g) (h:=0) (λe=>by simp) aD;simp only[cX]at bQ bR;let j:=jF ac CT E bh g cI m;have aJ:∀e r,g[e]?=f r->g.getD e ev=r:=λe r t=>by grind
 have ai:∀e r,g[e]?=f r->qn ac CT E bh g cI m e=(fU (λi=>ek i (c9 (r).after.toList)) 0 (j e).pre (hd (j e).a_ g cI)):=λe r t=>by unfold qn;grind
 have C:∀e r,g[e]?=f r->∃bn,F9 ac CT E bh g cI (j e) (j (e+1)) r (r6 ac CT E bh g cI m e) (if jk ac CT E bh g cI m e=l then f (j (e+1)).b else n) bn:=by
  intro e r cl;obtain⟨aK,z,bn,p⟩:=MA (bQ e r cl);have aI:=p.op;have ax:y9 ac CT E bh g cI m e=f (aK,z,bn):=by unfold y9 qn;grind
  have bL:r6 ac CT E bh g cI m e=aK:=by unfold r6;rw[ax]
  cases z with
  |none=>
   have R:jk ac CT E bh g cI m e=v:=by unfold jk;rw[ax]
   grind
  |some bk=>
   have R:jk ac CT E bh g cI m e=l:=by unfold jk;rw[ax]
   have bM:(j (e+1)).b=bk:=p.b;grind
 have br:∀e,e<=c g->(j e).a_=e:=by
  intro e;induction e with
  |zero=>intro _;rfl
  |succ e N=>
   intro bp;obtain⟨_,p⟩:=C e _ (bH w);rw[p.a_,N w]
 have W:∀e,e<=c g->∀i,(j e).pre[i]?=if i<e then(g[i]?).map (λr=>(r.dst,r6 ac CT E bh g cI m i))else n:=by
  intro e;induction e with
  |zero=>intro _ i;exact cS
  |succ e N=>
   intro bp i;obtain⟨_,p⟩:=C e _ (bH w);have T:(j e).pre.length=e:=by
    apply Nat.le_antisymm
    .grind
    grind
   rw[p.pre];grind
 have av:∀e,e<=c g->∀i,(j e).b5[i]?=if i<e then f (qd ac CT E bh g cI m i)else n:=by
  intro e;induction e with
  |zero=>intro _ i;exact cS
  |succ e N=>
   intro bp i;obtain⟨_,p⟩:=C e _ (bH w);have T:(j e).b5.length=e:=by
    apply Nat.le_antisymm
    .apply Nat.le_of_not_lt;intro aH;have:=N w e;grind
    grind
   rw[p.b5];by_cases S:i<e
   .grind
   rw[hl w];by_cases q:i=e
   .subst q;rw[bo w,T,ss];simp only[mg,qd,aJ i _ (bH (by omega:i<c g))];rfl
   grind
 have bx:∀e,e<=c g->∀i,gy (j e).dA i=(decide (i<e)&&jk ac CT E bh g cI m i):=by
  intro e;induction e with
  |zero=>intro _ i;exact cS
  |succ e N=>
   intro bp i;obtain⟨_,p⟩:=C e _ (bH w);rw[p.iI];cases R:jk ac CT E bh g cI m e with
   |false=>
    grind
   |true=>
    simp only[dv,Option.isSome_some];rw[p_,N w i,xj,br e w];by_cases q:i=e
    .grind
    grind
 have bd:∀e,e<=c g->∀i,gy (j e).dI i=(decide (i<e)&&!qp ac CT E bh g cI m i):=by
  intro e;induction e with
  |zero=>intro _ i;exact cS
  |succ e N=>
   intro bp i;obtain⟨_,p⟩:=C e _ (bH w);have ag:(if jk ac CT E bh g cI m e=l then f (j (e+1)).b else n).isSome=jk ac CT E bh g cI m e:=by cases jk ac CT E bh g cI m e<;>rfl
   have an:qp ac CT E bh g cI m e=!(mD (fU (λi=>ek i (c9 (g[e]'w).after.toList)) 0 (j e).pre (hd (j e).a_ g cI)) (g[e]'w)||jk ac CT E bh g cI m e):=by unfold qp;rw[ai e _ (bH w),aJ e _ (bH w)];simp
   rw[p.jy,ag];cases R:(mD (fU (λi=>ek i (c9 (g[e]'w).after.toList)) 0 (j e).pre (hd (j e).a_ g cI)) (g[e]'w)||jk ac CT E bh g cI m e)with
   |false=>
    grind
   |true=>
    simp only[dv];rw[p_,N w i,xj,br e w];by_cases q:i=e
    .grind
    grind
 have V:∀e,e<=c g->U (j e).cz:=by
  have au:∀h e,e+h=c g->U (j e).cz:=by
   intro h;induction h with
   |zero=>
    grind
   |succ h N=>
    intro e bp;obtain⟨_,p⟩:=C e _ (bH w);have:=N (e+1) w;rw[p.cz,U.X]at this;exact this.2
  intro e bp;exact au (c g-e) e w
 have b4:∀e r,g[e]?=f r->aZ aO E g r (qn ac CT E bh g cI m e) (j e).b (r6 ac CT E bh g cI m e) (j (e+1)).b:=by intro e r cl;have bp:e<c g:=(cO.1 cl).1;obtain⟨_,p⟩:=C e r cl;have nu:=V (e+1) w;rw[p.cz,U.X]at nu;have:=ee (P:=P) (E:=E) aY aR p.op nu.1;rw[p.b];grind
 let idx:Nat->Option Nat:=λo=>(aB (c g)).find? (λe=>decide ((g.getD e ev).dst=f o));have b5:∀o i,idx o=f i->∃r,g[i]?=f r/\r.dst=f o:=M;have bP:∀e r aw,g[e]?=f r->r.dst=f aw->idx aw=f e:=by
  intro e r aw cl O;have bp:e<c g:=(cO.1 cl).1;cases bL:idx aw with
  |none=>
   grind
  |some i=>
   grind[DB]
 have b8:∀o,jM o g=l↔∃i,idx o=f i:=by grind[C0,vg]
 have b7:∀e r,g[e]?=f r->∀q∈r.after,eS q=l->q.on<e:=by intro e r cl q R Y;have bp:e<c g:=(cO.1 cl).1;obtain⟨_,p⟩:=C e r cl;have:=Dl p.lt q.on (l1.2 ⟨q,by grind,Y,rfl⟩);grind
 have bl:=b7;have O:q7 aO E aQ I (λe=>(j e).b) (r6 ac CT E bh g cI m) (qn ac CT E bh g cI m) (qp ac CT E bh g cI m) (λe=>decide (e<c g)&&jk ac CT E bh g cI m e) (λe i=>e<c g/\gy (qd ac CT E bh g cI m e) i=l) idx (fU (λ_=>l) 0 ah.pre (mL g I)):=by
  refine⟨a4,M,?_,?_,?_,?_,?_,?_,?_,?_,?_⟩
  .intro e r aw cl O;rw[bs]at cl;obtain⟨_,p⟩:=C e r cl;exact⟨bP e r aw cl O,k9 p.dst aw O⟩
  .grind
  .intro e R;rcases dT e (c g) with bp|bp
   .obtain⟨_,p⟩:=C e _ (bH bp);have:jk ac CT E bh g cI m e=v:=M;have b1:=p.b;grind
   have bz:g.getD e ev=ev:=M;show(j (e+1)).b=(j e).b;have:pz ac CT E bh g cI (j e) ev=n∨∃aG,pz ac CT E bh g cI (j e) ev=f aG:=by
    cases pz ac CT E bh g cI (j e) ev with
    |none=>grind
    |some aG=>grind
   show((pz ac CT E bh g cI (j e) (g.getD e ev)).getD (j e)).b=(j e).b;rw[bz];rcases this with t|⟨aG,t⟩
   .grind
   rw[t];obtain⟨aK,z,bN,p⟩:=MA t;have aI:=p.op;have:z=n:=by unfold iy at aI;simp only[ev,po,yT,u1,vb]at aI;grind
   rw[h0,p.b,this];rfl
  .grind
  .intro e r cl ae;rw[bs]at cl;have bp:e<c g:=(cO.1 cl).1;have aF:mD (fU (λi=>ek i (c9 (r).after.toList)) 0 (j e).pre (hd (j e).a_ g cI)) r=v/\jk ac CT E bh g cI m e=v:=by unfold qp at ae;grind
   refine⟨by grind,λh=>?_⟩;obtain⟨bN,p⟩:=C e r cl;have aI:=p.op;rw[aF.2]at aI;have aC:=aaq aF.1 (by simpa using aI) (j h).b;have nu:=V (e+1) w;rw[p.cz,U.X]at nu;have:=ee (P:=P) (E:=E) aY aR aC nu.1;grind
  .intro L cc e i ⟨bp,Y⟩;have aj:∀e,e<c g->L e->∀q,q∈c9 (g.getD e ev).after.toList->L q:=by intro e bp al q R;rw[aJ e _ (bH bp)]at R;obtain⟨bu,s,u,rfl⟩:=l1.1 R;grind
   have key:∀e,e<c g->∀i,gy (qd ac CT E bh g cI m e) i=l->(∀q∈c9 (g.getD e ev).after.toList,L q)->L i:=by
    intro e;induction e using Nat.strongRecOn with
    |_ e N=>
     intro bp i Y aT;obtain⟨q,R,t⟩:=BT Y;have aH:q<e:=by have Q:=R;rw[aJ e _ (bH bp)]at Q;obtain⟨bu,s,u,rfl⟩:=l1.1 Q;grind
     rcases t with rfl|⟨bT,bF,a0⟩
     .grind
     have:=av e w q;rw[bo aH]at this;have aW:(j e).b5[q]?=f bT:=bF;rw[aW]at this;cases this;exact N q aH w i a0 (aj q w (aT q R))
   refine⟨λal=>key e bp i Y (aj e bp al),g[e],by grind,λbK=>key e bp i Y ?_⟩;grind[List.getElem?_eq_getElem,l1]
  .intro e Z bp y R bY aq;rw[bb]at bp y;have Q:jk ac CT E bh g cI m Z=l:=M;rcases dT Z e with aH|bX
   .refine .inl ⟨aH,bp,?_⟩;obtain⟨_,p⟩:=C e _ (bH bp);have K:qd ac CT E bh g cI m e=lK (j e).b5 (c9 (g[e]).after.toList):=by unfold qd;grind
    rw[K];cases a2:jk ac CT E bh g cI m e with
    |true=>
     have s:=p.ca M;refine tD s ?_;rw[bd e w Z];have:qp ac CT E bh g cI m Z=v:=by unfold qp;grind
     grind
    |false=>
     have a6:mD (fU (λi=>ek i (c9 (g[e]).after.toList)) 0 (j e).pre (hd (j e).a_ g cI)) g[e]=l:=by unfold qp at aq;rw[ai e _ (bH bp),aJ e _ (bH bp),a2]at aq;grind
     have s:=p.load a6 M;grind[tD]
   have aH:e<Z:=w;refine .inr ⟨aH,y,?_⟩;obtain⟨_,p⟩:=C Z _ (bH y);have K:qd ac CT E bh g cI m Z=lK (j Z).b5 (c9 (g[Z]).after.toList):=by unfold qd;grind
   rw[K];have s:=p.ca M;grind[tD]
  .intro e r cl o k b aa ab;rw[bs]at cl;have bp:e<c g:=(cO.1 cl).1;unfold qn;rw[aJ e r cl];rcases vw (A:=λi=>ek i (c9 r.after.toList)) (I:=hd (j e).a_ g cI) (o:=o) (d:=(j e).pre) (e:=0)with⟨i,aK,s,u,x⟩|x
   .have J:look (fU (λi=>ek i (c9 r.after.toList)) 0 (jF ac CT E bh g cI m e).pre (hd (jF ac CT E bh g cI m e).a_ g cI)) o=aK:=x;rw[J];have B:=W e w i;rw[s]at B;have S:i<e:=M;rw[bo S,bH (by omega:i<c g)]at B;simp only[lE,e3,lF]at B;obtain⟨a',b0⟩:=B;have aL:=bP i _ o (bH (by omega:i<c g)) a'.symm;rw[aL]at ab;simp only at ab;rw[bo]at ab
    .grind
    have aA:i∈c9 r.after.toList:=by simp only[cX]at u;exact qB u
    obtain⟨q,bS,b_,bT⟩:=l1.1 aA;grind
   have J:look (fU (λi=>ek i (c9 r.after.toList)) 0 (jF ac CT E bh g cI m e).pre (hd (jF ac CT E bh g cI m e).a_ g cI)) o=look (hd (j e).a_ g cI) o:=x;rw[J,br e w,<-aE,Ky];split
   .trivial
   rename_i bZ;cases aL:idx o with
   |some i=>
    have cb:=(b8 o).2 ⟨i,aL⟩;have bB:nt e o g=v:=M;obtain⟨bf,a8,a1⟩:=b5 o i aL;have bI:=qB (J0 bB i bf a8 a1);obtain⟨q,R,Y,heq⟩:=l1.1 bI;rw[aL]at ab;simp only at ab;split at ab
    ·
     rename_i a3;obtain⟨ca,bV,bU,bG⟩:=a3;grind
    rw[bo ⟨bf,by grind,q,by grind,Y,heq⟩]at ab;exact ab
   |none=>grind
  intro o k b aa ab;have bA:j (c g)=ah:=bR;rcases vw (A:=λ_=>l) (I:=mL g I) (o:=o) (d:=ah.pre) (e:=0)with⟨i,aK,s,_,x⟩|x
  .rw[x];have B:=W (c g) (bC _) i;rw[bA,s]at B;have S:i<c g:=M;grind
  rw[x,s_];split
  .trivial
  grind
 intro b bS an a5 b_ cd b' b6 Y aV;have aS:j aQ.size=ah:=M;refine .next a λF H=>?_;have H:=aO.bH H;have G:=a5.rely H;have az:=an.rely H a5;have X:cN k F k {F with a:={F.a with drawn:=F.a.drawn+1}}:=cN.same rfl rfl rfl rfl;have ao:bc k {F with a:={F.a with drawn:=F.a.drawn+1}}:=G.same rfl;have bg:=H.aU.trans (X.tooV G);refine⟨_,{F with a:={F.a with drawn:=F.a.drawn+1}},#[],Eb,⟨⟨k,k,G,ao,X⟩,.nil⟩,?_⟩;simp only[Region.schedule,a4,Bool.true_or,dv];refine O.eP Y (cG:={F with a:={F.a with drawn:=F.a.drawn+1}}) (λbO bt aP u ar=>?_) aQ.size _ D ?_ ?_ 0 _ bS w ?_ ?_ ao (.refl _ _) _
 .simp only[aS]at aP u ar;exact aV .normal _ _ bO bt bD aP u (bg.trans ar)
 .simp
 .exact E'
 .intro Z y bW;exact wt
 have aF:=az.mono (X.tooV G) G.len;refine⟨aF.size,aF.defers,λo=>?_⟩;unfold gG;cases aL:idx o with
 |none=>exact aF.aL o
 |some i=>
  simp only;rw[bj]
  .exact aF.aL o
  exact wt
end
section
variable {q:af P}
theorem g.iF(e:P.follows Departure.mixedOrders=l)(aY:b2 P ac)(b:a_ q CT){a}{id}(h:x0 ac CT E bh aQ.toList I k=f (a,ap,cn))(d:U cn)(i:g q E bd au .normal a ap):g q E bd (.code (.region id aQ l)::au) .normal I k:=
 Tv e aY b h d i id
end
def rY(x:m (Nat×cp))(p:m (Nat×bI))(k:m (Nat×Bool))(w:Nat)(b:m ik)(a:bJ)(e:m aq):Option (m ik×bJ×m aq×m Prop):=
 match b with
 |[]=>n
 |.blk _::b=>f (b,a,e,[])
 |.aj _ []::b=>f (b,a,e,[])
 |.aj g (q::i)::b=>match fj w q.dst with
  |true=>match iy x p k g a e q with
   |some (o,n,d)=>e0 (ga q.dst o a) λa=>f (.aj g i::b,a,e,d)
   |some (o,f j,d)=>e0 (ga q.dst o a) λa=>f (.aj g i::b,a,j,d)
   |none=>n
  |false=>n
 |.code t::b=>match t with
  |.skip=>f (b,a,e,[])
  |.seq o u=>f (.code o::.code u::b,a,e,[])
  |.block id t=>f (.code t::.blk id::b,a,e,[])
  |.region id h y=>match vv k (id+900)with
   |some _=>n
   |none=>match y with
    |false=>f (.aj h.toList h.toList::b,a,e,[])
    |true=>match x0 x p w k h.toList a e with
     |some (r,j,d)=>f (b,r,j,d)
     |none=>n
  |.exit id=>match iT id b with
   |some s=>f (s,a,e,[])
   |none=>n
  |.cond (.tmp z) o u=>match look a z with
   |.n (.Q (.c (.bool l)))=>f (.code o::b,a,e,[])
   |.n (.Q (.c (.bool v)))=>f (.code u::b,a,e,[])
   |_=>n
  |_=>n
theorem acn{d:af P}(p:P.follows Departure.mixedOrders=l)(aY:b2 P ac)(aw:a_ d CT){C}{a}(t:rY ac CT bh E au I k=f (C,a,ap,cn))(cl:U cn)(h:g d E bd C .normal a ap):g d E bd au .normal I k:=by
 unfold rY at t;split at t
 .cases t
 .grind [g.ir]
 .grind [g.hE]
 .rename_i all r bq b;cases e:fj E r.dst with
  |false=>grind
  |true=>
   simp[e]at t;have aj:=k9 e;split at t
   .rename_i m j i;exact Q3
   .rename_i m aS j i;exact Q3
   grind
 rename_i o b;split at t
 .grind [g.skip]
 .grind [g.seq]
 .grind [g.block]
 .grind [g.region,g.iF]
 .grind [g.exit]
 .grind [g.cond]
 grind
def kR(o:m (Nat×cp))(b:m (Nat×bI))(d:m (Nat×Bool))(k:Nat):Nat->m ik->bJ->m aq->m Prop->Option (m ik×bJ×m aq×m Prop)
 |0,g,e,h,a=>e0 a λa=>f (g,e,h,a)
 |q+1,g,e,h,a=>match rY o b d k g e h with
  |some (p,i,j,r)=>kR o b d k q p i j (gM r a)
  |none=>e0 a λa=>f (g,e,h,a)
def L4{P}{q:af P}(u:P.follows Departure.mixedOrders=l){ac}(aY:b2 P ac){CT}(w:a_ q CT){bh}{E}{bd}:∀{s:Nat}{i p:m ik}{h d:bJ}{j e:m aq}{b a:m Prop},
  kR ac CT bh E s i h j b=f (p,d,e,a)->U a->g q E bd p .normal d e->g q E bd i .normal h j/\U b
 |0,i,p,h,d,j,e,b,a,k,o,r=>by simp[kR,hz]at k;grind
 |s+1,i,p,h,d,j,e,b,a,k,o,r=>by
  simp[kR]at k;cases x:rY ac CT bh E i h j with
  |none=>
   grind[hz]
  |some y=>
   obtain⟨A,z,t,D⟩:=y;simp[x]at k;obtain⟨C,B⟩:=L4 u aY w k o r;grind[U.X,acn]
def g.aN{b:af P}(m:P.follows Departure.mixedOrders=l)(aY:b2 P ac)(d:a_ b CT)(bh)(j){i}{a}{h}(o:AM.kR ac CT bh E j au I k []=f (i,a,ap,h))(e:U h)(p:g b E bd i .normal a ap):g b E bd au .normal I k:=(L4 m aY d o e p).1
section
variable {q:af P}
def pv(e:m ResultVar)(b:m Nat)(g:bJ)(a:y):Option (m Prop):=
 match oz g e with
 |some d=>match pf d with
  |some h=>match hO (c b) a with
   |true=>kj h (fc b a)
   |false=>n
  |none=>n
 |none=>n
def g.aH{fn}{x}{res}(aV)(t:pv fn.results.toList aV I res=f Z)(O:U Z)(bX:∀u,u<x->aV[u]?=f u)(s:dx aV k=f ap:=by exact rfl)(i:l3 ap=l:=by exact rfl)(jm:fb aV=l:=by exact rfl):
  g q E (bY fn x res ap) (.code .ret::au) .normal I k:=by refine g.ret ⟨.inl a,aV,?_⟩;unfold pv at t;grind
def g.ao{fn}{res}(t:pv fn.results.toList [] I res=f Z)(x:U Z:=by simp):g q E (bY fn 0 res []) (.code .ret::au) .normal I k:=
 g.aH [] t x (λu t=>by omega)
def bY.zero{fn}{res}(t:pv fn.results.toList [] I res=f Z)(s:U Z:=by simp):bY fn 0 res [] .ret I k:=by
 refine⟨.inl a,[],?_⟩;unfold pv at t;split at t
 .rename_i bh Y2;split at t
  .rename_i O i;split at t
   .rename_i x;exact⟨bh,O,Z,Y2,i,t,s,x,a,a,a,λu t=>by omega⟩
   grind
  grind
 grind
def g.bs{id}{R:bJ->m aq->Prop}{As}{d C}(j:iT id au=n)(o:iT id d=f C)(w:g q E As C .normal I k):
  g q E (λh b e=>match h with
   |.normal=>R b e
   |h=>g q E As d h b e) (.code (.exit id)::au) .normal I k:=by
 have key:∀{au:m ik},iT id au=n->∀{aM:fw},aM (.exit id) I k->g q E aM au (.exit id) I k:=by
  intro au;induction au with
  |nil=>intro _ aM i;exact i
  |cons u A r=>
   intro a aM i;cases u with
   |code z=>exact r (by simpa[iT]using a) i
   |aj x y=>exact r (by simpa[iT]using a) i
   |blk s=>
    simp[iT]at a;cases p:ad id s with
    |true=>grind
    |false=>
     simp[p]at a;have t:id≠s:=λh=>by grind[Nat.beq_refl]
     simp[g,t,dm];grind
 exact b3.exit (key j (g.toExit o w))
def g.bQ{R:bJ->m aq->Prop}{a}{h}(i:a .ret I k):
  g q E (λe b d=>match e with
   |.normal=>R b d
   |e=>g q E a h e b d) (.code .ret::au) .normal I k:=g.ret (g.dK (bd:=a) i)
def g.again{i:Type}{r:i->Prop}{e:i->bJ}{h:i->m aq}{j:i->Nat}{s}{o:fw}(a)(w:iX I (e a)=f Z)(x:U Z)(y:r a)(u:j a<j s)(t:k=h a):
  g q E (λp b d=>match p with
   |.normal=>∃a,r a/\j a<j s/\iB b (e a)/\d=h a
   |p=>o p b d) [] .normal I k:=⟨a,y,u,eH w x,t⟩
def g.eh{j:Type}(i:j->Prop)(a:j->bJ)(b:j->m aq)(p:j->Nat)(d)(u:iX I (a d)=f Z)(w:U Z)(x:i d)(t:b d=k)(round:∀d,i d->g q E (λr e h=>match r with
   |.normal=>∃o,i o/\p o<p d/\iB e (a o)/\h=b o
   |r=>g q E bd au r e h) [.code s] .normal (a d) (b d)):g q E bd (.code (.loop s)::au) .normal I k:=
 g.loop i a b p d x (eH u w) t round
def kw(args:m y)(a:m aq):Prop:=∃b z,b4 a b z args/\bc a b
def kw.at{args}(e:kw args k){a}(g:args[u]?=f a):∃b h,bx k b h a:=by obtain⟨b,z,d,_⟩:=e;obtain⟨_,i⟩:=b4.get d;grind
def kw.T{args}{k}(e:kw args k)(h:Nat){d}(a:args[h]?=f (ax (.T d))):c d<=9223372036854775807:=by
 obtain⟨i,j,g⟩:=e.at a;cases b7 g with
 |T e b=>exact b
def kw.B{args}{k}(g:kw args k)(p:Nat){o}{h j}{a:Nat->m N}(b:args[p]?=f (ax (.B o h j a))):j<=9223372036854775807:=by
 obtain⟨t,u,e⟩:=g.at b;cases b7 e with
 |B r d s q i=>omega
def X.body{i}{fn}{args}{res}(h:P.funcs[i]?=f fn)(e:(fn.name== "runtime.NumGoroutine")=v)(d:fn.body=f s)(m:ay args.length fn.ntmps=l)(o:kw args k->g q fn.ntmps (bY fn k.length res ap) [.code s] .normal (h2 0 args) k):X q i args k res ap:=by refine⟨⟨fn,h,e,by grind⟩,λj z b a=>?_⟩;exact(X.intro h e d (fs m) (g.aO (o ⟨j,z,b,a⟩))).2 j z b a
def X.J{b}{fn}{s}{args}{k ap}{res}(d:P.funcs[b]?=f fn)(a:(fn.name== "runtime.NumGoroutine",fn.body,ay args.length fn.ntmps)=(v,f s,l))(e:kw args k->g q fn.ntmps (bY fn k.length res ap) [.code s] .normal (h2 0 args) k):X q b args k res ap:=by simp only[lF]at a;exact X.body d a.1 a.2.1 a.2.2 e
def g.cg{i}(a)(ap)(j:(∀h(b:m Prop),iX h a=f b->U b->g q E bd (.code s::i) .normal h ap)->g q E bd au .normal I k)(o:g q E bd (.code s::i) .normal a ap):g q E bd au .normal I k:=
 j λ_ _ d e=>b3.le o (eH d e)
end
def lW{e}(a:P.types[o]?=f e):P.info? o=f e:=by unfold Tables.info?;rw[bo (jb.1 a).1];exact a
def b2.nil:b2 P []:=λ_ _ a=>by cases a
def b2.cons{e}(g:eJ P o e)(h:b2 P ac):b2 P ((o,e)::ac):=by
 intro t2 d a;simp only[bZ]at a;cases b:ad o t2 with
 |true=>rw[b]at a;cases a;rw[<-dn b];exact g
 |false=>rw[b]at a;exact h t2 d a
abbrev ER:N:=.B l 0 0 (λ_=>[])
def w8:Y->N
 |.int a _=>.int a 0
 |.bool _=>.bool v
 |.string _=>.T []
 |.slice _ _ _=>ER
 |.pointer _=>.bo
 |.nilIface=>.bD
 |_=>.dp
def cb(a b:TypeInfo)(d:m TypeDesc:=[]):cp:=⟨a.size,a.bytes,vn b.desc,b.desc,a.zero.elim [] λe=>e.cells.toList.map w8,d⟩
def yR(b i:TypeInfo):Bool:=match b.zero with
 |some a=>a.cells.size==b.size&&a.cells.toList.all (λj=>match j with|.int e g=>g==0&&vl e 0|.bool d=>!d|.string h=>h.data.toList.isEmpty|.slice n 0 0|.pointer n|.nilIface|.nilFunc=>l|_=>v)&&(!vn i.desc||match a with|.agg _=>l|_=>v)
 |none=>v
def eJ.h4{j k:TypeInfo}{r:m TypeDesc}(A:P.underlying o=f k.desc)(B:P.types[o]?=f j)(g:yR j k=l)(C:r≠[]->P.eqGuardType P.depth o=v/\∀(s:ar)(z e:m Y)(t:Bool),ni r z e=f t->(Op.equal o (.agg z.toArray) (.agg e.toArray)).run P s=.ok t s/\∀i,(Op.equal o (.agg z.toArray) (.agg e.toArray)).events P s i=i):eJ P o (cb j k r):=by
 unfold yR at g;cases h:j.zero with
 |none=>rw[h]at g;cases g
 |some u=>
  simp only[h,ck,gL,aX]at g;obtain⟨⟨p,q⟩,w⟩:=g;refine⟨A,a,⟨j,u,lW B,a,a,h,?_,?_,by simp[cb,h,p]⟩,C⟩
  .simp only[cb,h,Option.elim,ux];refine p5 λD x=>?_;have:=q D x;split at this<;>try simp only[ck,gL,List.isEmpty_iff,jc]at this
   .obtain⟨rfl,d⟩:=this;simp[k2,w8,d]
   .simp[k2,w8,this]
   .rename_i b;have d:b.size=0:=by rw[show b.size=c b.data.toList from a,this];rfl
    simp only[Function.comp,k2,w8,this,d];rfl
   all_goals first|rfl|cases this
  by_cases y:vn k.desc=l
  .cases u<;>simp_all[cb]
  exact⟨#[],(bj y).symm⟩
def b2.d_{d e:TypeInfo}(b:P.underlying o=f e.desc)(h:P.types[o]?=f d)(g:yR d e=l)(i:b2 P ac):b2 P ((o,cb d e)::ac):=.cons (.h4 b h g λb=>absurd a b) i
def b2.j'{d b:TypeInfo}{e:TypeDesc}{g:m TypeDesc}{a:m Field}(h:P.underlying o=f b.desc)(r:P.types[o]?=f d)(i:yR d b=l)(k:b.desc=.struct a.toArray)(j:P.stoodInHeld o=v)(p:P.eqGuardType P.depth o=v)(q:wL P (e::g) a 0)(s:b2 P ac):b2 P ((o,cb d b (e::g))::ac):=.cons (.h4 h r i λ_=>YL (h.trans (eD f k)) j p q) s
namespace R1
section
noncomputable def d8:cp:=cb t3 t3
noncomputable def sW:cp:=cb t9 t9
noncomputable def Y':cp:=cb t31 t31
noncomputable def rG:cp:=cb t45 t44 [.string,.string]
noncomputable def C6:cp:=cb t46 t46
noncomputable def vi:cp:=cb t54 t53 [.int .i64,.int .i64]
noncomputable def yv:cp:=cb t56 t55 [.int .i64,.int .i64]
noncomputable def Za:cp:=cb t69 t69
noncomputable def C7:cp:=cb t78 t78
noncomputable def nv:cp:=cb t80 t79
noncomputable def rH:cp:=cb t84 t83
noncomputable def mA:cp:=cb t114 t113 [.int .i64,.string]
noncomputable def yt:cp:=cb t116 t115
noncomputable def yu:cp:=cb t232 t232
noncomputable def rF:cp:=cb t244 t243 [.string,.bool]
noncomputable def pc:cp:=cb t253 t252 [.int .i64,.int .i64]
noncomputable def C5:cp:=cb t273 t78
noncomputable def eO:m (Nat×cp):=[(2,cb t2 t2),(3,d8),(4,cb t4 t4),(5,cb t5 t5),(6,cb t6 t5),(7,cb t7 t7),(8,cb t8 t7),(9,sW),(12,cb t12 t12),(16,cb t16 t16),(17,cb t17 t17),(20,cb t20 t20),(21,cb t21 t21),(22,cb t22 t22),(23,cb t23 t23),(26,cb t26 t26),(27,cb t27 t27),(28,cb t28 t28),(30,cb t30 t29),(31,Y'),(33,cb t33 t32),(35,cb t35 t34 [.int .i64,.int .i64,.int .i64,.string]),(36,cb t36 t36),(38,cb t38 t37),(45,rG),(46,C6),(49,cb t49 t48),(54,vi),(56,yv),(61,cb t61 t61),(69,Za),(71,cb t71 t71),(73,cb t73 t73),(74,cb t74 t74),(78,C7),(80,nv),(82,cb t82 t82),(84,rH),(90,cb t90 t90),(94,cb t94 t93),(114,mA),(116,yt),(125,cb t125 t124),(157,cb t157 t157),(167,cb t167 t26),(169,cb t169 t168),(177,cb t177 t176),(180,cb t180 t180),(182,cb t182 t182),(191,cb t191 t191),(201,cb t201 t201),(213,cb t213 t212 [.string]),(218,cb t218 t218),(219,cb t219 t12),(221,cb t221 t220),(224,cb t224 t223),(226,cb t226 t5),(232,yu),(234,cb t234 t233),(235,cb t235 t233),(236,cb t236 t233),(237,cb t237 t237),(239,cb t239 t238),(240,cb t240 t240),(242,cb t242 t241),(244,rF),(253,pc),(264,cb t264 t264),(269,cb t269 t269),(272,cb t272 t272),(273,C5),(282,cb t282 t282),(285,cb t285 t285),(287,cb t287 t287),(288,cb t288 t288),(306,cb t306 t306),(308,cb t308 t307),(319,cb t319 t3),(330,cb t330 t330),(333,cb t333 t332),(334,cb t334 t3),(340,cb t340 t339),(354,cb t354 t354),(357,cb t357 t237),(360,cb t360 t360),(376,cb t376 t376),(379,cb t379 t379),(392,cb t392 t391 [.int .u8,.int .u8]),(393,cb t393 t393),(394,cb t394 t394),(397,cb t397 t397),(399,cb t399 t398),(401,cb t401 t5),(403,cb t403 t21),(404,cb t404 t21),(406,cb t406 t405),(412,cb t412 t411 [.string])]
end
def bb:b2 T eO:=by
 unfold eO
 repeat' first|exact b2.nil|refine b2.j' bU bU bU rfl bU bU (by repeat' first|exact B|kernel_rfl|refine⟨by decide,rfl,?_,?_⟩|refine⟨?_,?_⟩) ?_|refine b2.d_ bU bU bU ?_
end R1
abbrev bA:=m UInt8
abbrev b1(a:bA):y:=ax (.T a)
abbrev Q(a:Int):y:=ax (.int .i64 a)
abbrev u0(a:Int):y:=ax (.int .u8 a)
abbrev bf(a:Bool):y:=ax (.bool a)
def xo{b}:kD b e=b.getD e 0:=rfl
namespace R1
variable {q:af T}
def b6:Tryz.prog.follows Departure.mixedOrders=l:=rfl
def tr{b:af T}{CT}(h:a_ b CT)(bh){E}{bd}(j){au i}{I a}{k ap}{e}(m:AM.kR eO CT bh E j au I k []=f (i,a,ap,e))(d:U e)(o:g b E bd i .normal a ap):g b E bd au .normal I k:=g.aN b6 bb h bh j m d o
def gp{d:af T}(bh){E}{bd}(j){au i}{I a}{k ap}{e}(h:AM.kR eO [] bh E j au I k []=f (i,a,ap,e))(b:U e)(m:g d E bd i .normal a ap):g d E bd au .normal I k:=g.aN b6 bb a_.nil bh j h b m
def aW{d:af T}{E}{bd}{au i}{I a}{k ap}{e}(h:AM.kR eO [] [] E 100 au I k []=f (i,a,ap,e))(b:U e)(j:g d E bd i .normal a ap):g d E bd au .normal I k:=g.aN b6 bb a_.nil [] 100 h b j
def cz{d:af T}{E}{bd}{au i}{I a}{k ap}{e}(h:AM.kR eO [] [] E 200 au I k []=f (i,a,ap,e))(b:U e)(j:g d E bd i .normal a ap):g d E bd au .normal I k:=g.aN b6 bb a_.nil [] 200 h b j
def a8{b:af T}{CT}(h:a_ b CT)(bh){E}{bd}{au i}{I a}{k ap}{e}(j:AM.kR eO CT bh E 100 au I k []=f (i,a,ap,e))(d:U e)(m:g b E bd i .normal a ap):g b E bd au .normal I k:=g.aN b6 bb h bh 100 j d m
def be{b:af T}{CT}(h:a_ b CT)(bh){E}{bd}{au i}{I a}{k ap}{e}(j:AM.kR eO CT bh E 200 au I k []=f (i,a,ap,e))(d:U e)(m:g b E bd i .normal a ap):g b E bd au .normal I k:=g.aN b6 bb h bh 200 j d m
def a5{d:af T}(bh){E}{bd}{au i}{I a}{k ap}{e}(h:AM.kR eO [] bh E 100 au I k []=f (i,a,ap,e))(b:U e)(j:g d E bd i .normal a ap):g d E bd au .normal I k:=g.aN b6 bb a_.nil bh 100 h b j
def bL{d:af T}(bh){E}{bd}{au i}{I a}{k ap}{e}(h:AM.kR eO [] bh E 200 au I k []=f (i,a,ap,e))(b:U e)(j:g d E bd i .normal a ap):g d E bd au .normal I k:=g.aN b6 bb a_.nil bh 200 h b j
def b8{b:af T}{CT}(h:a_ b CT){E}{bd}{au i}{I a}{k ap}{e}(j:AM.kR eO CT [] E 100 au I k []=f (i,a,ap,e))(d:U e)(m:g b E bd i .normal a ap):g b E bd au .normal I k:=g.aN b6 bb h [] 100 j d m
def cU{b:af T}{CT}(h:a_ b CT){E}{bd}{au i}{I a}{k ap}{e}(j:AM.kR eO CT [] E 200 au I k []=f (i,a,ap,e))(d:U e)(m:g b E bd i .normal a ap):g b E bd au .normal I k:=g.aN b6 bb h [] 200 j d m
def lj(a:Int):Bool:=decide (97<=a)&&decide (a<=101)
theorem WF(i):X q 113 [u0 i] [] (bf (lj i)) []:=by
 refine X.J func113 rfl λ_=>?_;by_cases b:97<=i
 .refine a5 [4] a ?_ (g.ao a ?_)<;>simp[b,lj]
 refine a5 [-4] a ?_ (g.ao a ?_)<;>simp[b,lj]
def jp(a:UInt8):Bool:=decide (97<=a.toNat)&&decide (a.toNat<=122)
def dV(a:bA):Bool:=a.all jp
def ZM{b}(d:∀a,a<c b->jp (b.getD a 0)=l):dV b=l:=by simp[dV,aX];grind[List.getElem_of_mem]
def ZJ{b}(e:u<c b)(d:jp (b.getD u 0)=v):dV b=v:=by
 cases a:dV b with
 |false=>rfl
 |true=>
  simp[dV,aX]at a;grind
theorem V_(b):X q 114 [b1 b] [] (bf (dV b)) []:=by
 refine X.J func114 rfl λe=>?_;have m:=e.T 0 a;refine aW a B (g.eh (λd=>d<=c b/\∀u,u<d->jp (b.getD u 0)=l) (λd:Nat=>[(0,b1 b),(3,Q d)]) (λ_=>[]) (λd=>c b-d) 0 a D ⟨by omega,by omega⟩ a ?_);rintro d ⟨h,s⟩;by_cases t:d<c b
 .generalize x:b.getD d 0=i;by_cases k:i.toNat<97
  .refine a5 [7,13] a ?_ (g.bQ (bY.zero a ?_))
   .simp only[U,xo,bw,x];omega
   exact zW
  by_cases j:i.toNat>122
  .refine a5 [7,-13,18] a Ox (g.bQ (bY.zero a ?_));exact zW
  refine a5 [7,-13,-18] a Qt (g.again (d+1) a D ?_ ?_ a)
  .refine⟨by omega,λu O=>?_⟩;rcases wR.1 O with O|rfl
   .grind
   rw[x];simp[jp,ck,bw];omega
  omega
 exact OP
end R1
def X.args{P:aE}{h:af P}{i}{args a}{k ap}{res}(j:X h i a k res ap)(e:∀b z,b4 k b z args->b4 k b z a):X h i args k res ap:=
 ⟨j.1,λb z g d=>j.2 b z (e b z g) d⟩
def js(d:Nat):y->Option (Nat×(Nat->m N))
 |.n (.Q (.c (.B _ e b a)))=>match ad e d with
  |true=>f (b,a)
  |false=>match ad b 0 with
   |true=>f (0,λ_=>[])
   |false=>n
 |_=>n
def ab4{C}{r}{j}{e:Nat->m N}(a:js C r=f (j,e)){k}{b}{aa}(s:bx k b aa r):Rd b.D aa (.B v C j e):=by
 unfold js at a;split at a
 .rename_i o h d dG;split at a
  .rename_i g;have p:=dn g;subst p;cases a;exact(b7 s).ei
  split at a
  .rename_i u;have p:=dn u;subst p;cases a;have q:=b7 s;cases q with
   |B x i y t E F g z A B=>exact Rd.B x i y t E D w w w w
  grind
 grind
def gF{b:Type}(d:b->m N)(a:b)(g:m b):Nat->m N:=λe=>d (g.getD e a)
structure c0(α:Type) where
 bj:Nat
 a7:α->m N
 b9:m N->α
 F:α
 inv:∀x,b9 (a7 x)=x
 len:∀x,c (a7 x)=bj
namespace c0
variable {α:Type}(s:c0 α)
def ad(d:Nat)(a:Nat->m N):m α:=(aB d).map λb=>s.b9 (a b)
def fn(a:m α):Nat->m N:=gF s.a7 s.F a
def bK(d:Nat)(a:Nat->m N):Prop:=∀b,b<d->a b=s.a7 (s.b9 (a b))
def B(a:m α):y:=ax (.B v s.bj (c a) (s.fn a))
def js{j}{a:Nat->m N}:c (s.ad j a)=j:=by simp[ad]
def l(d):s.ad (c d) (s.fn d)=d:=by
 apply pZ
 .simp[ad]
 intro e b a;simp[ad,fn,gF,ak,bH a,s.inv]
def U(d){j}:s.bK j (s.fn d):=λa _=>by simp[fn,gF,s.inv]
def iQ{j}{a:Nat->m N}(d:s.bK j a):bs j a (s.fn (s.ad j a)):=by intro e b;rw[d e b];simp[fn,gF,ad,ak,b]
def cv{d}{j}{a:Nat->m N}(i:Go.AM.js s.bj d=f (j,a))(g:s.bK j a){k}{b}{aa}(o:bx k b aa d):bx k b aa (s.B (s.ad j a)):=by have e:=ab4 i o;have h:=e.cA (s.iQ g);show Rd b.D aa (.B v s.bj (c (s.ad j a)) _);rw[s.js];exact h
end c0
def dq(b:bA)(a:Nat):Int:=(b.getD a 0).toNat
theorem j_(b)(u):((kD b u).toNat:Int)=dq b u.toNat:=rfl
abbrev cM:=bA×bA
def tC(a:m N)(b:Nat):bA:=match c_ b a with|some (.T d)=>d|_=>[]
def nw(a:m N)(b:Nat):Int:=match c_ b a with|some (.int _ d)=>d|_=>0
def bu:c0 cM:={bj:=2,a7:=λb=>[.T b.1,.T b.2],b9:=λa=>(tC a 0,tC a 1),F:=([],[]),inv:=λ_=>rfl,len:=λ_=>rfl}
namespace R1
variable {q:af T}
def Bb:bI:=λargs a=>match args,a with
 |[.n (.Q (.c (.int .u8 b)))],[]=>f (bf (lj b),[],[])
 |_,_=>n
def t113:bK q 113 Bb:=by intro args g b d a e _;unfold Bb at e;grind[WF]
def xp:bI:=λargs a=>match args,a with
 |[.n (.Q (.c (.T b)))],[]=>f (bf (dV b),[],[])
 |_,_=>n
def t114:bK q 114 xp:=by intro args g b d a e _;unfold xp at e;grind[V_]
def H2:m (Nat×bI):=[(113,Bb),(114,xp)]
def qe:a_ q H2:=a_.cons t113 (a_.cons t114 a_.nil)
def fT(a:bA):Bool:=if c a=1 then lj (dq a 0)else if c a=3 then lj (dq a 0)&&(dq a 1==47)&&lj (dq a 2)else v
theorem W_(b):X q 72 [b1 b] [] (bf (fT b)) []:=by
 refine X.J func72 rfl λh=>?_;by_cases aw:c b=1
 .refine a8 qe [6] a z_ (g.ao a ?_);simp[fT,aw,j_]
 by_cases d:c b=3
 .by_cases i:lj (dq b 0)=l
  .by_cases e:dq b 1=47
   .refine a8 qe [-6,11,14,18] a ?_ (g.ao a ?_)
    .simp[d,j_,i,e]
    simp[fT,d,i,e,j_]
   refine a8 qe [-6,11,14,-18] a ?_ (g.ao a ?_)
   .simp[d,j_,i,e]
   simp[fT,d,i,e]
  refine a8 qe [-6,11,-14] a ?_ (g.ao a ?_)
  .simp[d,j_,i]
  simp[fT,d,i]
 refine a8 qe [-6,-11] a bQ (g.ao a ?_);simp[fT,aw,d]
def fL(a:bA):Bool:=decide (c a<=40)&&dV a
theorem X'(b):X q 73 [b1 b] [] (bf (fL b)) []:=by
 refine X.J func73 rfl λe=>?_;by_cases d:c b<=40
 .refine a8 qe [5] a bQ (g.ao a ?_);simp[fL,d]
 refine a8 qe [-5] a bQ (g.ao a ?_);simp[fL,d]
def k7(a b:bA):Bool:=(c a != c b)&&(dq a 0==dq b 0)
def Ug(b i)(d:b≠[])(e:i≠[]):X q 74 [b1 b,b1 i] [] (bf (k7 b i)) []:=by
 have j:=AP.2 d;have h:=AP.2 e;refine X.J func74 rfl λk=>?_;by_cases O:c b=c i
 .refine a5 [-9] a pL (g.ao a ?_);simp[k7,O]
 refine a5 [9] a bv (g.ao a ?_);simp[k7,O,j_]
end R1
def q6(d a:m aq):Prop:=∀b,bc d b->bc a b/\cN d b a b/\∀g(e:y),bx d b g e->bx a b g e
def Db:aq->aq->Option (m Prop)
 |.x h r j d,.x a e g b=>match ad h a,ad r e with
  |true,l=>f [j=g,bs j d b]
  |_,_=>n
 |.cells h q,.cells a i=>match ad h a with
  |true=>qw q i
  |false=>n
 |.M,.M=>f []
 |.K H,.K k=>f [H=k]
 |.loop u t w,.loop p o s=>f [aq.loop u t w=aq.loop p o s]
 |.bl,.bl=>f []
 |.q h r j d,.q a e g b=>match ad h a,ad r e with
  |true,l=>f [j=g,bs j d b]
  |_,_=>n
 |_,_=>n
def jo:m aq->m aq->Option (m Prop)
 |[],[]=>f []
 |b::h,d::g=>match Db b d with
  |some e=>match jo h g with
   |some a=>f (gM e a)
   |none=>n
  |none=>n
 |_,_=>n
def wI(j e:aq):Prop:=
 (∀d h g a,j=.x d h g a->∃b,e=.x d h g b/\bs g a b)/\((∀d h g a,j≠.x d h g a)->(∀d h g a,e≠.x d h g a)/\(j=e∨(∃d k i,j=.cells d k/\e=.cells d i/\∀m o z,bM m o z k->bM m o z i)∨∃d h g a b,j=.q d h g a/\e=.q d h g b/\bs g a b))
theorem ZD{B g}(d:Db B g=f Z)(k:U Z):wI B g:=by
 unfold Db at d;split at d
 .rename_i W h j V i x e b;split at d
  .rename_i s u;cases d;have m:=dn s;have w:=dn u;obtain⟨r,D⟩:j=e/\bs j V b:=k;subst m w r;refine⟨λeP J M C he=>?_,λK=>absurd a (K _ _ _ _)⟩;grind
  grind
 .rename_i W ah i o;split at d
  .rename_i s;have m:=dn s;subst m;exact⟨λ_ _ _ _ he=>q0,λ_=>⟨λ_ _ _ _ he=>q0,.inr (.inl ⟨W,ah,o,a,a,λN O z y=>Dd d k y⟩)⟩⟩
  grind
 .exact Fp
 .cases d;rename_i H p;have t:H=p:=k;subst t;exact Fp
 .cases d;rename_i F E y I q A;have t:aq.loop F E y=aq.loop I q A:=k;exact⟨λ_ _ _ _ he=>q0,λ_=>⟨λ_ _ _ _ he=>q0,.inl t⟩⟩
 .exact Fp
 .rename_i W h j V i x e b;split at d
  .rename_i s u;cases d;have m:=dn s;have w:=dn u;obtain⟨r,D⟩:j=e/\bs j V b:=k;subst m w r;exact⟨λ_ _ _ _ he=>q0,λ_=>⟨λ_ _ _ _ he=>q0,.inr (.inr ⟨W,h,j,V,b,a,a,D⟩)⟩⟩
  grind
 grind
def Ko:∀{h d:m aq}{e:m Prop},jo h d=f e->U e->c d=c h/\∀(i:Nat)g b,h[i]?=f g->d[i]?=f b->wI g b
 |[],[],_,_,_=>⟨rfl,λi g b a=>by grind⟩
 |[],_::_,_,a,_=>by cases a
 |_::_,[],_,a,_=>by cases a
 |k::u,o::t,e,a,j=>by
  simp only[jo]at a;split at a
  .rename_i s p;split at a
   .rename_i ae4 dE;cases a;rw[U.X]at j;obtain⟨r,q⟩:=Ko dE j.2;grind[ZD]
   grind
  grind
def jN(D:jo k ap=f Z)(af:U Z):q6 k ap:=by
 obtain⟨aw,aD⟩:=Ko D af;intro C G;have az:∀(i:Nat) q,k[i]?=f q->∃r,ap[i]?=f r/\wI q r:=M;have get:∀(i:Nat) (r:aq),ap[i]?=f r->∃q,k[i]?=f q/\wI q r:=M;have ax:∀(i:Nat),(∀q,k[i]?=f q->q.dP=v)->∀q,ap[i]?=f q->q.dP=v:=by
  intro i ae r p;obtain⟨q,aJ,x⟩:=get i _ p;have av:=ae q aJ;rcases(x.2 (λg h j b u=>by rw[u]at av;cases av)).2 with rfl|⟨g,e,N,rfl,rfl,_⟩|⟨g,h,j,b,d,rfl,rfl,_⟩
  .omega
  .rfl
  exact cS
 have aO:∀(i:Nat) g h j b,ap[i]?=f (aq.q g h j b)->∃d,k[i]?=f (aq.q g h j d):=by
  intro i g h j b p;obtain⟨q,aJ,x⟩:=get i _ p;by_cases B:∃g h j b,q=aq.x g h j b
  .obtain⟨E1,k1,ah,lO,rfl⟩:=B;obtain⟨d,s,_⟩:=x.1 _ _ _ _ rfl;cases s
  rcases(x.2 (λg h j b u=>B ⟨g,h,j,b,u⟩)).2 with rfl|⟨g,e,N,rfl,D,_⟩|⟨g,h,j,b,d,rfl,D,_⟩
  .grind
  .cases D
  grind
 have aK:∀(i:Nat) g h j b,ap[i]?=f (aq.x g h j b)->∃d,k[i]?=f (aq.x g h j d):=by
  intro i g h j b p;obtain⟨q,aJ,x⟩:=get i _ p;by_cases B:∃g h j b,q=aq.x g h j b
  .obtain⟨E1,k1,ah,lO,rfl⟩:=B;obtain⟨d,s,_⟩:=x.1 _ _ _ _ rfl;grind
  exact absurd a ((x.2 (λg h j b u=>B ⟨g,h,j,b,u⟩)).1 g h j b)
 have ao:∀(A:Y) (Q:R),cA k C A Q->cA ap C A Q:=by
  intro A Q o;cases Q with
  |c aH=>exact o
  |ptr i aP=>exact⟨ax i o.1,o.2⟩
  |x i h j b=>
   refine⟨o.1,by rw[aw];exact o.2.1,λg I J d p=>?_⟩;obtain⟨kH,t⟩:=aK i g I J d p;exact o.2.2 g I J kH t
  |aM i=>exact⟨ax i o.1,o.2⟩
  |O i aQ=>
   obtain⟨ag,ai,aE,aF⟩:=o;refine⟨ag,ai,by grind,λg I J d p=>?_⟩;grind
  |any=>exact o
 have aj:∀(z:m Y) (e:m R),bM k C z e->bM ap C z e:=by
  intro z;induction z with
  |nil=>intro e o;cases e with|nil=>trivial|cons _ _=>exact o.elim
  |cons A z F=>intro e o;cases e with|nil=>exact o.elim|cons aC e=>exact⟨ao _ _ o.1,F _ o.2⟩
 have ar:∀(A:Y) (u:E1),ez k C A u->ez ap C A u:=by
  intro A u o;cases u with
  |Q Q=>exact ao _ _ o
  |agg e=>obtain⟨z,s,t⟩:=o;exact⟨z,s,aj _ _ t⟩
 have aM:∀(z:m Y) (e:m E1),eY k C z e->eY ap C z e:=by
  intro z;induction z with
  |nil=>intro e o;cases e with|nil=>trivial|cons _ _=>exact o.elim
  |cons A z F=>intro e o;cases e with|nil=>exact o.elim|cons aC e=>exact⟨ar _ _ o.1,F _ o.2⟩
 have au:∀(A:Y) (T:y),bx k C A T->bx ap C A T:=by
  intro A T o;cases T with
  |n aH=>exact ar _ _ o
  |S aI=>obtain⟨z,s,t⟩:=o;exact⟨z,s,aM _ _ t⟩
  |any=>trivial
 refine⟨⟨G.mem,by rw[G.len,aw],?_,G.a1,G.lt,G.own⟩,⟨bC _,λ_ _ _=>rfl,λ_ _ _ D=>D,λ_ _ _ _=>rfl,λL D O w=>.inr ⟨L,D,w⟩,?_,a,a,a,a⟩,au⟩
 .intro i r L al W;obtain⟨q,aJ,x⟩:=get i r al;have w:=G.box i q L aJ W;by_cases B:∃g h j b,q=aq.x g h j b
  .obtain⟨g,h,j,b,rfl⟩:=B;obtain⟨d,rfl,p⟩:=x.1 _ _ _ _ rfl;refine⟨w.1.cA p,?_⟩;rcases w.2 with⟨s,t⟩|s
   .exact .inl ⟨s,t.cA p⟩
   grind
  rcases(x.2 (λg h j b u=>B ⟨g,h,j,b,u⟩)).2 with rfl|⟨g,e,N,rfl,rfl,S⟩|⟨g,h,j,b,d,rfl,rfl,S⟩
  .cases q with
   |cells g e=>obtain⟨O,z,s,t,E,K⟩:=w;exact⟨O,z,s,t,aj _ _ E,K⟩
   |x g h j b=>grind
   |K H=>exact w
   |M=>trivial
   |loop aN aL o=>obtain⟨i,tmps,fn,aA,s,t,E,K,V⟩:=w;exact⟨i,tmps,fn,aA,s,t,E,λaG=>au _ _ (K aG),V⟩
   |bl=>exact w
   |q g h j b=>exact w
  .obtain⟨O,z,s,t,E,K⟩:=w;exact⟨O,z,s,t,aj _ _ (S _ _ _ E),K⟩
  rcases w with w|⟨O,X,z,an,s,t,E,K,V,aa,ab⟩
  .exact .inl w
  exact .inr ⟨O,X,z,an,s,t,E,K,V,aa.cA S,ab⟩
 intro i q L aJ W;obtain⟨r,al,x⟩:=az i q aJ;refine⟨r,L,al,W,?_⟩;by_cases B:∃g h j b,q=aq.x g h j b
 .obtain⟨g,h,j,b,rfl⟩:=B;obtain⟨d,rfl,p⟩:=x.1 _ _ _ _ rfl;exact⟨λ_=>rfl,bC _⟩
 rcases(x.2 (λg h j b u=>B ⟨g,h,j,b,u⟩)).2 with rfl|⟨g,e,N,rfl,rfl,S⟩|⟨g,h,j,b,d,rfl,rfl,_⟩
 .exact fM.refl _ _
 .exact a
 exact⟨λ_=>rfl,bC _⟩
section
variable {q:af P}
theorem b3.aP{aM}{e}(F:∀d g,b0 E k d I g->bc k d->∃a:a6,a.a=d.a/\b0 E ap a e g/\bc ap a/\cN k d ap a)(M:b3 q E s aM e ap):b3 q E s aM I k:=by intro d g N b B u m A t r;obtain⟨a,K,D,y,x⟩:=F d g N b;have z:=x.tooV b;refine .aP (.of b y K z) ?_;exact M a g D y B u m A t λC J i w j O o p h=>r C J i w j O o p (z.trans h)
theorem g.aP{b}{ap}(h:∀d e,b0 E k d I e->bc k d->∃a:a6,a.a=d.a/\b0 E ap a b e/\bc ap a/\cN k d ap a)(i:g q E bd (.code s::au) .normal b ap):g q E bd (.code s::au) .normal I k:=
 b3.aP h i
def b0.ak{h:Act}(a:q6 k ap)(e:b0 E k b I h)(d:bc k b):b0 E ap b I h:=⟨e.size,e.defers.imp λ_ g=>g.mono (a b d).2.1.ext,λi=>(a b d).2.2 _ _ (e.aL i)⟩
def g.bb(ap)(d:jo k ap=f Z)(b:U Z)(i:g q E bd (.code s::au) .normal I ap):g q E bd (.code s::au) .normal I k:=
 g.aP (λe j h a=>⟨e,rfl,h.ak (jN d b) a,(jN d b e a).1,(jN d b e a).2.1⟩) i
def g.bG(o)(W)(h){gk}(y:look I o=ax (.B l gk j V))(b:j=0)(r:g q E bd (.code s::au) .normal ((o,.n (.Q (.x (c k) h j V)))::I) (k++[.x W h j V])):g q E bd (.code s::au) .normal I k:=by
 refine g.aP (λi d e bP=>?_) r;have t:=e.aL o;rw[y]at t;have a:=Rd.fQ (h:=gk) (gk:=h) (.inr b) (b7 t);have aJ:ey (k++[.x W h j V]) {i with t:=i.t++[⟨d.tmps.getD o J,[]⟩]} (.x W h j V) ⟨d.tmps.getD o J,[]⟩:=⟨a.ei,.inl ⟨⟨rfl,b⟩,a⟩⟩;obtain⟨x,m⟩:=bP.bY (.refl _ _) rfl bP aJ D
 refine⟨{i with t:=i.t++[⟨d.tmps.getD o J,[]⟩]},rfl,⟨e.size,e.defers.imp λ_ a=>a.mono m.ext,λu=>?_⟩,x,m⟩;simp only[look];cases p:ad o u with
 |false=>exact(e.aL u).mono m.ext bP.len
 |true=>
  have w:=dn p;subst w;exact tl (L:=⟨d.tmps.getD o J,[]⟩) D tX aJ
def g.b6{K:Type}(J:K->Prop)(h:K->bJ)(d:K->m aq)(O:K->Nat)(p){C:m Prop}(aD:iX I (h p)=f Z)(y:U Z)(av:jo k (d p)=f C)(ai:U C)(aE:J p)(round:∀p,J p->g q E (λt x z=>match t with
   |.normal=>∃b,J b/\O b<O p/\iB x (h b)/\q6 z (d b)
   |t=>g q E bd au t x z) [.code s] .normal (h p) (d p)):g q E bd (.code (.loop s)::au) .normal I k:=by
 intro af aF aj w an X T Q W V;have ab:=jN av ai;obtain⟨az,aC,_⟩:=ab af w;refine xd (λj e aA=>∃b,J b/\b0 E (d b) aA (h b) e/\bc (d b) aA/\df k af (d b) aA/\O b=j) ?_ ?_ ⟨p,aE,(aj.le (eH aD y)).ak ab w,az,aC.tooV w,a⟩
 .rintro j e aA ⟨b,Y,o,A,M,t⟩;exact⟨d b,A,λG u=>⟨b,Y,o.rely u A,A.rely u,M.trans u.aU,t⟩⟩
 rintro j e aA ⟨b,Y,o,A,M,rfl⟩ al;refine round b Y aA e o A an (.inLoop s::X) T Q W ?_;intro t R ah F S ae B i r;cases t with
 |normal=>
  obtain⟨ag,N,ar,ao,aa⟩:=ae;obtain⟨ax,aw,_⟩:=aa F i;exact al S F (O ag) ar ⟨ag,N,(B.le ao).ak aa i,ax,M.trans (r.trans (aw.tooV i)),a⟩
 |_=>exact kG.cons (λ_ _=>rfl) D (V _ _ _ _ _ ae B i (M.trans r))
def g.b1{d:Type}{r:d->Prop}{h:d->bJ}{i:d->m aq}{j:d->Nat}{s:d}{o:fw}(a){cR}(w:iX I (h a)=f Z)(x:U Z)(t:jo k (i a)=f cR)(y:U cR)(z:r a)(u:j a<j s):
  g q E (λp b e=>match p with
   |.normal=>∃a,r a/\j a<j s/\iB b (h a)/\q6 e (i a)
   |p=>o p b e) [] .normal I k:=⟨a,z,u,eH w x,jN t y⟩
end
def X.b0{w:af P}{A}{args}{res d}(h:X w A args [] res ap)(C:kj res d=f Z)(D:U Z)(x:hO 0 d=l):X w A args [] d []:=by
 refine⟨h.1,λb z t j B o r=>h.2 b z t j B o λp F m s u g e=>?_⟩;have J:b.t=[]:=jC j.len;have E:e2 m {m with t:=[]}:=⟨rfl,λ_ _ _ h=>h,λ_ _ _=>rfl,g.mem,λy i=>.inl M⟩
 refine .aP E (r p F {m with t:=[]} (s.mono λ_ _ _ h=>h) ?_ ⟨g.mem,rfl,by simp,by simp,by simp,λy i=>⟨(g.own y i).1,by simp⟩⟩ ⟨e.size,e.a3,e.mem,e.bz,by simp,λK I L aJ=>by grind,e.os,e.tape,e.output,e.own⟩);have q:=pj C D u;have:=bx.sub (aV:=[]) (k:=ap) (ap:=[]) (b:=m) (ly:=[]) (O:=d) a a (by rw[LZ x];exact q) x;omega
section drop
variable {aS bq:m aq}
def vj(b:Nat):aq->Bool
  |.cells _ a=>lg b a
  |.loop ..=>v
  |_=>l
def kh(a:Nat):m aq->Bool
  |[]=>l
  |b::d=>match vj a b with|true=>kh a d|false=>v
def Kd{j}:∀{e:m aq},kh j e=l->∀a∈e,vj j a=l
  |[],_,a,aJ=>by grind
  |g::h,b,a,aJ=>by
    simp[kh]at b;cases d:vj j g with
    |false=>grind
    |true=>
      simp[d]at b;rcases e9.1 aJ with rfl|aJ
      · exact d
      · exact Kd b a aJ
def ey.fx{d}{L}(j:vj (c aS) d=l)(a:ey (aS++bq) b d L):ey aS (b.cut (c aS)) d L:=by
  cases d with
  |cells i o=>
    obtain⟨k,z,g,h,p,m⟩:=a;exact⟨k,z,g,h,bM.cH p j,m⟩
  |x i q r e=>exact a
  |K H=>exact a
  |M=>trivial
  |loop t s u=>simp[vj]at j
  |bl=>exact a
  |q i q r e=>exact a
def bc.drop(e:bc (aS++bq) b)(r:kh (c aS) aS=l):bc aS (b.cut (c aS)):=by
  have m:c aS<=c b.t:=by rw[e.len];simp
  refine⟨e.mem,by simp[a6.cut,m],?_,?_,?_,λg a=>⟨(e.own g a).1,λL d=>(e.own g a).2 L (gY d)⟩⟩
  · intro i p L aJ d
    have q:i<c aS:=(cO.1 aJ).1;simp[a6.cut,iq,q,dv]at d;exact ey.fx (bq:=bq) (Kd r p (b_ aJ)) (e.box i p L M d)
  · intro i o L j d k g a h
    simp only[a6.cut,iq]at d k;split at d<;>split at k<;>first|exact e.a1 i o L j d k g a h|grind|grind
  · intro L d g a
    exact e.lt L (gY d) g a
def i_.drop(o:jO bq=l):∀{e:m Deferred} {g:m Nat},i_ (aS++bq) b e g->i_ aS (b.cut (c aS)) e g
  |[],[],_=>trivial
  |[],_::_,i=>i.elim
  |_::_,[],i=>i.elim
  |t::e,p::g,⟨⟨d,L,i,k,s⟩,q,r⟩=>by
    have h:p<c aS:=by
      rcases dT p (c aS) with j|j
      · exact j
      · rw[hl j]at d
        exact absurd a (vA o _ (b_ d))
    rw[j3 h]at d;exact⟨⟨d,L,i,by simp[a6.cut,iq,h,dv];exact k,s⟩,q,i_.drop o r⟩
def vD(b:Nat)(a:m aq):Bool:=match ay b (c a) with|true=>jO (a.drop b)|false=>v
theorem yQ(a:vD j k=l):ay j (c k)=l/\jO (k.drop j)=l:=by unfold vD at a;grind
end drop
def qu(a:Nat):bJ->Bool
  |[]=>l
  | (_,b)::d=>match hO a b with|true=>qu a d|false=>v
def vk{j}:∀{d:bJ} {a:Nat},qu j d=l->hO j (look d a)=l
  |[],a,_=>rfl
  | (h,g)::i,a,b=>by
    simp[qu]at b;cases e:hO j g with
    |false=>grind
    |true=>
      simp[e]at b;simp[look];cases ad h a with
      |true=>exact e
      |false=>exact vk b
section
variable {q:af P}
def me{e:Type}(w:af P)(u:Nat)(j:fw)(t:m ik)(s:e->Prop)(r:e->bJ)(p:e->m aq)(q:e->Nat)(o:Nat)(x:e):fw:=λk d h=>match k with
  |.normal=>∃i,s i/\q i<q x/\iB d (r i)/\qu o (r i)=l/\∃a b,h=a++b/\c a=o/\(kh o a=l/\jO b=l)/\q6 a (p i)
  |k=>g w u j t k d h
def g.aC{B:Type}(j)(A:B->Prop)(h:B->bJ)(b9:B->m aq)(T:B->Nat)(i){cR}(y:iX I (h i)=f Z)(an:U Z)(aD:jo k (b9 i)=f cR)(aj:U cR)(az:c k=j)(G:A i)(round:∀i,A i->g q E (me q E bd au A h b9 T j i) [.code s] .normal (h i) (b9 i)):g q E bd (.code (.loop s)::au) .normal I k:=by
  intro af aN ao u X S K F d Q;have aa:=jN aD aj;obtain⟨aI,N,_⟩:=aa af u;refine xd (λab e b=>∃bF,A bF/\b0 E (b9 bF) b (h bF) e/\bc (b9 bF) b/\df k af (b9 bF) b/\T bF=ab) ?_ ?_ ⟨i,G,(ao.le (eH y an)).ak aa u,aI,N.tooV u,a⟩
  · rintro j e b ⟨bF,p,R,C,O,aw⟩
    exact OJ
  rintro ab e b ⟨bF,p,R,C,O,rfl⟩ av;refine round bF p b e R C X (.inLoop s::S) K F d ?_;intro aw H ah x J ae z t o;cases aw with
  |normal=>
    obtain⟨ag,aM,aC,aA,aK,r,V,rfl,aL,⟨aJ,ai⟩,aF⟩:=ae;have W:=t.drop M;obtain⟨aH,Y,aE⟩:=aF _ W;have f3:=z.le aA;have ar:e2 x (x.cut (c r)):=⟨rfl,λ_ _ _ ax=>ax,λ_ _ _=>rfl,t.mem,λX d=>d.imp id λ⟨L,al,d⟩=>⟨L,gY al,d⟩⟩
    refine .aP ar (av J (x.cut (c r)) (T ag) aC ⟨ag,aM,⟨f3.size,f3.defers.imp λ_ c5=>(c5.drop ai).mono Y.ext,λaG=>aE _ _ ((f3.aL aG).drop (vk M))⟩,aH,?_,a⟩);exact((O.trans o).drop w).trans (Y.tooV W)
  |_=>exact kG.cons (λ_ _=>rfl) D (Q _ _ _ _ _ ae z t (O.trans o))
def g.h6{h:Type}{o:h->Prop}{a:h->bJ}{d:h->m aq}{i:h->Nat}{p}{e}(b){cR}(w:iX I (a b)=f Z)(y:U Z)(t:qu j (a b)=l)(r:vD j k=l)(s:jo (k.take j) (d b)=f cR)(z:U cR)(x:kh j (k.take j)=l)(A:o b)(u:i b<i p):
    g q E (me q E bd e o a d i j p) [] .normal I k:=
  ⟨b,A,u,eH w y,t,k.take j,k.drop j,(uy j k).symm,by grind[Nat.le_of_ble_eq_true,yQ],⟨x,(yQ r).2⟩,jN s z⟩
def g.av{h:Type}{j}{o:h->Prop}{a:h->bJ}{e:h->m aq}{i:h->Nat}{p}{w}(d){Z cR}(b:(iX I (a d),qu j (a d),vD j k,jo (k.take j) (e d),kh j (k.take j))=(f Z,l,l,f cR,l))(s:U Z)(u:U cR)(t:o d)(r:i d<i p):
    g q E (me q E bd w o a e i j p) [] .normal I k:=by simp[lF]at b;exact g.h6 d b.1 s b.2.1 b.2.2.1 b.2.2.2.1 u b.2.2.2.2 t r
def g.az{br:Type}{cH:br->Prop}{hA:br->bJ}{b9:br->m aq}{i:br->Nat}{F}{id}{s x O}(h:g q E bd O .normal I k)(c5:iT id s=n:=by exact rfl)(dE:iT id x=f O:=by exact rfl):
    g q E (me q E bd x cH hA b9 i j F) (.code (.exit id)::s) .normal I k:=
  b3.mono (g.bs (R:=λdD ap=>me q E bd x cH hA b9 i j F .normal dD ap) c5 dE h) λaw dD ap bl=>by
    have key:∀au aw,g q E (λaw dD ap=>match aw with
        |.normal=>me q E bd x cH hA b9 i j F .normal dD ap
        |aw=>g q E bd x aw dD ap) au aw dD ap->g q E (me q E bd x cH hA b9 i j F) au aw dD ap:=by
      have aw:(λaw dD ap=>match aw with
        |.normal=>me q E bd x cH hA b9 i j F .normal dD ap
        |aw=>g q E bd x aw dD ap)=me q E bd x cH hA b9 i j F:=by funext aw dD ap;cases aw<;>rfl
      grind
    exact key _ _ bl
def g.aT{a:Type}{e:a->Prop}{b:a->bJ}{d:a->m aq}{o:a->Nat}{r}{h i}(p:bd .ret I k):g q E (me q E bd i e b d o j r) (.code .ret::h) .normal I k:=
  g.ret (g.dK (bd:=bd) p)
theorem b0.freeze(o d){ah}{gN}(aj:look I o=aI d 0)(O:c_ d k=f (.cells W ah))(aa:h3 ah=f gN){x}(B:b0 E k b I x)(g:bc k b):∃i:a6,i.a=b.a/\b0 E (k.set d .M) i ((o,ax (.R gN))::I) x/\bc (k.set d .M) i/\cN k b (k.set d .M) i:=by
  have aJ:=et O;have af:d<c k:=(cO.1 aJ).1;have Y:=B.aL o;rw[aj]at Y;obtain⟨_,L,r,R,T,ai⟩:=Y;obtain⟨w,z,s,K,y,G⟩:=g.box d _ L aJ R;subst s;simp at T;subst T;let i:a6:={b with D:=λX t=>if X=w then z[t]? else b.D X t}
  have q:cN k b (k.set d .M) i:=by
    refine⟨bC _,λ_ _ _=>rfl,?_,?_,λL ab r j=>.inr ⟨L,ab,j⟩,?_,a,a,a,a⟩
    · grind
    · intro r j Q t
      have ag:r≠w:=λaw=>Q _ (b_ R) z_;grind
    · intro p D m e h
      by_cases aw:d=p
      · subst aw
        rw[aJ]at e;cases e;exact⟨.M,m,by grind,h,a⟩
      · exact⟨D,m,by grind,h,.refl _ _⟩
  refine⟨i,a,⟨B.size,B.defers.imp λ_ s=>s.mono q.ext,λZ=>?_⟩,⟨?_,by simp[g.len,i],?_,g.a1,g.lt,g.own⟩,q⟩
  · simp only[look]
    cases j:ad o Z with
    |false=>exact(B.aL Z).mono q.ext g.len
    |true=>
      have aw:=dn j;subst aw;rw[ai];have V:=rv aa y;refine Rd.R w 0 (λu=>(z[u]?).getD J) ?_ ?_
      · intro u F N
        obtain⟨C,U,_⟩:=V.get (u:=u) (x:=.c F) M;grind
      · intro u F N
        obtain⟨C,U,S⟩:=V.get (u:=u) (x:=.c F) M;simp[U,h0];exact Rd.mono q.mem S
  · intro r t C ae
    by_cases aw:r=w
    · subst aw
      have A:z[t]?=f C:=M;show b.a.cell? _=_;simp[aH,K,A]
    · exact g.mem r t C M
  · intro p D m e h
    by_cases aw:d=p
    · subst aw
      rw[io af]at e;cases e;trivial
    · rw[kA aw]at e
      refine(g.box p D m e h).b_ q.ext g.len λr j=>⟨a,λt=>?_⟩
      have ag:r≠w:=λal=>aw (g.a1 d p _ m R h r M j);grind
theorem g.freeze(o d){W}{ah}{gN}(h:look I o=aI d 0)(a:c_ d k=f (.cells W ah))(e:h3 ah=f gN)(b:g q E bd (.code s::au) .normal ((o,ax (.R gN))::I) (da.cu d .M k)):g q E bd (.code s::au) .normal I k:=by grind[mO,g.aP,b0.freeze]
def g.Q{bq}{F}(b:aZ q E all r I k F ap)(a:fj E r.dst=l)(d:g q E bd (.aj all bq::au) .normal (ga r.dst F I) ap):g q E bd (.aj all (r::bq)::au) .normal I k:=
  ff.de b (k9 a) d
end
structure Ak(O:TypeDesc)(V:Array MapEntry)(h:Y)(x:Option (Nat×Y)):Prop where
 key:MapKept.IsKey O h
 c1:Instr.findNow O h V.toList 0=f x
 cZ:x=n->∀aw∈V.toList,aw.key≠h
 gG:∀u aa,x=f (u,aa)->∃aw,V[u]?=f aw/\aw.key=h/\aw.val=aa
def JM{O}{V}{h}(a:MapKept.IsKey O h)(e:∀b∈V.toList,MapKept.IsKey O b.key):∃d,Ak O V h d:=by
 rcases MapKept.findNow_spec a V.toList 0 e with⟨i,C⟩|⟨u,b,i,C,A⟩
 .exact⟨n,a,i,λ_=>C,by simp⟩
 refine⟨_,a,i,by simp,λj k g=>?_⟩;grind
section
variable {s aj:al}{O:TypeDesc}{a':Nat}{V:Array MapEntry}{clock:Nat}{h:Y}{ok:Bool}
def Ma(a:P.underlying s=f O):(underlying s).run P p=.ok O p:=by simp[underlying,a]
def x2(b:P.underlying s=f O)(d:MapKept.IsKey O h)(i)(a):(Instr.checkKey i 10000 s h).events P p a=a:=by show(Instr.checkKey i (9999+1) s h).events P p a=a;unfold Instr.checkKey;simp[aD,Ma b,aF,events_underlying];cases O<;>cases h<;>first|exact d.elim|simp
def x5{d}{e}(b:P.underlying s=f O)(g:Instr.findNow O h d 0=f e)(a):(Instr.findKey s h d).events P p a=a:=by simp[Instr.findKey,Ma b,g]
def x6(b:p.heap[a']?=f (.map V clock))(a):(getObj a').events P p a=a.push ⟨.obj a',v,v⟩:=by simp only[getObj,Sem.events,Sem.runT,b];rfl
def Jh(d:p.heap[a']?=f (.map V clock)){dG}{b}(a):(setObj a' (.map dG b)).events P p a=a.push ⟨.obj a',l,v⟩:=by simp[setObj,Sem.events,Sem.runT,d];rfl
def L8(a:P.underlying s=f O)(b:MapKept.IsKey O h)(i):(Instr.checkKey i 10000 s h).run P p=.ok () p:=MapKept.run_checkKey a b i 9999
def Kz(t:P.underlying o=f (.map s aj))(b:P.underlying s=f O)(e:p.heap[a']?=f (.map V clock)){g}(d:Ak O V h g){ea}(m:g=n->(zeroValue aj).run P p=.ok ea p):
  (Instr.lookup o (.map (f a')) h ok).run P p=.ok (match g with
   |some (_,q)=>if ok=l then .tuple #[q,.bool l]else q
   |none=>if ok=l then .tuple #[ea,.bool v]else ea) p/\(Instr.lookup o (.map (f a')) h ok).events P p #[]=#[⟨.obj a',v,v⟩]:=by
 have j:(underlying o).run P p=.ok (.map s aj) p:=by simp[underlying,t]
 have k:=L8 (p:=p) b d.key V.isEmpty;have i:(Instr.findKey s h V.toList).run P p=.ok g p:=MapKept.run_findKey b d.c1;cases g with
 |some r=>
  constructor
  .simp only[Instr.lookup,cJ,j,c8,MapKept.run_getObj_map e,dY,k,i]
  simp only[Instr.lookup,aD,j,aF,MapKept.run_getObj_map e,dY,Sem.events_pure,k,i,events_underlying,x6 e,x2 b d.key,x5 b d.c1];rfl
 |none=>
  constructor
  .simp only[Instr.lookup,cJ,j,c8,MapKept.run_getObj_map e,dY,k,i,m a]
  simp only[Instr.lookup,aD,j,aF,MapKept.run_getObj_map e,dY,Sem.events_pure,k,i,events_underlying,x6 e,x2 b d.key,x5 b d.c1,m a,events_zeroValue];rfl
def Nq(y:P.underlying o=f (.map s aj))(a:P.underlying s=f O)(d:p.heap[a']?=f (.map V clock)){g}{F}(e:Ak O V h g):
  (Instr.mapUpdate o (.map (f a')) h F).run P p=.ok () {p with heap:=p.heap.setIfInBounds a' (match g with
   |some (m,_)=>.map (V.modify m λr=>{key:=h,val:=F,born:=r.born}) clock
   |none=>.map (V.push {key:=h,val:=F,born:=clock}) (clock+1))} /\
  (Instr.mapUpdate o (.map (f a')) h F).events P p #[]=#[⟨.obj a',v,v⟩,⟨.obj a',l,v⟩]:=by
 have j:(underlying o).run P p=.ok (.map s aj) p:=by simp[underlying,y]
 have k:=L8 (p:=p) a e.key v;have i:(Instr.findKey s h V.toList).run P p=.ok g p:=MapKept.run_findKey a e.c1;cases g with
 |some q=>
  obtain⟨m,z⟩:=q;obtain⟨r,u,w,_⟩:=e.gG m z rfl;have t:(Instr.keyThatStays h h).run P p=.ok h p:=MapKept.run_keyThatStays e.key;have x:∀b,(Instr.keyThatStays h h).events P p b=b:=λb=>by simp[Instr.keyThatStays,MapKept.sameBits_self e.key]
  constructor
  .simp only[Instr.mapUpdate,cJ,j,c8,MapKept.run_getObj_map d,k,i,u,lE,h0,w,t,MapKept.run_setObj_map _ d]
  simp only[Instr.mapUpdate,aD,j,aF,MapKept.run_getObj_map d,k,i,u,lE,h0,w,t,x,events_underlying,x6 d,Jh d,x2 a e.key,x5 a e.c1];rfl
 |none=>
  constructor
  .simp only[Instr.mapUpdate,cJ,j,c8,MapKept.run_getObj_map d,k,i,MapKept.run_setObj_map _ d]
  simp only[Instr.mapUpdate,aD,j,aF,MapKept.run_getObj_map d,k,i,events_underlying,x6 d,Jh d,x2 a e.key,x5 a e.c1];rfl
end
def bc.ca(i:bc k b){jZ:Y->(Nat->Option Obj)->Prop}{L cv}(aJ:k[d]?=f (.K H))(A:b.t[d]?=f L)(G:cv.v=L.v)(Q:b.a.heap.size<=bi.heap.size)(K:∀e,e<b.a.heap.size->e∉L.ak->bi.heap[e]?=b.a.heap[e]?)(D:∀e∈cv.ak,e∈L.ak∨(b.a.heap.size<=e/\e<bi.heap.size))(x:∃p,jZ cv.v p/\(∀e t,p e=f t->bi.heap[e]?=f t)/\(∀e,e∈cv.ak↔(p e).isSome=l))(O:bi.os=b.a.os)(Z:bi.tape=b.a.tape)(N:bi.output=b.a.output):
  bc (k.set d (.K jZ)) ⟨b.t.set d cv,b.D,bi,b.own⟩/\cN k b (k.set d (.K jZ)) ⟨b.t.set d cv,b.D,bi,b.own⟩:=by
 have bz:d<c k:=(cO.1 aJ).1;have ag:d<c b.t:=M;obtain⟨aa,_,_,_,y⟩:=i.box d _ L aJ A;have X:∀e∈cv.ak,∀t,b.D e t=n:=by
  intro e E t;rcases D e E with o|⟨o,_⟩
  .grind
  cases r:b.D e t with
  |none=>rfl
  |some U=>have:=i.block r;omega
 have B:cN k b (k.set d (.K jZ)) ⟨b.t.set d cv,b.D,bi,b.own⟩:=by
  refine⟨Q,M,λ_ _ _ i=>i,λ_ _ _ _=>rfl,M,?_,O,Z,N,a⟩;intro g F j u z;by_cases C:d=g
  .subst C;rw[aJ]at u;cases u;rw[A]at z;cases z;exact⟨.K jZ,cv,by grind,by grind,G⟩
  exact⟨F,j,by grind,by grind,.refl _ _⟩
 have J:∀g j,(b.t.set d cv)[g]?=f j->(g=d/\j=cv)∨(d≠g/\b.t[g]?=f j):=M;refine⟨⟨?_,by simp[i.len],?_,?_,?_,?_⟩,B⟩
 .intro e t U r;have ah:=i.block r;have ab:e∉L.ak:=λs=>by grind
  rw[<-i.mem e t U r];simp only[aH];grind
 .intro g F j u z;rcases J g j z with⟨rfl,rfl⟩|⟨C,m⟩
  .rw[io bz]at u;cases u;obtain⟨p,k1,V,R⟩:=x;exact⟨p,k1,V,R,X⟩
  rw[kA C]at u;refine(i.box g F j u m).b_ B.ext i.len λe E=>⟨K e (i.lt j (b_ m) e E) λs=>C (i.a1 d g L j A m e s E),λ_=>rfl⟩
 .intro W I q j o m e h w;rcases J W q o with⟨rfl,rfl⟩|⟨dK,T⟩<;>rcases J I j m with⟨rfl,rfl⟩|⟨e4,S⟩
  .rfl
  .rcases D e h with s|s
   .exact i.a1 _ _ L j A S e s w
   have:=i.lt j (b_ S) e w;omega
  .rcases D e w with s|s
   .exact i.a1 _ _ q L T A e h s
   have:=i.lt q (b_ T) e h;omega
  exact i.a1 _ _ q j T S e h w
 .intro j z e w;rcases AE z with o|o
  .exact eC (i.lt j o e w) Q
  subst o;rcases D e w with m|m
  .exact eC (i.lt L (b_ A) e m) Q
  grind
 intro e x;obtain⟨af,ae⟩:=i.own e x;grind
section
variable {jZ:Y->(Nat->Option Obj)->Prop}
end
def bY.di{fn}{d}{res}(aV)(e:pv fn.results.toList aV I res=f Z)(m:U Z)(j:dx aV k=f ap)(i:l3 ap=l)(h:fb aV=l)(g:∀b,b<d->aV[b]?=f b):
  bY fn d res ap .normal I k:=by refine⟨.inr a,aV,?_⟩;unfold pv at e;grind
def g.iw{b:af P}{h}{aS}{res}(s:X b h cQ dh res aS)(aV)(j:r.guard=n)(e:r.op=.call {callee:=.value cP,args:=ag,argTypes:=dr})(u:g1 (bD I cP)=f (h,cap))(i:k5 (ag.toList.map (bD I)++e' cap)=gn aV cQ)(o:ha (c aV) cQ=l)(p:dx aV k=f dh)(t:ew dh=l)(m:ew aS=l)(d:fb aV=l)(q:ay (c aV) (c aS)=l)(x:fj E r.dst=l)(w:g b E bd (.aj all bq::au) .normal (ga r.dst (fc (aV++gV (c k) (c aS-c aV)) res) I) (da aV aS k)):g b E bd (.aj all (r::bq)::au) .normal I k:=
 ff.call (λ_ _ _ _=>i6 j) e u aV s i o p t m d (fs q) r.dst a (k9 x) w
def g.d'{d:af P}{i}(t:bk d i cQ dh res aS)(aV)(m:r.guard=n)(h:r.op=.call {callee:=.value cP,args:=ag,argTypes:=dr})(x:g1 (bD I cP)=f (i,cap))(j:k5 (ag.toList.map (bD I)++e' cap)=gn aV cQ)(p:ha (c aV) cQ=l)(q:dx aV k=f dh)(u:ew dh=l)(o:∀b,ew (aS b)=l)(e:fb aV=l)(s:∀b,ay (c aV) (c (aS b))=l)(y:fj E r.dst=l)(w:∀b,g d E bd (.aj all bq::au) .normal (ga r.dst (fc (aV++gV (c k) (c (aS b)-c aV)) (res b)) I) (da aV (aS b) k)):g d E bd (.aj all (r::bq)::au) .normal I k:=
 ff.gL (λ_ _ _ _=>i6 m) h x aV t j p q u o e (λb=>fs (s b)) r.dst a (k9 y) w
def g.aB{P:aE}{b:af P}{E}{bd}{au}{I}{k}{all bq}{r}{cP}{ag}{dr}{a}{cap}{cQ}{dh aS}{res}(w:X b a cQ dh res aS)(aV)(d:(r.guard,r.op,g1 (bD I cP),k5 (ag.toList.map (bD I)++e' cap),ha (c aV) cQ,dx aV k,ew dh,ew aS,fb aV,ay (c aV) (c aS),fj E r.dst)=(n,.call {callee:=.value cP,args:=ag,argTypes:=dr},f (a,cap),gn aV cQ,l,f dh,l,l,l,l,l))(s:g b E bd (.aj all bq::au) .normal (ga r.dst (fc (aV++gV (c k) (c aS-c aV)) res) I) (da aV aS k)):g b E bd (.aj all (r::bq)::au) .normal I k:=by simp only[lF]at d;obtain⟨e,h,i,j,m,a,o,p,q,t,u⟩:=d;exact g.iw w aV e h i j m a o p q t u s
def g.a2{P:aE}{e:Type}{i:af P}{E}{bd}{au}{I}{k}{all bq}{r}{cP}{ag}{dr}{h}{cap}{cQ}{dh}{a:e->m aq}{d:e->y}(x:bk i h cQ dh d a)(aV)(o:(r.guard,r.op,g1 (bD I cP),k5 (ag.toList.map (bD I)++e' cap),ha (c aV) cQ,dx aV k,ew dh,fb aV,fj E r.dst)=(n,.call {callee:=.value cP,args:=ag,argTypes:=dr},f (h,cap),gn aV cQ,l,f dh,l,l,l))(j:∀b,(ew (a b),ay (c aV) (c (a b)))=(l,l))(z:∀b,g i E bd (.aj all bq::au) .normal (ga r.dst (fc (aV++gV (c k) (c (a b)-c aV)) (d b)) I) (da aV (a b) k)):g i E bd (.aj all (r::bq)::au) .normal I k:=by simp only[lF]at o j;obtain⟨p,q,s,t,u,h,w,b,A⟩:=o;exact g.d' x aV p q s t u h w (λb=>(j b).1) b (λb=>(j b).2) A z
def lY:m y->m y->Option (m Prop)
 |[],[]=>f []
 |d::a,e::b=>match kj d e with
  |some g=>match lY a b with
   |some h=>f (gM g h)
   |none=>n
  |none=>n
 |_,_=>n
def s5{k}{b}:∀{z:m Y}{e g:m y}{d:m Prop},lY e g=f d->U d->b4 k b z e->b4 k b z g
 |[],[],[],_,_,_,_=>trivial
 |_::_,[],_,_,_,_,a=>a.elim
 |[],_::_,_,_,_,_,a=>a.elim
 |[],[],_::_,_,a,_,_=>by simp[lY]at a
 |_::_,_::_,[],_,a,_,_=>by simp[lY]at a
 |w::z,r::h,s::i,d,a,j,q=>by
  simp[lY]at a;cases o:kj r s with
  |none=>grind
  |some t=>
   cases p:lY h i with
   |none=>grind
   |some u=>
    simp[o,p]at a;subst a;rw[U.X]at j;exact⟨pj o j.1 q.1,s5 p j.2 q.2⟩
def g.cb{d:af P}{i}(x:bk d i cQ dh res aS)(aV)(o:r.guard=n)(h:r.op=.call {callee:=.value cP,args:=ag,argTypes:=dr})(y:g1 (bD I cP)=f (i,cap))(j:lY (ag.toList.map (bD I)++e' cap) (gn aV cQ)=f Z)(m:U Z)(q:ha (c aV) cQ=l)(s:dx aV k=f dh)(A:ew dh=l)(p:∀b,ew (aS b)=l)(e:fb aV=l)(u:∀b,ay (c aV) (c (aS b))=l)(B:fj E r.dst=l)(w:∀b,g d E bd (.aj all bq::au) .normal (ga r.dst (fc (aV++gV (c k) (c (aS b)-c aV)) (res b)) I) (da aV (aS b) k)):g d E bd (.aj all (r::bq)::au) .normal I k:=
 ff.eW (λ_ _ _ _=>i6 o) h y aV x (λC z t=>s5 j m t) q s A p e (λb=>fs (u b)) r.dst a (k9 B) w
def aa_{b:Act}{a}(d:a<b.tmps.size):(b.put (f a) aa).tmps.getD a J=aa:=by simp[Act.put,hu,uB d]
def du.of_eq{V dG}(a:V=dG)(d:du b dG):du b V:=M
def x7{A}{a:Sem Next}(e:du b (A.events P b.a #[]))(d:a=(do pure (.value (<-A)))):du b (a.events P b.a #[]):=by grind[iS]
def II{a}{fn}{aw:Array Y->Sem Y}(b:P.funcs[a]?=f fn)(j:(fn.name== "runtime.NumGoroutine")=v)(t:fn.body.isNone=l)(i:Extern.findNext fn=n)(d:Extern.find fn=f aw)(args)(h:dz P (aw args))(p)(V):
  (callFunc a args).events P p V=V.push ⟨.mark (.extern a),v,l⟩:=by have g:fn.name≠ "runtime.NumGoroutine":=M;have e:fn.body=n:=wC;simp[callFunc,b,g,e,i,d];rw[h p]
section
variable {q:af P}
def eg(P:aE)(p:Nat)(k:an)(o:bJ)(g:m aq)(q:ι->y)(b:ι->m aq):Prop:=
 ∀d h,b0 p g d o h->bc g d->∃e i a j,(ab h.eval k).run P d.a=.ok i a.a/\(i=.value j∨(i=.skip/\j=J))/\bx (b e) a j (q e)/\bc (b e) a/\cN g d (b e) a/\du d ((ab h.eval k).events P d.a #[])
def g.cD(M:ι->y)(b:ι->m aq)(af:r.guard=n)(ag:fj E r.dst=l)(T:eg P E r I k M b)(U:∀o,g q E bd (.aj all bq::au) .normal (ga r.dst (M o) I) (b o)):g q E bd (.aj all (r::bq)::au) .normal I k:=by
 intro ai O R j Q C u N idx i a B;cases idx with
 |nil=>exact a.elim
 |cons ah idx=>
 refine rk i a.1 (i6 af) λaa w=>?_;have h:=j.rely w;have d:=R.rely w j;obtain⟨o,Y,p,ab,A,e,ae,J,K,W⟩:=T aa O d h;have x:=K.tooV h;refine⟨Y,p,ab,A,e,⟨⟨k,b o,h,J,K⟩,W⟩,?_⟩;refine U o p _ ?_ J Q C u N idx i a.2 λS s D t X z e F=>B S s D t X z e ((w.aU.trans x).trans F);cases V:r.dst with
 |none=>exact d.mono x h.len
 |some Z=>exact(d.mono x h.len).put (k9 ag Z V) ae
def g.aK{a}(e:a1 P r (bD I) k a ap)(b:r.guard=n)(d:fj E r.dst=l)(h:g q E bd (.aj all bq::au) .normal (ga r.dst a I) ap):g q E bd (.aj all (r::bq)::au) .normal I k:=
 g.Q (.a0 (λ_ _ _ _=>i6 b) e) d h
def oJ(a:m an)(d:bJ)(g:an):Bool:=match g.guard with
 |none=>l
 |some (e,b)=>match yr d a e with
  |some (f l)=>b
  |some (f v)=>!b
  |_=>v
def jW(a:oJ all I r=l):∀d h b,b0 E d h I b->aP r (yielded all.toArray b.tmps)=l:=by
 intro d h b g;unfold oJ at a;split at a
 .grind [i6]
 rename_i j i e;split at a
 .rename_i s;simp only[aP,e,ys s g,a];rfl
 .rename_i s;simp only[aP,e,ys s g];grind
 grind
def g.ix{e}{aS}{res}(s:X q e cQ dh res aS)(aV)(i:oJ all I r=l)(d:r.op=.call {callee:=.value cP,args:=ag,argTypes:=dr})(u:g1 (bD I cP)=f (e,cap))(h:k5 (ag.toList.map (bD I)++e' cap)=gn aV cQ)(m:ha (c aV) cQ=l)(o:dx aV k=f dh)(t:ew dh=l)(j:ew aS=l)(b:fb aV=l)(p:ay (c aV) (c aS)=l)(x:fj E r.dst=l)(w:g q E bd (.aj all bq::au) .normal (ga r.dst (fc (aV++gV (c k) (c aS-c aV)) res) I) (da aV aS k)):g q E bd (.aj all (r::bq)::au) .normal I k:=
 ff.call (jW i) d u aV s h m o t j b (fs p) r.dst a (k9 x) w
end
section
variable {q:af P}
def g.fU{dD}(h:g q E bd (.code s::au) .normal dD ap){cR}(a:iX I dD=f Z)(d:U Z)(b:jo k ap=f cR)(e:U cR):g q E bd (.code s::au) .normal I k:=
 g.bb ap b e (b3.le h (eH a d))
def Cc:m ik->m ik
 |.blk _::au=>Cc au
 |au=>au
def g.fx:∀{au:m ik},g q E bd (Cc au) .normal I k->g q E bd au .normal I k
 |[],a=>a
 |.blk _::au,a=>g.fx (au:=au) a
 |.code _::_,a=>a
 |.aj _ _::_,a=>a
def g.cm{r S2:Type}{iK}(id){u e}(o:iT id au=f u)(J:Go.AM.Cc u=.code iK::e)(z:S2->Prop)(ej:S2->bJ)(A:S2->m aq)(j)(p:r->Prop)(b:r->bJ)(d:r->m aq)(B:r->Nat)(h){a}(D:iX I (b h)=f Z)(t:U Z)(C:jo k (d h)=f a)(w:U a)(y:c k=j)(F:p h)(round:(∀i {I:bJ} {k:m aq} {Z a:m Prop},z i->iX I (ej i)=f Z->U Z->jo k (A i)=f a->U a->g q E bd u .normal I k) ->
   ∀h,p h->g q E (me q E bd au p b d B j h) [.code s] .normal (b h) (d h))(after:∀i,z i->g q E bd (.code iK::e) .normal (ej i) (A i)):g q E bd (.code (.loop s)::au) .normal I k:=
 g.aC j p b d B h D t C w y F (round λi _ _ _ _ K x t o w=>g.fx (by rw[J];exact(after i K).fU x t o w))
end
section
variable {q:af P}
def iE(o:af P)(r:Nat)(j:m y)(i:m aq)(h:Bool)(e:ι->m aq):Prop:=
 ∀a (z:m Y) (d:Nat),b4 i a z j->bc i a->(∃L,a.t[r]?=f L/\L.v=.func (.yield d) #[] #[]) ->
  ∃fn tmps assign body,(Instr.yield d z.toArray).run P a.a=.ok (.round d fn tmps assign body) a.a/\(Instr.yield d z.toArray).events P a.a #[]=#[⟨.obj d,v,v⟩] /\
  ∀(k:ai->a6->Prop) p g,(∀q b,bc (e q) b->df i a (e q) b->cf o k (G (p.finish (.bool h)) g) b) ->
   cf o k (G (Frame.round d fn tmps assign body .normal) (p::g)) a
def zc{b}(g:p.heap[d]?=f (.loop b)):(Instr.getLoop d).run P p=.ok b p/\∀a,(Instr.getLoop d).events P p a=a.push ⟨.obj d,v,v⟩:=by
 have e:(getObj d).run P p=.ok (.loop b) p:=by simp[getObj,Sem.run,g]
 have h:∀a,(getObj d).events P p a=a.push ⟨.obj d,v,v⟩:=λa=>by simp only[getObj,Sem.events,Sem.runT,g];rfl
 constructor
 .simp[Instr.getLoop,e]
 intro a;simp[Instr.getLoop,e,h]
def D7{e gb}(b:p.heap[d]?=f (.loop e)):(setObj d (.loop gb)).run P p=.ok () {p with heap:=p.heap.setIfInBounds d (.loop gb)}/\∀a,(setObj d (.loop gb)).events P p a=a.push ⟨.obj d,l,v⟩:=by
 constructor
 .simp only[setObj,Sem.run,b]
 intro a;simp[setObj,Sem.events,Sem.runT,b];rfl
def abC{a}{args}(i:p.heap[d]?=f (.loop a))(b:args.size=a.params.size):
  (Instr.yield d args).run P p=.ok (.round d a.fn ((a.params.zip args).foldl (λtmps (j,g)=>tmps.setIfInBounds j g) a.tmps) a.assign a.body) p/\(Instr.yield d args).events P p #[]=#[⟨.obj d,v,v⟩]:=by
 obtain⟨e,h⟩:=zc (P:=P) i;constructor
 .simp[Instr.yield,e,b]
 simp[Instr.yield,e,h,b]
def abu{a}(h:p.heap[d]?=f (.loop a))(b:a.state=.ready):
  (Instr.beginRound d).run P p=.ok () {p with heap:=p.heap.setIfInBounds d (.loop {a with state:=.busy})}/\(Instr.beginRound d).events P p #[]=#[⟨.obj d,v,v⟩,⟨.obj d,l,v⟩]:=by
 obtain⟨e,i⟩:=zc (P:=P) h;obtain⟨g,j⟩:=D7 (P:=P) (gb:={a with state:=.busy}) h;constructor
 .simp[Instr.beginRound,e,g,b]
 simp[Instr.beginRound,e,i,g,j,b]
def abx{a}(g:p.heap[d]?=f (.loop a))(u):
  (Instr.endRound d u).run P p=.ok (.bool u.isNone) {p with heap:=p.heap.setIfInBounds d (.loop {a with state:=if u.isNone then .ready else .done,pending:=u})}/\(Instr.endRound d u).events P p #[]=#[⟨.obj d,v,v⟩,⟨.obj d,l,v⟩]:=by
 obtain⟨b,h⟩:=zc (P:=P) g;obtain⟨e,i⟩:=D7 (P:=P) (gb:={a with state:=if u.isNone then .ready else .done,pending:=u}) g;constructor
 .simp only[Instr.endRound,cJ,b,e,c8,dY]
 simp only[Instr.endRound,aD,b,h,e,i,aF,Sem.events_pure];rfl
def abw{a}(g:p.heap[d]?=f (.loop a))(b:a.state≠.busy):
  (Instr.endLoop d).run P p=.ok a.pending {p with heap:=p.heap.setIfInBounds d (.loop {a with state:=.exhausted})}/\(Instr.endLoop d).events P p #[]=#[⟨.obj d,v,v⟩,⟨.obj d,l,v⟩]:=by
 obtain⟨e,h⟩:=zc (P:=P) g;obtain⟨j,i⟩:=D7 (P:=P) (gb:={a with state:=.exhausted}) g;have k:(a.state==.busy)=v:=by cases m:a.state<;>simp_all
 constructor
 .simp[Instr.endLoop,e,j,b]
 simp[Instr.endLoop,e,h,i,b]
section steps
variable {i:aG}{x:Act}{h:m Item}{eU:Bool}
def abD(cl:r.op=.call {callee:=.value cP,args:=ag,argTypes:=dr})(s:x.eval cP=.func (.yield d) #[] #[]):
  (ab x.eval r).run P p=(Instr.yield d (ag.toList.map x.eval).toArray).run P p/\(ab x.eval r).events P p #[]=(Instr.yield d (ag.toList.map x.eval).toArray).events P p #[]:=by
 have O:ag.map x.eval=(ag.toList.map x.eval).toArray:=M;constructor
 .exact Rl
 exact Rl
def abQ{bq}{fn}{tmps}{assign body}(a:aQ[e]?=f r)(g:aP r (yielded aQ x.tmps)=l)(k:i.kind≠.early)(j:(ab x.eval r).run P p=.ok (.round d fn tmps assign body) bi):
  ao P eU (G (i.ab x (.inRegion aQ (e::bq)::h)) ah) p=.go (G (Frame.round d fn tmps assign body .normal) (i.ab x (.inRegion aQ (e::bq)::h)::ah)) bi (Go.Conc.listed P i.fn x r p):=by have b:(i.kind==CallKind.early)=v:=M;rw[zh a g (λm o=>by grind[xX])];simp[stepG.apply,j,G,Frame.ab,b,GStep.after,Go.Conc.listed]
def abL{a}(k:i.roundOf=f d)(o:i.kind≠.early)(m:p.heap[d]?=f (.loop a))(g:a.state=.ready):
  ao P eU (G (i.ab x (.beginRound::h)) ah) p=.go (G (i.ab x h) ah) {p with heap:=p.heap.setIfInBounds d (.loop {a with state:=.busy})} (seen P i.fn #[⟨.obj d,v,v⟩,⟨.obj d,l,v⟩]):=by obtain⟨j,e⟩:=abu (P:=P) m g;have b:(i.kind==CallKind.early)=v:=M;simp[G,ao,stepG.exec,stepG.apply,Frame.ab,k,b,j,e,GStep.after,Frame.finish]
def abR{b}{u}{a}{s}(C:i.roundOf=f d)(bX:i.kind=.normal)(e:p.heap[d]?=f (.loop b))(g:(u=n/\a=[])∨(u=f .ret/\∃k1,a=.code .ret::k1)∨(∃id k1,u=f (.exit id)/\a=.code (.exit id)::k1/\exitTo id k1=n)):
  ao P eU (G (i.ab x a) (s::ah)) p=.go (G (s.finish (.bool u.isNone)) ah) {p with heap:=p.heap.setIfInBounds d (.loop {b with state:=if u.isNone then .ready else .done,pending:=u})} (seen P i.fn #[⟨.obj d,v,v⟩,⟨.obj d,l,v⟩]):=by
 obtain⟨O,aj⟩:=abx (P:=P) e u;rcases g with⟨rfl,rfl⟩|⟨rfl,k1,rfl⟩|⟨id,k1,rfl,rfl,A⟩
 .simp only[Option.isNone_none,dv]at O;exact Pe
 .simp only[Option.isNone_some,dm,j5]at O;exact Pe
 simp[Option.isNone_some,dm,j5]at O;simp[G,ao,stepG.exec,Frame.ab,C,O,aj,GStep.after,doReturn,bX,A]
def abM{a}(j:p.heap[d]?=f (.loop a))(g:a.state≠.busy):
  ao P eU (G (i.ab x (.endRangeFunc d::h)) ah) p=.go (G (i.ab x ((a.pending.map Item.code).toList++h)) ah) {p with heap:=p.heap.setIfInBounds d (.loop {a with state:=.exhausted})} (seen P i.fn #[⟨.obj d,v,v⟩,⟨.obj d,l,v⟩]):=by obtain⟨b,e⟩:=abw (P:=P) j g;simp[G,ao,stepG.exec,Frame.ab,b,e,GStep.after]
def aby{fn}{tmps}{params}{assign body}:
  (Instr.enterLoop fn tmps params assign body n).run P p=.ok (p.heap.size+1,[{target:=.collected p.heap.size,args:=#[]}]) {p with heap:=(p.heap.push (.deferred (f []))).push (.loop {state:=.ready,pending:=n,fn,tmps,params,assign,body,defers:=p.heap.size})} /\
  (Instr.enterLoop fn tmps params assign body n).events P p #[]=#[]:=by
 have d:∀b p,(newObj b).run P p=.ok p.heap.size {p with heap:=p.heap.push b}:=λb p=>by simp[newObj,Sem.run]
 have e:∀b p a,(newObj b).events P p a=a:=λb p a=>by simp[newObj,Sem.events,Sem.runT]
 constructor
 .simp[Instr.enterLoop,d];rfl
 simp[Instr.enterLoop,d,e]
def abP{b}{Z}{assign body}{a}{fn}{s}(y:i.roundOf=n)(q:i.kind≠.early)(r:P.funcs[a]?=f fn)(A:(fn.name== "runtime.NumGoroutine")=v)(z:fn.body.isNone=v)(t:x.eval b=.func (.func a) #[] s.toArray):
  ao P eU (G (i.ab x (.code (.rangeFunc b Z assign body)::h)) ah) p =
   .go (G (Frame.enter P a (Value.func (.yield (p.heap.size+1)) #[] #[]::s).toArray .normal) (i.ab {x with defers:={target:=.collected p.heap.size,args:=#[]}::x.defers} (.inRangeFunc (p.heap.size+1)::h)::ah))
    {p with heap:=(p.heap.push (.deferred (f []))).push (.loop {state:=.ready,pending:=n,fn:=i.fn,tmps:=x.tmps,params:=Z,assign,body,defers:=p.heap.size})} #[]:=by
 obtain⟨w,u⟩:=aby (P:=P) (p:=p) (fn:=i.fn) (tmps:=x.tmps) (params:=Z) (assign:=assign) (body:=body);have o:(i.kind==CallKind.early)=v:=M;have m:fn.name≠ "runtime.NumGoroutine":=M;have k:fn.body≠n:=M;have e:∀d j g,({fn:=i.fn,tmps:=x.tmps,todo:=j,defers:=d,mode:=g,kind:=i.kind,roundOf:=i.roundOf}:aG).eval b=.func (.func a) #[] s.toArray:=by intro d j g;rw[<-t];cases b<;>rfl
 simp[G,ao,stepG.exec,Frame.ab,y]at e⊢;simp[w,u,GStep.after,stepG.apply,resolve,e,Deferred.ofValue,invoke,callFunc,r,m,k,o,seen];rfl
end steps
end
section
variable {q:af P}
def bc.fH(i:bc k b){g:Nat}{a}{m}(aJ:k[g]?=f (.loop E a m))(j:∃L,b.t[g]?=f L/\L.v=.func (.yield d) #[] #[]):
  ∃tmps fn e,b.t[g]?=f ⟨.func (.yield d) #[] #[],[d]⟩/\b.a.heap[d]?=f (.loop {m with tmps:=tmps,fn:=fn,defers:=e})/\tmps.size=E/\(∀o,bx k b (tmps.getD o J) (look a o))/\(∀r,b.D d r=n):=by obtain⟨L,h,p⟩:=j;obtain⟨q,tmps,fn,e,x,t,w,s,u⟩:=i.box g _ L aJ h;grind
def bc.gB(i:bc k b){j}{h}{u gb}{eb}(aJ:k[j]?=f (.loop E h u)){tmps}{fn e}(x:b.t[j]?=f ⟨.func (.yield d) #[] #[],[d]⟩)(C:b.a.heap[d]?=f (.loop {u with tmps:=tmps,fn:=fn,defers:=e}))(N:tmps.size=E)(B:∀o,bx k b (tmps.getD o J) (look h o))(I:∀t,b.D d t=n)(w:eb=.M∨eb=.loop E h gb):
  bc (k.set j eb) {b with a:={b.a with heap:=b.a.heap.setIfInBounds d (.loop {gb with tmps:=tmps,fn:=fn,defers:=e})}}/\cN k b (k.set j eb) {b with a:={b.a with heap:=b.a.heap.setIfInBounds d (.loop {gb with tmps:=tmps,fn:=fn,defers:=e})}}:=by
 have S:d<b.a.heap.size:=i.lt _ (b_ x) d D;have r:∀g,g≠d->(b.a.heap.setIfInBounds d (.loop {gb with tmps:=tmps,fn:=fn,defers:=e}))[g]?=b.a.heap[g]?:=λg m=>by grind
 have R:b.t.set j ⟨.func (.yield d) #[] #[],[d]⟩=b.t:=mY;have Q:j<c k:=(cO.1 aJ).1;have z:fM (.loop E h u) ⟨.func (.yield d) #[] #[],[d]⟩ eb ⟨.func (.yield d) #[] #[],[d]⟩:=by rcases w with rfl|rfl<;>rfl
 have p:fq k b (k.set j eb) {b with a:={b.a with heap:=b.a.heap.setIfInBounds d (.loop {gb with tmps:=tmps,fn:=fn,defers:=e})}}:=by
  refine⟨λ_ _ _ q=>q,λF y L U A=>?_⟩;by_cases O:j=F
  .grind
  exact⟨y,L,by grind,A,.refl _ _⟩
 have:=i.b7 (cj:=b.D) (bi:={b.a with heap:=b.a.heap.setIfInBounds d (.loop {gb with tmps:=tmps,fn:=fn,defers:=e})}) (eb:=eb) (cv:=⟨.func (.yield d) #[] #[],[d]⟩) aJ x z D (λg _ m=>r g M) (λ_ _ _ _=>rfl) (λ_ _ _ q=>q)
  (λg t K s=>by
   have T:g≠d:=M;rw[<-i.mem g t K s];simp[aH]
   grind) (λg m=>by grind) a a a (by
   rcases w with rfl|rfl
   .trivial
   .refine⟨d,tmps,fn,e,a,M,N,λo=>?_,I⟩
    .have:=(B o).mono p i.len
     grind)
 grind
def g.yield{d:ι->m aq}{e}{bh}{res}(ah:iE q e bh k res d)(G:r.guard=n)(aj:fj E r.dst=l)(S:r.op=.call {callee:=.value cP,args:=ag,argTypes:=dr}){N0}{il}{a'}(R:k[e]?=f (.loop N0 il a'))(af:bD I cP=.n (.Q (.aM e)))(aJ:ag.toList.map (bD I)=bh)(h:∀T,g q E bd (.aj all bq::au) .normal (ga r.dst (ax (.bool res)) I) (d T)):g q E bd (.aj all (r::bq)::au) .normal I k:=by
 intro aI x an w i z J Z idx u b Q;cases idx with
 |nil=>exact b.elim
 |cons T idx=>
 refine .next a λt aD=>?_;have X:=q.bH aD;have s:=w.rely X;have j:=an.rely X w;have N:=eF j cP;rw[af]at N;obtain⟨_,L,V,aE,_⟩:=(show cA _ t _ (.aM e)from N)
 obtain⟨U,tmps,fn,aG,aM,aH,ao,ar,av⟩:=s.box e _ L R V;subst aM;have aw:b4 k t (ag.toList.map x.eval) bh:=by grind[m6,eF]
 obtain⟨aF,aK,assign,body,H,al,ae⟩:=ah t (ag.toList.map x.eval) U aw s ⟨_,V,rfl⟩;obtain⟨ab,ai⟩:=abD (P:=P) (p:=t.a) (x:=x) S aE;refine⟨_,t,_,abQ b.1 (i6 G) u (ab.trans H),⟨⟨k,k,s,s,.refl _ _⟩,du.seen ?_⟩,ae Z _ _ λY A y o=>?_⟩
 .rw[ai,al];exact .Q (mv (L:=⟨.func (.yield U) #[] #[],[U]⟩) (b_ V) D)
 have M:=qk (i:=i) (x:=x) (h:=z) all.toArray T idx (.bool res);rw[b.1]at M;simp[nX]at M;rw[M];refine h Y A _ ?_ y i z J Z idx u b.2 λaz C W F aA K O B=>Q az C W F aA K O ((X.aU.trans o).trans B);cases aa:r.dst with
 |none=>exact j.mono o s.len
 |some aC=>exact(j.mono o s.len).put (k9 aj aC aa) (show bx (d Y) A (.bool res) (ax (.bool res))from Rd.bool)
def rl:m Tmp->m y->bJ->bJ
 |g::d,e::b,a=>rl d b ((g,e)::a)
 |_,_,a=>a
def y4(b:Nat):m Tmp->Bool
 |[]=>l
 |d::a=>match ay (d+1) b with|true=>y4 b a|false=>v
def GI{E}{k}{b}:∀{e:m Tmp}{a:m y}{z:m Y}{I:bJ}{x:Act},b0 E k b I x->b4 k b z a->y4 E e=l->b0 E k b (rl e a I) {x with tmps:=(e.zip z).foldl (λtmps (i,j)=>tmps.setIfInBounds i j) x.tmps}
 |[],a,z,I,x,d,_,_=>by simpa[rl]using d
 |_::_,[],[],I,x,d,_,_=>by simpa[rl]using d
 |_::_,[],_::_,I,x,d,g,_=>g.elim
 |_::_,_::_,[],I,x,d,g,_=>g.elim
 |i::p,O::a,j::z,I,x,d,g,h=>by
  simp[y4]at h;split at h
  .rename_i o;have:=GI (d.put (O:=i) (fs o) g.1) g.2 h;simpa[rl,Act.put]using this
  grind
def Zz:Exit->Option (Option Code)
 |.normal=>f n
 |.ret=>f (f .ret)
 |.exit id=>f (f (.exit id))
 |_=>n
def iE.intro{a5:Type}{h E}{e}{b}{bh}{k}{O:a5->m aq}{u}(aS:k[h]?=f (.loop E e b))(bj:b.state=.ready)(aN:c bh=b.params.size)(bl:y4 E b.params.toList=l)(bo:b3 q E b.assign (λA N g=>A=.normal/\g[h]?=f (.loop E e b)/\b3 q E b.body (λA bb w=>Zz A=f u/\w[h]?=f (.loop E e {b with state:=.busy}) /\
   ∃bq,q6 (w.set h (.loop E e {b with state:=if u.isNone then .ready else .done,pending:=u})) (O bq)) N (g.set h (.loop E e {b with state:=.busy}))) (rl b.params.toList bh e) k):iE q h bh k u.isNone O:=by
 intro D z d bm Z aL;obtain⟨tmps,fn,bn,W,aF,aH,aI,bp⟩:=Z.fH aS aL;have a':c z=b.params.size:=by grind[b4.get]
 obtain⟨a3,a4⟩:=abC (P:=P) (args:=z.toArray) aF M;refine⟨_,_,_,_,a3,a4,λaj al j aJ=>?_⟩;let J:aG:={fn:=fn,tmps:=#[],todo:=[],defers:=[],mode:=.run,kind:=.normal,roundOf:=f d}
 have p:J.kind≠.early:=by simp[J]
 have aK:b0 E k D (rl b.params.toList bh e) {tmps:=(b.params.zip z.toArray).foldl (λtmps (a2,x)=>tmps.setIfInBounds a2 x) tmps,defers:=[]}:=by
  have:=GI (x:={tmps:=tmps,defers:=[]}) (I:=e) ⟨aH,⟨[],B⟩,aI⟩ bm bl;have A:(b.params.zip z.toArray).foldl (λtmps (ag:Tmp×Y)=>tmps.setIfInBounds ag.1 ag.2) tmps=(b.params.toList.zip z).foldl (λtmps (ag:Tmp×Y)=>tmps.setIfInBounds ag.1 ag.2) tmps:=by rw[<-Array.foldl_toList];simp
  grind
 show cf q aj (G (J.ab {tmps:=(b.params.zip z.toArray).foldl (λtmps (a2,x)=>tmps.setIfInBounds a2 x) tmps,defers:=[]} [.code b.assign,.beginRound,.code b.body]) (al::j)) D;refine bo D _ aK Z J [.beginRound,.code b.body] (al::j) aj p ?_;rintro A N g bs aw ⟨rfl,aR,br⟩ az s t;refine .next a λa0 aa=>?_;have H:=q.bH aa;have S:=s.rely H;have aA:=az.rely H s;have bk:∃L,a0.t[h]?=f L/\L.v=.func (.yield d) #[] #[]:=by obtain⟨ar,y,k1,av,au⟩:=(t.trans H.aU).box h _ _ aS W;rw[aR]at k1;cases k1;exact⟨y,av,au⟩
 obtain⟨bw,a9,a7,U,V,aC,aD,aE⟩:=S.fH aR bk;have ai:=S.gB (gb:={b with state:=.busy}) aR U V aC aD aE (.inr rfl);have R:∀{D:a6} {k:m aq} {L:Loc},D.t[h]?=f L->L.ak=[d]->du D #[⟨.obj d,v,v⟩,⟨.obj d,l,v⟩]:=λ{D k L} X p=>
  .fh (mv (b_ X) M) (mv (b_ X) M)
 refine⟨_,_,_,abL (d:=d) a p V bj,⟨⟨_,_,S,ai.1,ai.2⟩,du.seen (R (k:=g) U a)⟩,?_⟩;have ba:=ai.2.tooV S;have bg:=ai.1;refine br _ aw (aA.mono ba S.len) bg J [] (al::j) aj p ?_;rintro A bc bf a1 ax ⟨r,aQ,aP,bt⟩ f3 C af;have stA:=((t.trans H.aU).trans ba).trans af;have fin:∀K i,cV a1 i->((u=n/\K=[])∨(u=f .ret/\∃k1,K=.code .ret::k1)∨(∃id k1,u=f (.exit id)/\K=.code (.exit id)::k1/\exitTo id k1=n)) ->
   ∃T F Q,ao P q.b4 (G (J.ab ax K) (al::j)) i.a=.go T F.a Q/\kx i F Q/\cf q aj T F:=by
  intro K i o aM;have an:=C.rely o;have bd:∃L,i.t[h]?=f L/\L.v=.func (.yield d) #[] #[]:=by obtain⟨ar,y,k1,av,au⟩:=(stA.trans o.aU).box h _ _ aS W;rw[aQ]at k1;cases k1;exact⟨y,av,au⟩
  obtain⟨bu,a_,a8,ab,ae,aT,aV,aW⟩:=an.fH aQ bd;have ah:=an.gB (gb:={b with state:=if u.isNone then .ready else .done,pending:=u}) aQ ab ae aT aV aW (.inr rfl);obtain⟨aY,aZ,_⟩:=bt _ ah.1;exact⟨_,_,_,abR (d:=d) a a ae aM,⟨⟨_,_,an,ah.1,ah.2⟩,du.seen (R (k:=bf) ab a)⟩,aJ aP _ aY (((stA.trans o.aU).trans (ah.2.tooV an)).trans (aZ.tooV ah.1))⟩
 cases A with
 |normal=>
  cases r;exact .next a λi o=>fin [] i (q.bH o) (.inl ⟨a,a⟩)
 |ret=>
  cases r;intro pre;exact .next a λi o=>fin _ i (q.bH o) (.inr (.inl ⟨a,pre,a⟩))
 |exit id=>
  cases r;intro pre aO;refine .next a λi o=>fin _ i (q.bH o) (.inr (.inr ⟨id,_,a,a,?_⟩));have:=aO [];simpa[exitTo]using this
 |_=>cases r
end
def de(p:af P)(k:Nat)(u:Code)(aM:fw)(t:bJ)(j:m aq):Prop:=
 ∀i q,b0 k j i t q->bc j i->∀h s g (o:ai->a6->Prop),h.kind≠.early->h.roundOf=n ->
  (∀r d a b e,aM r d a->b0 k a b d e->bc a b->df j i a b->kG p o h s g r e b)->cf p o (G (h.ab q (.code u::s)) g) i
section
variable {q:af P}{aM:fw}
def b3.bw(m:b3 q E s aM I k):de q E s aM I k:=λp g j d h o a e b _ i=>m p g j d h o a e b i
theorem de.seq{N z}(T:de q E N (v8 (de q E z aM) aM) I k):de q E (.seq N z) aM I k:=by
 intro W R U e B K g A i b h;refine .ctl e a (λ_=>px) λV d=>?_;refine T V R (U.rely d e) (e.rely d) B (.code z::K) g A i b ?_;intro r O Q w o M J F y;have C:=d.aU.trans y;cases r with
 |normal=>exact M w o J F B K g A i b λr S m x p u s t j=>h r S m x p u s t (C.trans j)
 |_=>exact kG.cons (λ_ _=>rfl) D (h _ _ _ _ _ M J F C)
theorem de.block{id}(x:de q E s (uL id aM) I k):de q E (.block id s) aM I k:=by
 intro B r y e t h i p j g lR;refine .ctl e a (λ_=>zf) λz d=>?_;refine x z r (y.rely d e) (e.rely d) t (.inBlock id::h) i p j g ?_;intro aw dD ap m fO bl C aj o;have O:=d.aU.trans o;cases aw with
 |normal=>
  exact Pg
 |exit b=>
  simp[uL]at bl;split at bl
  .exact Q0
  .rename_i u
   intro pre vh;have:=lR (.exit b) dD ap m fO bl C aj O (pre++[.inBlock id]) (λgk=>by
    rw[mi,vh];have:(id==b)=v:=M
    simp[exitTo,this])
   grind
 |ret=>exact lR _ _ _ _ _ bl C aj O
 |panic w=>exact lR _ _ _ _ _ bl C aj O
 |goto A=>exact lR _ _ _ _ _ bl C aj O
 |outgrown=>exact lR _ _ _ _ _ bl C aj O
def bc.jN(a:bc k b){r:Nat->Prop}(h:∀e,r e->e<b.a.heap.size/\∀L∈b.t,e∉L.ak):bc k {b with own:=r}:=
 ⟨a.mem,a.len,λj d L aJ g=>ey.b_ (k:=k) (b:=b) (ap:=k) (aA:={b with own:=r}) ⟨λ_ _ _ a=>a,λ_ d L a i=>⟨d,L,a,i,.refl _ _⟩⟩ a.len (λ_ _=>⟨rfl,λ_=>rfl⟩) (a.box j d L aJ g),a.a1,a.lt,h⟩
def bc.bG(e:bc k b){a'}{r:Nat->Prop}(y:b.own a')(s:∀i,r i->b.own i)(E:¬r a')(B:∀C,b.D a' C=n)(w:b.a.heap[a']?=f (.deferred (f []))):
  bc (k++[.bl]) {b with t:=b.t++[⟨.int .i64 a',[a']⟩],own:=r}/\e2 b {b with t:=b.t++[⟨.int .i64 a',[a']⟩],own:=r}:=by
 obtain⟨J,I⟩:=e.own a' y;have q:fq k b (k++[.bl]) {b with t:=b.t++[⟨.int .i64 a',[a']⟩],own:=r}:=by refine⟨λ_ _ _ e=>e,λm o L aJ d=>⟨o,L,M,?_,.refl _ _⟩⟩;grind
 refine⟨⟨e.mem,by simp[e.len],?_,?_,?_,?_⟩,⟨a,λ_ _ _ e=>e,λ_ _ _=>rfl,e.mem,?_⟩⟩
 .intro m o L aJ d;rcases rC d with u|⟨g,rfl⟩
  .have g:m<c k:=by rw[<-e.len];grind
   rw[j3 g]at aJ;exact(e.box m o L aJ u).b_ q e.len λ_ _=>⟨a,λ_=>rfl⟩
  rw[g,e.len,hl (bC _)]at aJ;simp at aJ;subst aJ;exact⟨a',a,w,B⟩
 .intro m t L p d h i cT j;rcases rC d with k1|⟨z,rfl⟩<;>rcases rC h with x|⟨A,rfl⟩
  .exact e.a1 m t L p k1 x i cT j
  .grind
  .grind
  grind
 .intro L d i cT;simp[fx,gJ]at d;rcases d with d|rfl
  .exact e.lt L d i cT
  grind
 .intro i cT;obtain⟨F,D⟩:=e.own i (s i cT);grind
 grind
def y1:Option Code->Option Exit
 |none=>f .normal
 |some .ret=>f .ret
 |some (.exit id)=>f (.exit id)
 |_=>n
def de.rangeFunc{bL}{Z}{assign body}{bF}{o3}{ap:ι->m aq}{gb:ι->Loop}(aE:∀b x,b0 E k b I x->bc k b->∃aW:m Y,x.eval bL=.func (.func bF) #[] aW.toArray/\b4 k b aW o3)(aF:bk q bF (.n (.Q (.aM (c k)))::o3) (k++[.loop E I {state:=.ready,pending:=n,fn:=0,tmps:=#[],params:=Z,assign:=assign,body:=body,defers:=0}]) res ap)(bh:∀u,(ap u)[c k]?=f (.loop E I (gb u))/\(gb u).state≠.busy)(h:∀u,∃al,y1 (gb u).pending=f al/\aM al I ((ap u).set (c k) .M++[.bl])):de q E (.rangeFunc bL Z assign body) aM I k:=by
 intro b x a_ aH i A ah bJ d aP bg;obtain⟨⟨fn,aG,X,H⟩,bT⟩:=aF;refine .next a λe aN=>?_;have aa:=q.bH aN;have y:=aH.rely aa;have F:=a_.rely aa aH;obtain⟨aW,bq,R⟩:=aE e x F y;generalize aO:e.a.heap.size=a';have bQ:=λeU=>abP (P:=P) (eU:=eU) (h:=A) (ah:=ah) (Z:=Z) (assign:=assign) (body:=body) (i:=i) (p:=e.a) aP d aG X H bq;rw[aO]at bQ;let w1:ar:={e.a with heap:=e.a.heap.push (.deferred (f []))}
 let aS:Loop:={state:=.ready,pending:=n,fn:=i.fn,tmps:=x.tmps,params:=Z,assign:=assign,body:=body,defers:=a'}
 let w2:ar:={e.a with heap:=(e.a.heap.push (.deferred (f []))).push (.loop aS)}
 have bO:w2.heap.size=a'+2:=M;have bp:w1.heap.size=a'+1:=M;have aI:∀i,i<e.a.heap.size->w1.heap[i]?=e.a.heap[i]?:=λi d=>by grind
 have bX:∀i,i<w1.heap.size->w2.heap[i]?=w1.heap[i]?:=λi d=>by grind
 have bG:∀i,i<e.a.heap.size->w2.heap[i]?=e.a.heap[i]?:=λi d=>by grind
 have br:w2.heap[a']?=f (.deferred (f [])):=M;have bV:w2.heap[a'+1]?=f (.loop aS):=M;have bt:∀i,e.a.heap.size<=i->∀r,e.D i r=n:=λi d r=>by
  cases t:e.D i r with
  |none=>rfl
  |some af=>have:=y.block t;omega
 let j:Loc:=⟨.func (.yield (a'+1)) #[] #[],[a'+1]⟩
 let K:Loc:=⟨.int .i64 a',[a']⟩
 let ai:Loop:={state:=.ready,pending:=n,fn:=0,tmps:=#[],params:=Z,assign:=assign,body:=body,defers:=0}
 obtain⟨bb,bd⟩:=y.cW (cj:=e.D) (bi:=w2) w bG (λ_ _ _=>rfl) (λi d r af t=>by grind) rfl rfl rfl;have bE:fq k e (k++[.loop E I ai]) ⟨e.t++[j],e.D,w2,e.own⟩:=by refine⟨λ_ _ _ bf=>bf,λbP bS L aJ g=>⟨bS,L,M,?_,.refl _ _⟩⟩;grind
 obtain⟨V,bY⟩:=bb.bY (bS:=.loop E I ai) (L:=j) bd rfl y ⟨a'+1,x.tmps,i.fn,a',rfl,bV,F.size,λb3=>(F.aL b3).mono bE y.len,λr=>bt _ w r⟩ (λi d=>by grind)
 have az:=V.jN (r:=λi=>e.own i∨i=a') (by
  rintro i (d|rfl)
  .exact V.own i d
  .refine⟨by grind,λL g=>?_⟩;simp[fx,gJ]at g;rcases g with g|rfl
   .intro J;have:=y.lt L g i J;omega
   grind)
 have d1:=y.dY;obtain⟨aZ,a0⟩:=d1.cW (cj:=e.D) (bi:=w1) w aI (λ_ _ _=>rfl) (λi d r af t=>by grind) rfl rfl rfl;obtain⟨an,a1⟩:=aZ.bY (bS:=.M) (L:=K) a0 rfl d1 B (λi d=>by grind);obtain⟨a2,a3⟩:=an.cW (cj:=e.D) (bi:=w2) M bX (λ_ _ _=>rfl) (λi d r af t=>by grind) rfl rfl rfl;obtain⟨a4,a5⟩:=a2.bY (bS:=.M) (L:=j) a3 rfl an B (λi d=>by grind);have aC:e2 ⟨e.t++[K]++[j],e.D,w2,e.own⟩ ⟨e.t++[j],e.D,w2,λi=>e.own i∨i=a'⟩:=by
  refine⟨a,λ_ _ _ bf=>bf,λ_ _ _=>rfl,V.mem,?_⟩;rintro i ((d|rfl)|⟨L,g,d⟩)
  .grind
  .exact .inr ⟨K,by simp,by grind⟩
  grind
 refine⟨_,⟨e.t++[K]++[j],e.D,w2,e.own⟩,_,bQ q.b4,⟨⟨_,_,d1,a4,a1.trans a5⟩,.nil⟩,.aP aC (bT _ (Value.func (.yield (a'+1)) #[] #[]::aW) ?_ az bJ _ λu bM af b1 b5 bo S aV=>?_)⟩
 .refine⟨⟨λbS C=>?_,j,?_,a,a⟩,?_⟩
  .rw[hl (bC _)]at C;simp at C;subst C;rfl
  .show (e.t++[j])[c k]?=_;rw[<-y.len,hl (bC _)];simp
  exact R.mono (k:=k) (b:=e) (ap:=k++[.loop E I ai]) (aA:=⟨e.t++[j],e.D,w2,λi=>e.own i∨i=a'⟩) ⟨bE.mem,bE.box⟩ y.len
 have W:(i.ab {x with defers:={target:=.collected a',args:=#[]}::x.defers} (.inRangeFunc (a'+1)::A)).finish af=i.ab {x with defers:={target:=.collected a',args:=#[]}::x.defers} (.endRangeFunc (a'+1)::A):=cS;refine uG (ah:=ah) (s:=i.ab {x with defers:={target:=.collected a',args:=#[]}::x.defers} (.inRangeFunc (a'+1)::A)) S b5 λb2 bH=>?_;rw[W];refine .next a λQ bW=>?_;have bK:=q.bH bW;have aY:=(S.rely bH).rely bK;have bI:=(aV.trans bH.aU).trans bK.aU;obtain⟨N,aK⟩:=bh u;have aD:∃L,Q.t[c k]?=f L/\L.v=.func (.yield (a'+1)) #[] #[]:=by obtain⟨eb,ag,k1,aQ,aR⟩:=bI.box (c k) (.loop E I ai) j (show(k++[aq.loop E I ai])[c k]?=_ from AD) (by show(e.t++[j])[c k]?=_;rw[<-y.len,hl (bC _)];simp);rw[N]at k1;cases k1;exact⟨ag,aQ,aR⟩
 obtain⟨bR,ao,aj,ab,aT,bx,bz,bA⟩:=aY.fH N aD;obtain⟨O,ae⟩:=aY.gB (gb:={gb u with state:=.exhausted}) (eb:=.M) N ab aT bx bz bA (.inl rfl);refine⟨_,_,_,abM aT aK,⟨⟨_,_,aY,O,ae⟩,du.seen (.fh (mv (b_ ab) D) (mv (b_ ab) D))⟩,?_⟩;have z:=bI.trans (ae.tooV aY);generalize bN:({Q with a:={Q.a with heap:=Q.a.heap.setIfInBounds (a'+1) (.loop {{gb u with state:=.exhausted}with tmps:=bR,fn:=ao,defers:=aj})}}:a6)=o at O ae z;have ax:o.own a':=by rw[z.own];grind
 have aw:o.a.heap[a']?=f (.deferred (f [])):=by rw[z.a3 a' (.inr a)];omega
 have av:∀r,o.D a' r=n:=λr=>by rw[z.bz a' M (λL g=>(az.own a' (.inr a)).2 L g)];grind
 obtain⟨bB,t2⟩:=O.bG (a':=a') (r:=e.own) ax (λi d=>by rw[z.own];grind) (λJ=>by have:=(y.own a' J).1;omega) av aw;refine .aP t2 ?_;have bD:df k e ((ap u).set (c k) .M++[.bl]) {o with t:=o.t++[⟨.int .i64 a',[a']⟩],own:=e.own}:=by
  refine⟨M,λi d=>?_,λi r af t=>z.mem i r af t,λi d bZ r=>?_,λL g i d=>?_,λbP bS L aJ g=>?_,z.os,z.tape,z.output,a⟩
  .show o.a.heap[i]?=_;rw[z.a3 i (.inl d)];exact bG i (y.own i d).1
  .show o.D i r=_;rw[z.bz i M (λL g=>?_)];grind
  .simp only[fx,gJ]at g;rcases g with g|rfl
   .rcases z.bR L g i d with au|⟨bU,au,dE⟩
    .grind
    grind
   grind
  have bl:=(cO.1 aJ).1;have bj:=(cO.1 g).1;obtain⟨eb,ag,k1,aQ,aR⟩:=z.box bP bS L M M;grind
 have a8:b0 E ((ap u).set (c k) .M++[.bl]) {o with t:=o.t++[⟨.int .i64 a',[a']⟩],own:=e.own} I {x with defers:={target:=.collected a',args:=#[]}::x.defers}:=by
  have t:=F.mono bD y.len;obtain⟨bs,T⟩:=F.defers;refine⟨t.size,⟨c ((ap u).set (c k) .M)::bs,⟨⟨M,⟨.int .i64 a',[a']⟩,a',?_,a,a⟩,λJ=>?_,T.mono bD.ext⟩⟩,t.aL⟩
  .show (o.t++_)[_]?=_;rw[<-O.len,hl (bC _)];simp
  have au:=T.e5 _ J;grind
 obtain⟨al,C,bm⟩:=h u;have bu:=bg al I _ _ _ bm a8 bB (aa.aU.trans bD);revert C;show y1 (gb u).pending=f al->cf q bJ (G (i.ab _ (((gb u).pending.map Item.code).toList++A)) ah) _;intro C;cases aL:(gb u).pending with
 |none=>rw[aL]at C;cases C;exact bu
 |some s=>
  rw[aL]at C;cases s<;>simp[y1,reduceCtorEq,e3]at C
  .subst C;exact bu [] bn
  subst C;exact bu A
def b0.callee{o}{h}(d:look I o=ax (.fn (.func h) [] cap)):∀g a,b0 E k g I a->bc k g->∃e:m Y,a.eval (.tmp o)=.func (.func h) #[] e.toArray/\b4 k g e (e' cap):=by
 intro g a p _;have b:=p.aL o;rw[d]at b;have b:=b7 b;show ∃e:m Y,a.tmps.getD o J=.func (.func h) #[] e.toArray/\_;generalize a.tmps.getD o J=y at b;cases b with
 |fn s j d i q r t u w x=>
  grind[qc]
def bk.e4{h}{fn}{args}{ap:ι->m aq}(u:P.funcs[h]?=f fn)(r:(fn.name== "runtime.NumGoroutine")=v)(o:fn.body=f s)(C:ay args.length fn.ntmps=l)(D:kw args k->de q fn.ntmps s (λB w g=>∃t,bY fn k.length (res t) (ap t) B w g) (h2 0 args) k):bk q h args k res ap:=by refine⟨⟨fn,u,r,by grind⟩,λe z b a=>?_⟩;exact(bk.hy u r o (fs C) λI y h E A F i x p d j=>D ⟨e,z,b,a⟩ I y h E A F i x p d j).2 e z b a
def R2(fn:Func)(e:y)(a:m aq):fw:=λi j g=>
 (i=.ret∨i=.normal)/\g=a/\jO a=l/\∃b h d,oz j fn.results.toList=f b/\pf b=f h/\kj h e=f d/\U d
def bk.bP{i}{fn}{args}{ap:ι->m aq}(Y:P.funcs[i]?=f fn)(ao:(fn.name== "runtime.NumGoroutine")=v)(K:fn.body=f s)(W:ay args.length fn.ntmps=l)(al:b3 q fn.ntmps s (λaw af g=>∃X,R2 fn (res X) (ap X) aw af g) (h2 0 args) k):bk q i args k res ap:=by
 refine⟨⟨fn,Y,ao,by grind⟩,λaz z O M V h I=>?_⟩;obtain⟨an,aE⟩:=b4.get O;let t:aG:={fn:=i,tmps:=#[],todo:=[],defers:=[],mode:=.run,kind:=.normal,roundOf:=n}
 have ah:Frame.enter P i z.toArray .normal=t.ab {tmps:=z.toArray++Array.replicate (fn.ntmps-z.toArray.size) J,defers:=[]} [.code s]:=by simp[Frame.enter,Frame.ab,Y,K,t]
 rw[ah];have W:=fs W;refine al az {tmps:=z.toArray++Array.replicate (fn.ntmps-z.toArray.size) J,defers:=[]} ⟨by grind,⟨[],B⟩,λo=>?_⟩ M t [] h V D ?_
 .rw[yB];simp[gZ,dv,sm];have:=aE o;rcases dT o (c z) with aH|aF
  .exact Qo
  rw[wT w];trivial
 rintro aw ag g T e ⟨aa,S,rfl,au,u,ai,av,E,F,ab,R⟩ N r U;have fin:∀b d,cV T d->b.fn=i->b.tmps=e.tmps->b.defers=e.defers->b.mode=.returning->b.kind=.normal->cf q V (G b h) d:=by
  intro b d a x y aj A C;have j:=N.rely a r;obtain⟨aA,aD,ae,aC⟩:=L' (P:=P) j E F;obtain⟨p,Q⟩:=j.defers;have H:e.defers=[]:=by
   cases p with
   |nil=>cases ax:e.defers with
    |nil=>rfl
    |cons ai u=>rw[ax]at Q;exact Q.elim
   |cons ar p=>exact absurd rfl (vA au _ (b_ (Q.e5 ar D)))
  refine I aa b aA _ ⟨x,A,by grind,C,fn,by grind,λZ _=>?_⟩ (pj ab R ae) (r.rely a) (U.trans a.aU);rw[y];exact⟨aD Z,λaw S=>by rw[aC Z #[]]at S;grind⟩
 rcases S with rfl|rfl
 .intro pre;exact .ctl r rfl (λ_=>Ec rfl) λd a=>fin _ d a rfl rfl (h1 _) rfl rfl
 exact .ctl r rfl (λ_=>Ea rfl) λd a=>fin _ d a rfl rfl (h1 _) rfl rfl
end
structure un{P:aE}(q:af P)(E:Nat)(aQ:Array an)(I:bJ)(k:m aq)(F:Nat->y)(s:Nat->bJ)(idx:Nat->Option Nat)(last:Nat):Prop where
 cO:∀e r,aQ[e]?=f r->∀aw∈r.after,eS aw=l->aw.on<e
 eU:∀e r O,aQ[e]?=f r->r.dst=f O->idx O=f e/\O<E
 dS:∀O e,idx O=f e->∃r,aQ[e]?=f r/\r.dst=f O
 Q:∀e r,aQ[e]?=f r->e≠last->aZ q E aQ.toList r (s e) k (F e) k
 eT:∀e r,aQ[e]?=f r->e≠last->∀o k b aa,bx k b aa (match idx o with|some u=>(if ∃aw∈r.after,eS aw=l/\aw.on=u then F u else .any)|none=>look I o)->bx k b aa (look (s e) o)
 hk:∀r,aQ[last]?=f r->∀u,u<aQ.size->u≠last->∃aw∈r.after,eS aw=l/\aw.on=u
 ef:last<aQ.size
section
variable {q:af P}{F:Nat->y}{s:Nat->bJ}{idx:Nat->Option Nat}{last:Nat}
theorem Ku{a o}(i:∀b,b<aQ.size->L.getD b l=l):Region.linearise.go .any aQ a o L []=[]:=by
 cases a with
 |zero=>exact Dh o L
 |succ j=>
  have d:aN .any aQ L=[]:=by
   cases d:aN .any aQ L with
   |nil=>rfl
   |cons e g=>
    have h:e∈aN .any aQ L:=M;grind[pm]
  grind[vt]
def un.eP(t:un q E aQ I k F s idx last){W:ai->a6->Prop}{y:aG}{D}(A:y.kind≠.early){cG}(aa:∀d i,i.tmps.size=E->(∀b,bx k d (i.tmps.getD b J) (match idx b with|some m=>if m=last then .any else F m|none=>look I b))->i.defers=[]->bc k d->df k cG k d->cf q W (G (y.ab i (.inRegion aQ [last]::D)) ah) d):
  ∀C L,L.size=aQ.size->c (L.toList.filter (λy=>!y))<=C->¬L.getD last v=l ->
   (∀e x,aQ[e]?=f x->L.getD e v=l->∀g∈x.after,eS g=l->L.getD g.on v=l) ->
   ∀d i,l' E k d (gG I F idx L) i->i.defers=[]->bc k d->df k cG k d ->
   ∀b,cf q W (G (y.ab i (.inRegion aQ (Region.linearise.go .any aQ C b L [])::D)) ah) d:=by
 intro C;induction C with
 |zero=>
  intro L aj ab an aE d i r S u O b;exfalso;have T:L[last]'(by have:=t.ef;omega)∈L.toList:=by simp
  have az:=t.ef;cases A:L[last]'w with
  |true=>exact an (by simp[hu,iF (by omega:last<L.size),A])
  |false=>
   have:L[last]'w∈L.toList.filter (λy=>!y):=jd.2 ⟨T,by grind⟩;grind
 |succ C al=>
  intro L aj ab an aE d i r S u O b;rw[vt];cases aw:(aN .any aQ L)[b % c (aN .any aQ L)]? with
  |none=>
   exfalso;have ag:aN .any aQ L=[]:=by
    cases ag:aN .any aQ L with
    |nil=>rfl
    |cons aO aL=>
     grind[Nat.mod_lt]
   have ax:∀e,e<aQ.size->L.getD e v=l:=by
    intro e;induction e using Nat.strongRecOn with
    |_ e au=>
     intro B;cases A:L.getD e v with
     |true=>rfl
     |false=>
      have T:e∈aN .any aQ L:=pm.2 ⟨aQ[e],iF B,by
       grind,λg X V=>by
       have:=t.cO e _ (iF B) g X V
       grind⟩
      grind
   exact an (ax last t.ef)
  |some e=>
   have B:=b_ aw;obtain⟨x,o,ar,af⟩:=pm.1 B;have az:e<aQ.size:=(jb.1 o).1;have H:¬L.getD e v=l:=M;by_cases ao:e=last
   .subst ao;have R:Region.linearise.go .any aQ C (b / c (aN .any aQ L)) (L.setIfInBounds e l) []=[]:=by
     refine Ku λm ae=>?_;have aq:(L.setIfInBounds e l).getD m v=l:=by
      rw[my w];by_cases g:m=e
      .grind
      obtain⟨Z,X,V,rfl⟩:=t.hk x o m ae g;grind
     grind
    simp[R];refine aa d i r.size (λb=>?_) S u O;have:=r.aL b;unfold gG at this;cases h:idx b with
    |none=>grind
    |some m=>
     simp only[h]at this⊢;obtain⟨vC,bz,_⟩:=t.dS _ _ h;by_cases g:m=e
     .rw[bo g];trivial
     rw[bj g];obtain⟨Z,X,V,rfl⟩:=t.hk x o m (jb.1 bz).1 g;grind
   have aI:(L.setIfInBounds e l).size=aQ.size:=M;have aH:c ((L.setIfInBounds e l).toList.filter (λy=>!y))<=C:=by have z:L.toList[e]?=f v:=QZ;grind[xL]
   have av:∀m U,aQ[m]?=f U->(L.setIfInBounds e l).getD m v=l->∀g∈U.after,eS g=l->(L.setIfInBounds e l).getD g.on v=l:=wB;have aJ:¬(L.setIfInBounds e l).getD last v=l:=wB
   have aC:b0 E k d (s e) i:=r.ff λb k d Q N=>t.eT e x o ao b k d Q (by
    unfold gG at N;cases h:idx b with
    |none=>grind
    |some m=>
     simp only[h]at N⊢;split
     .grind
     .trivial)
   have aK:∀p Q,df k d k p->bx k p Q (F e)->l' E k p (gG I F idx (L.setIfInBounds e l)) (i.put x.dst Q):=by
    intro p Q K N;cases S:x.dst with
    |none=>
     refine⟨r.size,r.defers.imp λ_ z=>z.mono K.ext,λb=>?_⟩;have j:=(r.aL b).mono K.ext u.len;simp only[Act.put];unfold gG at j⊢;cases h:idx b with
     |none=>grind
     |some m=>
      exact Pd
    |some Y=>
     obtain⟨aF,aA⟩:=t.eU e x Y o S;refine⟨by simp[Act.put,r.size],r.defers.imp λ_ z=>z.mono K.ext,λb=>?_⟩;simp only[Act.put];by_cases g:Y=b
     .subst g;have aM:Y<i.tmps.size:=by rw[r.size];exact aA
      simp only[hu,uB aM,h0];unfold gG;simp only[aF];rw[bo ((my w).2 (.inl a))];exact N
     have j:=(r.aL b).mono K.ext u.len;simp only[hu]at j⊢;rw[sw g];unfold gG at j⊢;cases h:idx b with
     |none=>grind
     |some m=>
      exact Pd
   have:=t.Q e x o ao d i aC u y D ah W e (Region.linearise.go .any aQ C (b / c (aN .any aQ L)) (L.setIfInBounds e l) []) A M;simp only[wP]at this;exact this λQ p N aD K=>al _ aI aH aJ av p _ (aK _ _ K N) (by cases x.dst<;>exact S) aD (O.trans K) _
theorem un.region(B:un q E aQ I k F s idx last)(N:P.follows Departure.mixedOrders=l){A:ai->a6->Prop}{p:aG}{i}(u:p.kind≠.early){cG}{wO}{id}(t:b0 E k cG I wO)(M:wO.defers=[])(y:bc k cG)(O:∀o j,j.tmps.size=E->(∀d,bx k o (j.tmps.getD d J) (match idx d with|some w=>if w=last then .any else F w|none=>look I d))->j.defers=[]->bc k o->df k cG k o->cf q A (G (p.ab j (.inRegion aQ [last]::i)) ah) o):
  cf q A (G (p.ab wO (.code (.region id aQ l)::i)) ah) cG:=by
 refine .next a λb h=>?_;have h:=q.bH h;have g:=y.rely h;have C:=t.rely h y;have x:cN k b k {b with a:={b.a with drawn:=b.a.drawn+1}}:=cN.same rfl rfl rfl rfl;have z:bc k {b with a:={b.a with drawn:=b.a.drawn+1}}:=g.same rfl;have K:=h.aU.trans (x.tooV g);refine⟨_,{b with a:={b.a with drawn:=b.a.drawn+1}},#[],Eb,⟨⟨k,k,g,z,x⟩,.nil⟩,?_⟩;simp[Region.schedule,N,Bool.true_or,dv];refine B.eP u (cG:=cG) O aQ.size _ D D wt E' _ wO ?_ M z K _;have m:=C.mono (x.tooV g) g.len;refine⟨m.size,m.defers,λd=>?_⟩;unfold gG;cases Q:idx d with
 |none=>exact m.aL d
 |some w=>
  simp only;rw[bj]
  .exact m.aL d
  exact wt
end
def dX(q:af P)(x:Nat)(a:m an)(t:an)(w:bJ)(j:m aq)(z:ι->y)(e:ι->m aq):Prop:=
 ∀i k,b0 x j i w k->bc j i->∀(o:aG) s g (p:ai->a6->Prop) r b,o.kind≠.early->a.toArray[r]?=f t ->
  (∀h u d,bx (e h) d u (z h)->bc (e h) d->df j i (e h) d->cf q p (G (o.ab (k.put t.dst u) (.inRegion a.toArray b::s)) g) d)->cf q p (G (o.ab k (.inRegion a.toArray (r::b)::s)) g) i
def pI:m an->Nat->(Nat->y)->m (Option Nat×y)
 |[],_,_=>[]
 |d::e,a,b=>(d.dst,b a)::pI e (a+1) b
def ES{g:Nat->y}:∀{e:m an}{b a:Nat},(pI e b g)[a]?=(e[a]?).map λd=>(d.dst,g (b+a))
 |[],b,a=>by simp[pI]
 |d::h,b,0=>by simp[pI]
 |d::h,b,a+1=>by simp[pI,nZ];rw[ES,show b+1+a=b+(a+1) by omega]
def ej(a:m an)(b:bJ)(g:Nat->y)(d:Nat):bJ:=fU (λe=>ek e (c9 (a.getD d ev).after.toList)) 0 (pI a 0 g) (mL a b)
def oc(a:m an)(b:bJ)(d:Nat->y):bJ:=fU (λ_=>l) 0 (pI a 0 d) (mL a b)
def o7(a:Nat):m an->Bool
 |[]=>l
 |b::d=>match fj a b.dst with|true=>o7 a d|false=>v
def Iy{E}:∀{e:m an},o7 E e=l->∀(a:Nat)b,e[a]?=f b->fj E b.dst=l
 |[],_,a,b,d=>by grind
 |i::j,d,a,b,g=>by
  simp[o7]at d;split at d
  .rename_i h;cases a with
   |zero=>grind
   |succ a=>exact Iy d a b M
  grind
def o2:m an->Nat->Bool
 |[],_=>l
 |b::d,a=>match s' a (c9 b.after.toList)with|true=>o2 d (a+1)|false=>v
def GB:∀{i:m an}{h:Nat},o2 i h=l->∀(a:Nat)d,i[a]?=f d->∀g∈c9 d.after.toList,g<h+a
 |[],_,_,a,d,e=>by grind
 |o::p,h,e,a,d,b=>by
  simp[o2]at e;split at e
  .rename_i j;cases a with
   |zero=>simp at b;subst b;exact Dl j
   |succ a=>intro g k;have:=GB e a d M g k;omega
  grind
def xa(pre:Nat->Bool):m Nat->Bool
 |[]=>v
 |a::b=>match pre a with|true=>xa pre b|false=>l
theorem Gs{pre:Nat->Bool}:∀{d:m Nat},xa pre d=l->∃b∈d,pre b=v
 |[],a=>by cases a
 |b::g,a=>by
  simp[xa]at a;split at a
  .obtain⟨s,e,i⟩:=Gs a;grind
  grind
def n7(pre:Nat->Bool)(b:Nat):m an->Nat->Bool
 |[],_=>l
 |e::d,a=>match pre a with
  |true=>n7 pre b d (a+1)
  |false=>match ad a b with
   |true=>n7 pre b d (a+1)
   |false=>match xa pre (c9 e.after.toList)with|true=>n7 pre b d (a+1)|false=>v
theorem HS{pre:Nat->Bool}{A}:∀{h:m an}{d:Nat},n7 pre A h d=l->∀(a:Nat)e,h[a]?=f e->pre (d+a)=v->d+a≠A->∃o∈c9 e.after.toList,pre o=v
 |[],_,_,a,e,g=>by grind
 |q::p,d,g,a,e,b=>by
  intro i j;simp[n7]at g;cases a with
  |zero=>
   simp at b;subst b;simp[j6]at i j;grind[Nat.eq_of_beq_eq_true,Gs]
  |succ a=>
   have k:n7 pre A p (d+1)=l:=M;exact HS k a e M M w
section
variable {q:af P}{idx:Nat->Option Nat}
def YW{h:Nat->y}{j}(q:∀a k b g,bx k b g (match idx a with|some i=>(if ∃d∈r.after,eS d=l/\d.on=i then h i else .any)|none=>look I a)->bx k b g (look (ej aQ.toList I h e) a))(p:l' E k b (gG I h idx L) j)(s:∀d∈r.after,eS d=l->L.getD d.on v=l):b0 E k b (ej aQ.toList I h e) j:=p.ff λa k b g m=>q a k b g (by
 unfold gG at m;cases o:idx a with
 |none=>grind
 |some i=>
  simp only[o]at m⊢;split
  .grind
  .trivial)
def aec{s p:Nat->y}{d}{o}(t:∀g,r.dst=f g->idx g=f e/\g<E)(N:∀g m,idx g=f m->∃r,aQ[m]?=f r/\r.dst=f g)(A:aQ[e]?=f r)(M:e<L.size)(O:∀m,L.getD m v=l->p m=s m)(w:c b.t=c k)(i:df k b d aA)(j:l' E k b (gG I s idx L) o)(K:bx d aA aa (p e)):l' E d aA (gG I p idx (L.setIfInBounds e l)) (o.put r.dst aa):=by
 have old:∀h,idx h≠f e->bx d aA (o.tmps.getD h J) (gG I p idx (L.setIfInBounds e l) h):=by intro h Q;have x:=(j.aL h).mono i.ext w;unfold gG at x⊢;grind[my]
 cases F:r.dst with
 |none=>
  refine⟨j.size,j.defers.imp λ_ q=>q.mono i.ext,λh=>?_⟩;refine old h λz=>?_;grind
 |some g=>
  obtain⟨B,D⟩:=t g F;refine⟨by simp[Act.put,j.size],j.defers.imp λ_ q=>q.mono i.ext,λh=>?_⟩;simp[Act.put];by_cases u:g=h
  .subst u;have C:g<o.tmps.size:=by rw[j.size];exact D
   simp[hu,uB C,h0];unfold gG;simp only[B];rw[bo ((my M).2 (.inl a))];exact K
  have:=old h (λz=>by grind);simp[hu]at this⊢;grind
def Sh{Sz:∀a e,aQ[a]?=f e->∀b∈e.after,eS b=l->b.on<a}(o:L.size=aQ.size)(k:aN .any aQ L=[]):∀a,a<aQ.size->L.getD a v=l:=by
 intro a;induction a using Nat.strongRecOn with
 |_ a g=>
  intro d;cases m:L.getD a v with
  |true=>rfl
  |false=>
   have i:a∈aN .any aQ L:=pm.2 ⟨aQ[a],iF d,by grind,λb j h=>by grind⟩;grind
def aae{o}(a:(aN .any aQ L)[o % c (aN .any aQ L)]?=n):aN .any aQ L=[]:=by
 cases d:aN .any aQ L with
 |nil=>rfl
 |cons e b=>
  grind[Nat.mod_lt]
theorem Sj(h:L.size=aQ.size)(i:c (L.toList.filter (λb=>!b))<=0):∀a,a<aQ.size->L.getD a v=l:=by
 intro a g;have d:L[a]'w∈L.toList:=D;cases e:L[a]'w with
 |true=>simp[hu,iF (by omega:a<L.size),e]
 |false=>
  have:L[a]'w∈L.toList.filter (λb=>!b):=jd.2 ⟨d,by grind⟩;grind
end
def dR(b:Nat)(y:Nat->Bool):Nat->Bool:=λa=>match ad a b with|true=>l|false=>y a
section
variable {q:af P}{C:Type}{F:C->Nat->y}{idx:Nat->Option Nat}{br:C->(Nat->Bool)->m aq}{gX:C->(Nat->Bool)->Prop}{s:Nat}
def kf(L:Array Bool):Nat->Bool:=λa=>L.getD a v
def Ts(a:e<L.size):kf (L.setIfInBounds e l)=dR e (kf L):=by funext u;have b:=my (L:=L) (e:=e) (u:=u) a;simp[kf,dR];grind[Nat.eq_of_beq_eq_true,Nat.beq_refl]
def S6{s}(i:L.size=j)(h:∀e,s<=e->¬L.getD e v=l):j-s<=c (L.toList.filter (λa=>!a)):=by
 have k:(L.toList.drop s).filter (λa=>!a)=L.toList.drop s:=by rw[sh];intro a g;obtain⟨d,b,rfl⟩:=g4 g;have:=h (s+d) w;simp[sj,m9]at b;simp[hu,iF (by omega:s+d<L.size),h0]at this;grind
 grind[List.drop_sublist]
theorem nT.iG(all)(s):nT all (List.range' s (c all-s)) (all.drop s):=by
 have key:∀a j,(∀u r,a[u]?=f r->all[j+u]?=f r)->nT all (List.range' j (c a)) a:=by
  intro a;induction a with
  |nil=>intro j _;trivial
  |cons r b x=>
   exact Qw
 have:=key (all.drop s) s λu r t=>by grind
 grind
structure uh{P:aE}(q:af P)(E:Nat)(aQ:Array an)(I:bJ){C:Type}(F:C->Nat->y)(br:C->(Nat->Bool)->m aq)(gX:C->(Nat->Bool)->Prop)(idx:Nat->Option Nat)(s:Nat):Prop where
 cO:∀e r,aQ[e]?=f r->∀aw∈r.after,eS aw=l->aw.on<e
 eU:∀e r O,aQ[e]?=f r->r.dst=f O->idx O=f e/\O<E
 dS:∀O e,idx O=f e->∃r,aQ[e]?=f r/\r.dst=f O
 Q:∀κ (y:Nat->Bool) e r,gX κ y->aQ[e]?=f r->e<s->y e=v->(∀aw∈r.after,eS aw=l->y aw.on=l)->(∀u K1,aQ[u]?=f K1->y u=l->∀aw∈K1.after,eS aw=l->y aw.on=l)->dX q E aQ.toList r (ej aQ.toList I (F κ) e) (br κ y) (λbl:{RL:C // (∀u,y u=l->F RL u=F κ u)/\gX RL (dR e y)}=>F bl.1 e) (λbl=>br bl.1 (dR e y))
 eT:∀(F:Nat->y) e r,aQ[e]?=f r->∀o k b aa,bx k b aa (match idx o with|some u=>(if ∃aw∈r.after,eS aw=l/\aw.on=u then F u else .any)|none=>look I o)->bx k b aa (look (ej aQ.toList I F e) o)
 fin:∀(F:Nat->y) o k b aa,bx k b aa (match idx o with|some u=>F u|none=>look I o)->bx k b aa (look (oc aQ.toList I F) o)
 gU:∀e r,aQ[e]?=f r->s<=e->∀L:Array Bool,(∀e r,aQ[e]?=f r->L.getD e v=l->∀aw∈r.after,eS aw=l->L.getD aw.on v=l)->(∀aw∈r.after,eS aw=l->L.getD aw.on v=l)->∀h,h<e->L.getD h v=l
 gf:s<=aQ.size
 hT:∀κ (y:Nat->Bool),gX κ y->(∀e,e<s->y e=l)->∀e,s<=e->e<aQ.size->F κ e=.any
def JR(b:L.size=j)(a:e<j):L.getD e l=v↔¬L.getD e v=l:=M
theorem uh.seq(r:uh q E aQ I F br gX idx s):∀k a(L:Array Bool)y,L.size=aQ.size->s<=a->a<=aQ.size->aQ.size-a<=k->(∀o,o<aQ.size->(L.getD o v=l↔o<a)) ->
  Region.linearise.go .any aQ k y L []=List.range' a (aQ.size-a):=by
 intro k;induction k with
 |zero=>
  grind[Dh]
 |succ k V=>
  intro a L y B W X Y A;by_cases R:a=aQ.size
  .grind [Ku]
  .rw[vt];have u:a<aQ.size:=w;have S:∀b j,aQ[b]?=f j->L.getD b v=l->∀i∈j.after,eS i=l->L.getD i.on v=l:=λb j d h i x g=>by have m:=(jb.1 d).1;have e:=(A b m).1 h;have C:=r.cO b j d i x g;grind
   have T:∀b,b∈aN .any aQ L->b=a:=λb h=>by
    obtain⟨j,d,t,U⟩:=pm.1 h;have m:=(jb.1 d).1;have K:¬b<a:=λO=>(JR B m).1 t ((A b m).2 O);rcases dT a b with e|e
    .have:=r.gU b j d w L S U a e;grind
    omega
   have Q:a∈aN .any aQ L:=pm.2 ⟨aQ[a],iF u,(JR B u).2 (λD=>by grind),λi x g=>by
    have:=r.cO a _ (iF u) i x g
    grind⟩
   have N:0<c (aN .any aQ L):=List.length_pos_of_mem Q;have z:=pY y N;rw[bH z];have p:=T _ (wY z);simp[p];rw[V (a+1) _ _ M w w w (λo J=>by grind[my])];rw[show aQ.size-a=(aQ.size-(a+1))+1 by omega,List.range'_succ]
def uh.eP(m:uh q E aQ I F br gX idx s){aM:ai->a6->Prop}{t:aG}{x}(Y:t.kind≠.early){dL}{cG}(X:∀b y d h,gX b y->(∀e,e<s->y e=l)->b0 E (br b y) d (oc aQ.toList I (F b)) h->bc (br b y) d->df dL cG (br b y) d->cf q aM (G (t.ab h (.inRegion aQ (List.range' s (aQ.size-s))::x)) ah) d):
  ∀r b L,gX b (kf L)->L.size=aQ.size->c (L.toList.filter (λt=>!t))<=r->(∀o,s<=o->¬L.getD o v=l) ->
   (∀e z,aQ[e]?=f z->L.getD e v=l->∀D∈z.after,eS D=l->L.getD D.on v=l) ->
   ∀d h,l' E (br b (kf L)) d (gG I (F b) idx L) h->bc (br b (kf L)) d->df dL cG (br b (kf L)) d ->
   ∀k,cf q aM (G (t.ab h (.inRegion aQ (Region.linearise.go .any aQ r k L [])::x)) ah) d:=by
 have fin:∀b L d h r k,gX b (kf L)->L.size=aQ.size->c (L.toList.filter (λt=>!t))<=r->(∀o,s<=o->¬L.getD o v=l)->(∀e,e<s->L.getD e v=l)->l' E (br b (kf L)) d (gG I (F b) idx L) h->bc (br b (kf L)) d->df dL cG (br b (kf L)) d->cf q aM (G (t.ab h (.inRegion aQ (Region.linearise.go .any aQ r k L [])::x)) ah) d:=by
  intro b L d h r k A N Q O aj C i p;have W:=m.gf;rw[m.seq r s L k N (bC _) W (by have aD:=S6 (j:=aQ.size) (s:=s) N O;omega) (λo J=>⟨λal=>by grind,λal=>aj o al⟩)]
  exact X b _ d h A aj (C.ff λk ax d ar H=>m.fin (F b) k ax d ar (by
   unfold gG at H;cases u:idx k with
   |none=>grind
   |some o=>
    simp only[u]at H⊢;obtain⟨z,g,_⟩:=m.dS _ _ u;rcases dT o s with B|B
    .grind
    .rw[m.hT b _ A aj o B (jb.1 g).1];trivial)) i p
 intro r;induction r with
 |zero=>
  intro b L A N Q O V d h C i p k;have W:=m.gf;grind[Sj]
 |succ r ab=>
  intro b L A N Q O V d h C i p k;have W:=m.gf;cases ae:(aN .any aQ L)[k % c (aN .any aQ L)]? with
  |none=>exact fin b L d h _ k A N Q O (λe u=>Sh (Sz:=m.cO) N (aae ae) e w) C i p
  |some e=>
   have u:=b_ ae;obtain⟨z,g,ao,ag⟩:=pm.1 u;have aq:e<aQ.size:=(jb.1 g).1;rcases dT e s with R|R
   rotate_left
   .exact fin b L d h _ k A N Q O (λo J=>m.gU e z g R L V ag o w) C i p
   rw[vt,ae];have av:¬L.getD e v=l:=M;have aF:c ((L.setIfInBounds e l).toList.filter (λt=>!t))<=r:=by
    have B:L.toList[e]?=f v:=by rw[Gf,iF (by omega:e<L.size)];simpa[hu,iF (by omega:e<L.size)]using av
    grind[xL]
   have au:∀S K,aQ[S]?=f K->(L.setIfInBounds e l).getD S v=l->∀D∈K.after,eS D=l->(L.setIfInBounds e l).getD D.on v=l:=wB;have a:b0 E (br b (kf L)) d (ej aQ.toList I (F b) e) h:=YW (m.eT (F b) e z g) C ag;have:=m.Q b (kf L) e z A g R (by unfold kf;grind) ag V d h a i t x ah aM e (Region.linearise.go .any aQ r (k / c (aN .any aQ L)) (L.setIfInBounds e l) []) Y M;simp only[wP]at this;refine this λaE ar af H U T=>?_;obtain⟨aA,az,an⟩:=aE;have aw:=Ts (L:=L) (e:=e) w;simp only at H U T;rw[<-aw]at H U T an;exact ab aA _ an M aF (λo J=>by grind[my]) au af _ (aec (λaC Z=>m.eU e z aC g Z) m.dS g w (λS aa=>az S aa) i.len T C H) U (p.trans T) _
def b3.reg(aD:P.follows Departure.mixedOrders=l)(x:Nat)(t:C->Nat->y)(O:C->(Nat->Bool)->m aq)(g:C->(Nat->Bool)->Prop)(an:C)(aS:g an λ_=>v)(aA:O an (λ_=>v)=k)(aj:lk all=l)(a4:o2 all 0=l)(a5:o7 E all=l)(a8:x<=c all)(Q:∀e,x<=e->e<c all->∀L:Nat->Prop,(∀e,e<c all->L e->∀i∈c9 (all.getD e ev).after.toList,L i)->(∀i∈c9 (all.getD e ev).after.toList,L i)->∀K,K<e->L K)(B:∀j (y:Nat->Bool),g j y->(∀e,e<x->y e=l)->∀e,x<=e->e<c all->t j e=.any)(ae:∀j (y:Nat->Bool) e r,g j y->all[e]?=f r->e<x->y e=v->(∀i∈c9 r.after.toList,y i=l)->(∀h ab,all[h]?=f ab->y h=l->∀i∈c9 ab.after.toList,y i=l)->dX q E all r (ej all I (t j) e) (O j y) (λaJ:{aO:C // (∀h,y h=l->t aO h=t j h)/\g aO (dR e y)}=>t aJ.1 e) (λaJ=>O aJ.1 (dR e y))){aM:fw}(aC:∀j y,g j y->(∀e,e<x->y e=l)->ff q E all (all.drop x) (aM .normal) (oc all I (t j)) (O j y))(id:Nat):
  b3 q E (.region id all.toArray l) aM I k:=by
 have S:∀e:Nat,all.toArray[e]?=all[e]?:=λe=>by simp
 let idx:Nat->Option Nat:=λo=>(aB (c all)).find? (λe=>decide ((all.getD e ev).dst=f o));have ba:∀o h,idx o=f h->∃r,all[h]?=f r/\r.dst=f o:=M;have a0:∀e r F,all[e]?=f r->r.dst=f F->idx F=f e:=by
  intro e r F cl u;have bp:e<c all:=(cO.1 cl).1;cases aG:idx F with
  |none=>
   have:=us.1 aG e M;grind
  |some h=>
   grind[DB]
 have bb:∀o,jM o all=l↔∃h,idx o=f h:=by grind[C0,vg]
 have G:∀e r,all[e]?=f r->all.getD e ev=r:=λe r bd=>by grind
 have u:uh q E all.toArray I t O g idx x:=by
  refine⟨?_,?_,?_,?_,?_,?_,λe r cl V L aT aV K aE=>?_,by grind,λj y au ar e p s=>B j y au ar e p M⟩
  .intro e r cl i ac z;rw[S]at cl;have:=GB a4 e r cl i.on (l1.2 ⟨i,by grind,z,rfl⟩);omega
  .intro e r F cl u;rw[S]at cl;exact⟨a0 e r F cl u,k9 (Iy a5 e r cl) F u⟩
  .grind
  .intro j y e r au cl Z T aF aW;rw[S]at cl;exact ae j y e r au cl Z T (λi ac=>by grind[l1]) λh r J aR i ac=>by grind[l1]
  .intro t e r cl o k b aa ai;rw[S]at cl;show bx k b aa (look (ej all I t e) o);unfold ej;rw[G e r cl];rcases vw (A:=λh=>ek h (c9 r.after.toList)) (I:=mL all I) (o:=o) (d:=pI all 0 t) (e:=0)with⟨h,a',p,s,w⟩|w
   .rw[w];rw[ES]at p;cases J:all[h]? with
    |none=>grind
    |some aI=>
     simp[J,lE,e3,lF,cX]at p;rw[a0 h aI o J p.1]at ai;simp only at ai;rw[bo]at ai
     .grind
     simp[cX]at s;obtain⟨i,aP,aQ,x⟩:=l1.1 (qB s);grind
   rw[w,s_];split
   .trivial
   grind
  .intro t o k b aa ai;show bx k b aa (look (oc all I t) o);unfold oc;rcases vw (A:=λ_=>l) (I:=mL all I) (o:=o) (d:=pI all 0 t) (e:=0)with⟨h,a',p,s,w⟩|w
   .rw[w];rw[ES]at p;grind
   rw[w,s_];split
   .trivial
   grind
  rw[S]at cl;refine Q e V (cO.1 cl).1 (λK=>L.getD K v=l) (λa_ aY a9 i ac=>?_) (λi ac=>?_) K aE
  .grind [l1]
  grind[l1]
 intro b aP a6 X aQ aH ax ao z U;refine .next a λR ah=>?_;have ah:=q.bH ah;have ag:=X.rely ah;have H:=a6.rely ah X;have N:cN k R k {R with a:={R.a with drawn:=R.a.drawn+1}}:=cN.same rfl rfl rfl rfl;have Y:bc k {R with a:={R.a with drawn:=R.a.drawn+1}}:=ag.same rfl;have a1:=ah.aU.trans (N.tooV ag);refine⟨_,{R with a:={R.a with drawn:=R.a.drawn+1}},#[],Eb,⟨⟨k,k,ag,Y,N⟩,.nil⟩,?_⟩;simp only[Region.schedule,aD,Bool.true_or,dv];have W:kf (Array.replicate all.toArray.size v)=λ_=>v:=by funext e;simp[kf,hu,w6];split<;>simp
 refine u.eP z (dL:=k) (cG:=b) (λj y aL av au ar az s af=>?_) all.toArray.size an _ M D D ?_ ?_ _ aP ?_ M M _
 .refine aC j y au ar aL av az s aQ aH ax ao _ z ?_ λa3 a2 aN aw aK f3 w a7=>U .normal _ _ aN aw aK f3 w (af.trans a7);grind[nT.iG]
 .intro e _ bp;simp[hu,w6]at bp;split at bp<;>simp at bp
 .exact E'
 rw[W,aA];have al:=H.mono (N.tooV ag) ag.len;refine⟨al.size,al.defers,λo=>?_⟩;unfold gG;cases aZ:idx o with
 |none=>exact al.aL o
 |some h=>
  simp only;rw[bj]
  .exact al.aL o
  exact wt
def dX.to{p:Type}{s:ι->y}{b:ι->m aq}{t:p->y}{o:p->m aq}(A:dX q E all r I k s b)(D:∀d,∃e,s d=t e/\b d=o e):dX q E all r I k t o:=by intro O w z i x e g u C a h j B;refine A O w z i x e g u C a h j λd S Q K M N=>?_;obtain⟨R,F,J⟩:=D d;grind
def aZ.tocH{d:Type}{A}{B:d->y}{z:d->m aq}(K:aZ q E all r I k A ap)(p:d)(e:A=B p)(g:ap=z p):dX q E all r I k B z:=by subst e g;exactλN D J j F s b C M a i o h=>K N D J j F s b C M a i o λO x t u w=>h p O x t u w
end
section
variable {q:af P}
theorem dX.a0{C:ι->y}{d:ι->m aq}(Q:r.guard=n)(M:∀g h,bc k g->(∀D,bx k g (h D) (bD I D))->∃(e:ι)(b:a6)(j:Y),(ab h r).run P g.a=.ok (.value j) b.a/\bx (d e) b j (C e)/\bc (d e) b/\cN k g (d e) b/\du g ((ab h r).events P g.a #[])):dX q E all r I k C d:=by intro g F K i S U J R T z w x u;refine rk w x (i6 Q) λO p=>?_;have o:=i.rely p;obtain⟨e,b,j,s,t,B,A,N⟩:=M O F.eval o (eF (K.rely p i));exact⟨_,b,j,s,.inl a,⟨⟨k,d e,o,B,A⟩,N⟩,u e j b t B (p.aU.trans (A.tooV o))⟩
def dX.de{j}(t:aZ q E all r I k j ap):dX q E all r I k (λ_:Unit=>j) (λ_=>ap):=
 λx o s g p w b m u a e h d=>t x o s g p w b m u a e h λy i=>d () y i
def aZ.aK{a}(d:a1 P r (bD I) k a ap)(b:r.guard=n):aZ q E all r I k a ap:=.a0 (λ_ _ _ _=>i6 b) d
def aZ.eval{d}(aY:b2 P ac)(a:a_ q CT)(e:iy ac CT bh all I k r=f (d,n,cn))(b:U cn):aZ q E all r I k d k:=ee aY a e b
def aZ.w{F}(aY:b2 P ac:=by exact bb)(lP:a_ q CT:=by first|assumption|exact a_.nil)(t:iy ac CT [] all I k r=f (F,n,[]):=by rfl):aZ q E all r I k F k:=ee aY lP t B
def q2(i:af P)(h:Nat)(a:m an)(g:bJ)(d:m aq)(e:Nat->y)(pre:Nat->Bool):m an->Nat->Prop
 |[],_=>True
 |j::k,b=>(match pre b with|true=>aZ i h a j (ej a g e b) d (e b) d|false=>True)/\q2 i h a g d e pre k (b+1)
def q3(i:af P)(h:Nat)(a:m an)(g:bJ)(d:m aq)(e:Nat->y)(j:Nat):m an->Nat->Prop
 |[],_=>True
 |k::o,b=>(match ad b j with|true=>True|false=>aZ i h a k (ej a g e b) d (e b) d)/\q3 i h a g d e j o (b+1)
theorem q2.get{h:Nat->y}{pre:Nat->Bool}:∀{i:m an}{d:Nat},q2 q E all I k h pre i d->∀(b:Nat)e,i[b]?=f e->pre (d+b)=l->aZ q E all e (ej all I h (d+b)) k (h (d+b)) k
 |[],_,_,b,e,g=>by grind
 |o::p,d,g,0,e,a=>λx=>by simp at a;subst a;have j:=g.1;grind
 |o::p,d,g,b+1,e,a=>λx=>by have:=q2.get g.2 b e M M;grind
theorem q3.get{h:Nat->y}{A}:∀{i:m an}{d:Nat},q3 q E all I k h A i d->∀(b:Nat)e,i[b]?=f e->d+b≠A->aZ q E all e (ej all I h (d+b)) k (h (d+b)) k
 |[],_,_,b,e,g=>by grind
 |o::p,d,g,0,e,a=>λx=>by simp at a;subst a;have j:=g.1;simp only[j6]at x;grind[Nat.eq_of_beq_eq_true]
 |o::p,d,g,b+1,e,a=>λx=>by have:=q3.get g.2 b e M w;grind
def kN(pre:Nat->Bool)(d:Nat->y)(e:ι->Nat->y)(b:ι)(a:Nat):y:=match pre a with|true=>d a|false=>e b a
def Dz{s}{pre:Nat->Bool}{o:Nat->y}{j:ι->Nat->y}{t:ι->m aq}{br:ι->(Nat->Bool)->m aq}(R:pre A=v)(T:n7 pre A all 0=l)(same:∀d b,pre b=l->j d b=o b)(C:∀b g,all[b]?=f g->pre b=l->aZ q E all g (ej all I o b) k (o b) k)(qS:∀d (y:Nat->Bool) b g,all[b]?=f g->b≠A->b<s->y b=v->(∀e w,all[e]?=f w->y e=l->∀u∈c9 w.after.toList,y u=l)->aZ q E all g (ej all I (j d) b) (br d y) (j d b) (br d (dR b y)))(B:∀g,all[A]?=f g->dX q E all g (ej all I o A) k (λd=>j d A) t)(Q:∀d (y:Nat->Bool),(∀b,y b=l->pre b=l)->t d=br d (dR A y)):
  ∀i (y:Nat->Bool) b g,(i.isSome=y A/\(i=n->∀b,y b=l->pre b=l))->all[b]?=f g->b<s->y b=v->(∀u∈c9 g.after.toList,y u=l)->(∀d w,all[d]?=f w->y d=l->∀u∈c9 w.after.toList,y u=l) ->
   dX q E all g (ej all I (i.elim o j) b) (i.elim k λd=>br d y) (λK:{D:Option ι // (∀d,y d=l->D.elim o j d=i.elim o j d)/\(D.isSome=dR b y A/\(D=n->∀e,dR b y e=l->pre e=l))}=>K.1.elim o j b) (λK=>K.1.elim k λd=>br d (dR b y)):=by
 intro i y b g N r z x J p;have U:∀{e},dR b y e=l->e=b∨y e=l:=λ{e} h=>by unfold dR at h;grind[Nat.eq_of_beq_eq_true]
 have S:∀{e},e≠b->dR b y e=y e:=λ{e} h=>by unfold dR;grind[Nat.eq_of_beq_eq_true]
 by_cases M:b=A
 .subst M;cases i with
  |some d=>grind
  |none=>
   refine(B g r).to λd=>⟨⟨f d,λe h=>same d e (N.2 a e h),?_,λF=>by cases F⟩,a,Q d y (N.2 a)⟩
   unfold dR;grind[Nat.beq_refl]
 cases i with
 |none=>
  have O:pre b=l:=by grind[HS]
  exact(C b g r O).tocH ⟨n,λ_ _=>rfl,by grind,λ_ e h=>by grind⟩ a a
 |some d=>exact(qS d y b g r M z x p).tocH ⟨f d,λ_ _=>rfl,by grind,λF=>by cases F⟩ rfl rfl
def yO{s}{pre:Nat->Bool}{b:Option ι}{y:Nat->Bool}(h:b.isSome=y A/\(b=n->∀a,y a=l->pre a=l))(e:A<s)(g:∀a,a<s->y a=l):∃d,b=f d:=by
 cases b with
 |some d=>grind
 |none=>grind
def g.dd(O:P.follows Departure.mixedOrders=l)(A)(pre:Nat->Bool)(r:Nat->y)(u:ι->Nat->y)(d:ι->m aq){id}(z:lk aQ.toList=l)(B:o2 aQ.toList 0=l)(C:o7 E aQ.toList=l)(p:Nat.blt A (c aQ.toList)=l)(D:pre A=v)(F:n7 pre A aQ.toList 0=l)(s:q2 q E aQ.toList I k r pre aQ.toList 0)(qS:∀b,q3 q E aQ.toList I (d b) (kN pre r u b) A aQ.toList 0)(ae3:dX q E aQ.toList (aQ.toList.getD A ev) (ej aQ.toList I r A) k (λb=>kN pre r u b A) d)(N:∀b,g q E bd au .normal (oc aQ.toList I (kN pre r u b)) (d b)):g q E bd (.code (.region id aQ l)::au) .normal I k:=by
 have p:=fs p;have:=b3.reg (q:=q) (E:=E) (I:=I) (k:=k) O (all:=aQ.toList) (c aQ.toList) (λh:Option ι=>h.elim r (kN pre r u)) (λh _=>h.elim k d) (λh y=>h.isSome=y A/\(h=n->∀e,y e=l->pre e=l)) n ⟨rfl,λ_ _ J=>by cases J⟩ a z B C (bC _)
  (λe i j=>absurd j (p3.2 i)) (λh y _ _ e i j=>absurd j (p3.2 i))
  (Dz (br:=λb _=>d b) D F (λb e w=>by simp only[kN,w]) (λe t o w=>by have:=s.get e t o M;grind) (λb y e t o x _ _ _=>by have:=(qS b).get e t o M;grind)
   (λt K=>by grind) (λ_ _ _=>rfl))
  (aM:=g q E bd au) (λh y Q R=>by obtain⟨b,rfl⟩:=yO Q p R;rw[uv];exact .nil (N b)) id
 exact wm
end
section
variable {q:af P}
def wa(a:m an)(b:Nat):m Nat->Bool
 |[]=>v
 |d::e=>match ek b (c9 (a.getD d ev).after.toList)with|true=>l|false=>wa a b e
def Nv{all}{e}:∀{h:m Nat},wa all e h=l->∃b,b∈h/\ek e (c9 (all.getD b ev).after.toList)=l
 |[],a=>by cases a
 |b::k,a=>by
  simp only[wa]at a;cases g:ek e (c9 (all.getD b ev).after.toList)with
  |true=>exact⟨b,by simp,g⟩
  |false=>
   simp only[g]at a;obtain⟨j,i,d⟩:=Nv a;exact⟨j,by simp[i],d⟩
def uE(a:m an):Nat->m Nat->Bool
 |0,_=>l
 |d+1,b=>match ek d b with
  |true=>uE a d b
  |false=>match wa a d b with|true=>uE a d b|false=>v
def AT{all}:∀{d:Nat}{e:m Nat},uE all d e=l->∀a,a<d->ek a e=l∨∃g,ek g e=l/\ek a (c9 (all.getD g ev).after.toList)=l
 |0,_,_,a,k=>by omega
 |d+1,e,b,a,k=>by
  simp[uE]at b;cases i:ek d e with
  |true=>
   simp[i]at b;by_cases j:a=d
   .subst j;exact .inl i
   exact AT b a w
  |false=>
   simp[i]at b;cases h:wa all d e with
   |false=>simp[h]at b
   |true=>
    simp[h]at b;by_cases j:a=d
    .subst j;obtain⟨g,k1,o⟩:=Nv h;exact .inr ⟨g,vy k1,o⟩
    exact AT b a w
def g.hz(G:P.follows Departure.mixedOrders=l)(A last)(pre:Nat->Bool)(r:Nat->y)(u:ι->Nat->y)(j h:ι->m aq){id}(ab:lk aQ.toList=l)(ae:o2 aQ.toList 0=l)(ah:o7 E aQ.toList=l)(z:Nat.blt A (c aQ.toList)=l)(al:pre A=v)(ar:n7 pre A aQ.toList 0=l)(aa:ad (last+1) (c aQ.toList)=l)(V:uE aQ.toList last (c9 (aQ.toList.getD last ev).after.toList)=l)(ai:pre last=v)(av:ad last A=v)(J:q2 q E aQ.toList I k r pre aQ.toList 0)(qS:∀a,q3 q E aQ.toList I (j a) (kN pre r u a) A aQ.toList.dropLast 0)(t:dX q E aQ.toList (aQ.toList.getD A ev) (ej aQ.toList I r A) k (λa=>kN pre r u a A) j)(F:∀a,aZ q E aQ.toList (aQ.toList.getD last ev) (ej aQ.toList I (kN pre r u a) last) (j a) (u a last) (h a))(p:∀a,g q E bd au .normal (oc aQ.toList I (kN pre r u a)) (h a)):g q E bd (.code (.region id aQ l)::au) .normal I k:=by
 have ag:=dn aa;have aw:last≠A:=by grind[Nat.beq_refl]
 have z:=fs z;have:=b3.reg (q:=q) (E:=E) (I:=I) (k:=k) G (all:=aQ.toList) (c aQ.toList) (λs:Option ι=>s.elim r (kN pre r u)) (λs y=>s.elim k λa=>match y last with|true=>h a|false=>j a) (λs y=>s.isSome=y A/\(s=n->∀e,y e=l->pre e=l)) n ⟨rfl,λ_ _ K=>by cases K⟩ rfl ab ae ah (bC _)
  (λe b i=>absurd i (p3.2 b)) (λs y _ _ e b i=>absurd i (p3.2 b))
  (Dz (br:=λa y=>match y last with|true=>h a|false=>j a) al ar (λa e R=>by simp[kN,R]) (λe B o R=>by have:=J.get e B o (by rwa [cX]);rwa [cX]at this)
   (λa y e B o Y X D x=>by
    by_cases an:e=last
    .subst an;have b:=F a;rw[show aQ.toList.getD e ev=B by simp[ak,o]]at b;simp[D,dR,sv];rw[show kN pre r u a e=u a e by simp[kN,ai]];exact b
    .have N:=(cO.1 o).1;have aj:aQ.toList.dropLast[e]?=f B:=M;have b:=(qS a).get e B aj (by rwa [cX]);rw[cX]at b;have O:ad last e=v:=tZ;have C:y last=v:=by
      cases C:y last with
      |false=>rfl
      |true=>
       have W:=bH (l:=aQ.toList) (by omega:last<c aQ.toList);have Z:∀p T,aQ.toList[p]?=f T->aQ.toList.getD p ev=T:=λp T K=>by simp[ak,K]
       rw[Z _ _ W]at V;rcases AT V e w with i|⟨p,i,U⟩
       .grind [qB]
       have af:=x last _ W C p (qB i);cases ao:aQ.toList[p]? with
       |none=>rw[show aQ.toList.getD p ev=ev by simp[ak,ao]]at U;simp[ev,c9,ek]at U
       |some ok=>
        grind[qB]
     simp[dR,O,C];exact b)
   (λB Q=>by rw[show aQ.toList.getD A ev=B by simp[ak,Q]]at t;exact t)
   (λa y S=>by
    have C:y last=v:=M
    simp[dR,av,C]))
  (aM:=g q E bd au) (λs y H S=>by
   obtain⟨a,rfl⟩:=yO H z S;rw[uv];simp[Option.elim,S last w]
   exact .nil (p a)) id
 exact wm
end
def ji(a:bA):Y:=.string ⟨a.toArray⟩
def SK{a}{b}(d:a.data.toList=b):Value.string a=ji b:=by subst d;simp[ji]
theorem Ep{a}(d:Rd bB aa (.T a)):aa=ji a/\dQ aa=l:=by
 cases d with
 |T b _=>exact⟨SK b,rfl⟩
section
variable {q:af P}{F:Nat->y}{br:(Nat->Bool)->m aq}
def ng:m an->m (m Bool)->m (m Bool)
 |[],x=>x
 |r::a',x=>d (lK x (c9 r.after.toList)) λs=>ng a' (x++[s])
 where d:m Bool->(m Bool->m (m Bool))->m (m Bool)
 |[],bl=>bl []
 |true::a',bl=>d a' λa'=>bl (l::a')
 |false::a',bl=>d a' λa'=>bl (v::a')
theorem yj:∀d(a:m Bool->m (m Bool)),ng.d d a=a d
 |[],a=>rfl
 |true::b,a=>by simp[ng.d];rw[yj b]
 |false::b,a=>by simp[ng.d];rw[yj b]
def HR{a:m an}{y:Nat->Bool}(q:∀(b:Nat)d,a[b]?=f d->y b=l->∀h∈c9 d.after.toList,y h=l):
  ∀k e,(∀j,k[j]?=a[c e+j]?)->(∀(b:Nat) g,e[b]?=f g->∀d,a[b]?=f d->(∀h∈c9 d.after.toList,y h=l)->∀i,gy g i=l->y i=l) ->
   ∀(b:Nat) (g:m Bool),(ng k e)[b]?=f g->∀d,a[b]?=f d->(∀h∈c9 d.after.toList,y h=l)->∀i,gy g i=l->y i=l
 |[],e,_,p=>p
 |d::k,e,o,p=>by
  simp[ng];rw[yj];refine HR q k _ (λj=>?_) ?_
  .have:=o (j+1);grind
  intro b g r;have s:=o 0;simp[mg,j6]at s;rcases Nat.lt_trichotomy b (c e) with u|rfl|t
  .grind
  .rw[hl (bC _)]at r;grind[BT]
  grind
def hp(a:m an)(d e:Nat):Bool:=match(ng a [])[d]? with|some b=>gy b e|none=>v
def GC{y:Nat->Bool}(j:∀(a:Nat)b,all[a]?=f b->y a=l->∀g∈c9 b.after.toList,y g=l):∀d b,all[d]?=f b->(∀g∈c9 b.after.toList,y g=l)->∀a,hp all d a=l->y a=l:=by
 intro d b h i a e;unfold hp at e;split at e
 .rename_i s k;exact HR j all [] D D d s k b h i a e
 grind
def Se{y:Nat->Bool}(k:∀(a:Nat)j,all[a]?=f j->y a=l->∀m∈c9 j.after.toList,y m=l)(p:y e=v):∀a,(a=e∨hp all a e=l)->y a=v:=by
 intro a i;rcases i with rfl|i
 .exact p
 cases o:y a with
 |false=>rfl
 |true=>
  have b:∃d,all[a]?=f d:=by
   cases b:all[a]? with
   |some d=>grind
   |none=>
    exfalso;have q:c (ng all [])=c all:=by
     have:∀g h,c (ng g h)=c h+c g:=by
      intro g;induction g with
      |nil=>intro h;simp[ng]
      |cons j g r=>intro h;simp[ng];grind[yj]
     grind
    unfold hp at i;grind
  obtain⟨d,b⟩:=b;have:=GC k a d b (k a d b o) e i;grind
def cc(j:af P)(i:Nat)(a:m an)(h:bJ)(g:Nat->y)(e:(Nat->Bool)->m aq)(b:Nat)(k:an):Prop:=
 ∀y:Nat->Bool,(∀d,hp a b d=l->y d=l)->(∀d,(d=b∨hp a d b=l)->y d=v)->aZ j i a k (ej a h g b) (e y) (g b) (e (dR b y))
def t_{P}(g:af P)(d:Nat)(a:m an)(b:bJ)(i:Nat->y)(e:(Nat->Bool)->m aq):m an->Nat->Prop
 |[],_=>True
 |j::k,h=>cc g d a b i e h j/\t_ g d a b i e k (h+1)
theorem t_.get{all}:∀{h:m an}{g:Nat},t_ q E all I F br h g->∀d b,h[d]?=f b->cc q E all I F br (g+d) b
 |[],_,_,d,b,e=>by grind
 |i::j,g,e,0,b,a=>by simp at a;subst a;exact e.1
 |i::j,g,e,d+1,b,a=>by have:=t_.get e.2 d b M;grind
def g.cc{id}(A:P.follows Departure.mixedOrders=l)(o:Nat->y)(j:(Nat->Bool)->m aq)(C:j (λ_=>v)=k)(t:lk aQ.toList=l)(u:o2 aQ.toList 0=l)(w:o7 E aQ.toList=l)(i:t_ q E aQ.toList I o j aQ.toList 0)(D:∀y,(∀e,e<c aQ.toList->y e=l)->g q E bd au .normal (oc aQ.toList I o) (j y)):g q E bd (.code (.region id aQ l)::au) .normal I k:=by
 have:=b3.reg (q:=q) (E:=E) (I:=I) (k:=k) A (all:=aQ.toList) (c aQ.toList) (λ_:Unit=>o) (λ_=>j) (λ_ _=>True) () B C t u w (bC _)
  (λe b d=>absurd d (p3.2 b)) (λr y _ _ e b d=>absurd d (p3.2 b))
  (λr y e s _ h _ z x p=>by have b:=i.get e s h;rw[cX]at b;exact(b y (GC p e s h x) (Se p z)).tocH ⟨(),λ_ _=>rfl,B⟩ a a)
  (aM:=g q E bd au) (λr y _ F=>by rw[uv];exact .nil (D y F)) id
 exact wm
end
section
variable {q:af P}{F:Nat->y}{i:Bool->Bool->Bool->m aq}{f1 f2 f3:Nat}
abbrev kJ(e:Bool->Bool->Bool->m aq)(a b d:Nat):(Nat->Bool)->m aq:=λy=>e (y a) (y b) (y d)
def pF{y:Nat->Bool}(a:ad u e=v):dR e y u=y u:=by simp only[dR,a]
def EM{y:Nat->Bool}:dR e y e=l:=z6
def cc.eK(a:ad f1 e=v)(b:ad f2 e=v)(j:ad f3 e=v)(k:∀d g h,aZ q E all r (ej all I F e) (i d g h) (F e) (i d g h)):cc q E all I F (kJ i f1 f2 f3) e r:=by intro y _ _;show aZ q E all r _ (i (y f1) (y f2) (y f3)) _ (i (dR e y f1) (dR e y f2) (dR e y f3));rw[pF a,pF b,pF j];exact k _ _ _
def cc.ck(aY:b2 P ac:=by exact bb)(lP:a_ q CT:=by first|assumption|exact a_.nil)(t:∀x s O,iy ac CT [] all (ej all I F e) (i x s O) r=f (F e,n,cn):=by intro x s O;cases x<;>cases s<;>cases O<;>rfl)(c5:ad f1 e=v:=by rfl)(dE:ad f2 e=v:=by rfl)(aw:ad f3 e=v:=by rfl)(cl:U cn:=by simp only[U,a9];omega):cc q E all I F (kJ i f1 f2 f3) e r:=.eK c5 dE aw λx s O=>aZ.eval aY lP (t x s O) cl
def cc.ax(aY:b2 P ac:=by exact bb)(lP:a_ q CT:=by first|assumption|exact a_.nil)(t:∀x s O,iy ac CT [] all (ej all I F e) (i x s O) r=f (F e,n,[]):=by intro x s O;cases x<;>cases s<;>cases O<;>rfl)(c5:ad f1 e=v:=by rfl)(dE:ad f2 e=v:=by rfl)(aw:ad f3 e=v:=by rfl):cc q E all I F (kJ i f1 f2 f3) e r:=.ck (cn:=[]) aY lP t c5 dE aw B
def cc.dM(d:ad f1 e=l)(p:ad f1 e=l)(b:ad f2 e=v)(j:ad f3 e=v)(o:∀g h,aZ q E all r (ej all I F e) (i v g h) (F e) (i l g h)):cc q E all I F (kJ i f1 f2 f3) e r:=by intro y _ m;have k:=dn d;subst k;show aZ q E all r _ (i (y f1) (y f2) (y f3)) _ (i (dR f1 y f1) (dR f1 y f2) (dR f1 y f3));rw[EM,pF b,pF j,m f1 (.inl a)];exact o _ _
def cc.dN(g:ad f2 e=l)(b:ad f1 e=v)(m:ad f3 e=v)(d:hp all f3 e=l)(p:ad f2 e=l)(o:∀h,aZ q E all r (ej all I F e) (i h v v) (F e) (i h l v)):cc q E all I F (kJ i f1 f2 f3) e r:=by intro y _ j;have k:=dn g;subst k;show aZ q E all r _ (i (y f1) (y f2) (y f3)) _ (i (dR f2 y f1) (dR f2 y f2) (dR f2 y f3));rw[EM,pF b,pF m,j f2 (.inl a),j f3 (.inr d)];exact o _
def cc.dO(j:ad f3 e=l)(b:ad f1 e=v)(d:ad f2 e=v)(h:hp all e f2=l)(p:ad f3 e=l)(o:∀k,aZ q E all r (ej all I F e) (i k l v) (F e) (i k l l)):cc q E all I F (kJ i f1 f2 f3) e r:=by intro y aY g;have m:=dn j;subst m;show aZ q E all r _ (i (y f1) (y f2) (y f3)) _ (i (dR f3 y f1) (dR f3 y f2) (dR f3 y f3));rw[EM,pF b,pF d,g f3 (.inl a),aY f2 h];exact o _
end
def xb(a:Nat->Bool):m Nat->Bool
 |[]=>v
 |b::d=>match a b with|true=>l|false=>xb a d
def Gt{e:Nat->Bool}:∀{d:m Nat},xb e d=l->∃b∈d,e b=l
 |[],a=>by cases a
 |b::j,a=>by
  simp[xb]at a;split at a
  .grind
  obtain⟨i,g,h⟩:=Gt a;grind
def vR(a:m an)(d:Nat):Nat->m Nat->Bool
 |0,b=>ek d b
 |g+1,b=>match ek d b with|true=>l|false=>xb (λe=>vR a d g (c9 (a.getD e ev).after.toList)) b
def y8{all}{h}{L:Nat->Prop}(i:∀j,j<c all->L j->∀a∈c9 (all.getD j ev).after.toList,L a):∀{k:Nat}{d:m Nat},vR all h k d=l->(∀a∈d,L a)->L h
 |0,d,b,e=>e h (qB b)
 |k+1,d,b,e=>by
  simp only[vR]at b;split at b
  .grind [qB]
  obtain⟨a,q,g⟩:=Gt b;rcases dT a (c all) with o|o
  .exact y8 i g (i a o (e a q))
  have:all.getD a ev=ev:=M;rw[this]at g;exact y8 i g (λr p=>by simp[ev,c9]at p)
def uH(a:m an)(b:Nat)(d:m Nat):Nat->Bool
 |0=>l
 |e+1=>match vR a e b d with|true=>uH a b d e|false=>v
def A6{all}{h}{d}:∀{b:Nat},uH all h d b=l->∀a,a<b->vR all a h d=l
 |0,_,a,g=>by omega
 |b+1,e,a,g=>by
  simp[uH]at e;split at e
  .rename_i i;by_cases j:a=b
   .grind
   exact A6 e a w
  grind
def uZ(a:m an)(d:Nat):Nat->Nat->Bool
 |_,0=>l
 |b,e+1=>match uH a d (c9 (a.getD b ev).after.toList) b with|true=>uZ a d (b+1) e|false=>v
def B6{all}{g}:∀{b e:Nat},uZ all g b e=l->∀a,b<=a->a<b+e->uH all g (c9 (all.getD a ev).after.toList) a=l
 |b,0,_,a,h,i=>by omega
 |b,e+1,d,a,h,i=>by
  simp[uZ]at d;split at d
  .rename_i s;by_cases j:a=b
   .grind
   exact B6 d a w w
  grind
section
variable {q:af P}
def tb(b:Nat)(pre:Nat->Bool)(e:Nat->y)(g:ι->Nat->y)(d:ι)(a:Nat):y:=match Nat.blt a b with|true=>kN pre e g d a|false=>.any
def g.eI(ae:P.follows Departure.mixedOrders=l)(A s U)(pre:Nat->Bool)(j:Nat->y)(z:ι->Nat->y)(e:ι->m aq){id}(S:lk aQ.toList=l)(T:o2 aQ.toList 0=l)(V:o7 E aQ.toList=l)(Z:pre A=v)(ab:n7 pre A aQ.toList 0=l)(R:Nat.blt s (c aQ.toList)=l)(h:Nat.blt A s=l)(Y:∀b,pre b=l->b<s)(o:uZ aQ.toList U s (c aQ.toList-s)=l)(x:q2 q E aQ.toList I k j pre aQ.toList 0)(qS:∀d,q3 q E aQ.toList I (e d) (tb s pre j z d) A (aQ.toList.take s) 0)(Q:dX q E aQ.toList (aQ.toList.getD A ev) (ej aQ.toList I j A) k (λd=>tb s pre j z d A) e)(F:∀d,g q E bd (.aj aQ.toList (aQ.toList.drop s)::au) .normal (oc aQ.toList I (tb s pre j z d)) (e d)):g q E bd (.code (.region id aQ l)::au) .normal I k:=by
 have R:=fs R;have h:=fs h;have:=b3.reg (q:=q) (E:=E) (I:=I) (k:=k) ae (all:=aQ.toList) s (λi:Option ι=>i.elim j (tb s pre j z)) (λi _=>i.elim k e) (λi y=>i.isSome=y A/\(i=n->∀b,y b=l->pre b=l)) n ⟨rfl,λ_ _ W=>by cases W⟩ a S T V w
  (λb r B L af p F D=>y8 af (A6 (B6 o b r w) F D) p)
  (λi y J K b r B=>by
   obtain⟨d,rfl⟩:=yO J h K;have:Nat.blt b s=v:=by
    cases C:Nat.blt b s with
    |false=>rfl
    |true=>have:=fs C;omega
   simp[Option.elim,tb,this])
  (Dz (br:=λd _=>e d) Z ab (λd b p=>by have:Nat.blt b s=l:=AB (Y b p);simp[tb,this,kN,p])
   (λb u t p=>by have:=x.get b u t M;grind)
   (λd y b u t O N _ _=>by
    have aa:(aQ.toList.take s)[b]?=f u:=M
    have:=(qS d).get b u aa M;grind)
   (λu X=>by grind) (λ_ _ _=>rfl))
  (aM:=g q E bd au) (λi y J K=>by obtain⟨d,rfl⟩:=yO J h K;exact F d) id
 exact wm
end
def ed(b:Nat)(e:al)(h:Y):Y->(Nat->Option Obj)->Prop:=λg a=>g=.pointer (f ⟨b,0,n⟩)/\a b=f (.cells #[h] e (0,0))/\∀d,d≠b->a d=n
section
variable {q:af P}
def aZ.gk(aY:b2 P ac){o C}(d){e}(al:oJ all I r=l)(u:r.op=.load o (.global C))(J:c_ d k=f (.K (ed C W aa)))(s:bZ ac o=f e)(ae:dQ aa=l)(S:hh e [.c (.val aa)]=f (.Q (.c (.val aa)))):
  aZ q E all r I k (ax (.val aa)) k:=by
 intro b T ag F i au ah ar av O D K A;refine rk D K (jW al _ _ _ ag) λh Y=>?_;have m:=F.rely Y;have aJ:=et J;have an:d<c h.t:=by rw[m.len];grind
 have w:=bH an;generalize h.t[d]=L at w;obtain⟨af,⟨ai,x,ao⟩,H,Z,aq⟩:=m.box d _ L aJ w;have y:=H C _ x;have G:C∈L.ak:=(Z C).2 M
 have X:T.eval (.global C)=.pointer (f ⟨C,0,n⟩):=rfl;have N:bM k h [aa] [.c (.val aa)]:=⟨Rd.val ae,B⟩;obtain⟨Q,V,R⟩:=ts (b:=h) (k:=k) (P:=P) (aY o e s) (i:=C) (off:=0) (z:=[aa]) (ah:=[.c (.val aa)]) (aw:=.Q (.c (.val aa))) (λU az t=>by
  simp only[aH,y]
  grind) N S
 refine⟨.value Q,h,Q,by simp[ab,u,X,Instr.loadAt,Instr.sureAddr,V],.inl a,⟨⟨k,k,m,m,.refl _ _⟩,?_⟩,A Q h R m Y.aU⟩;intro p g;have aj:p∈(loadVar o ⟨C,0,n⟩).events P h.a #[]:=by
  have aw:ab T.eval r=(do pure (.value (<-loadVar o ⟨C,0,n⟩))):=by simp[ab,u,X,Instr.loadAt,Instr.sureAddr]
  rw[aw]at g;simpa[V]using g
 obtain⟨U,t,rfl⟩:=o8 (aY o e s) (j:=1) (λU t=>⟨aa,by simp only[aH,y];grind⟩) (by have:=r4 S;grind) p aj;exact qh (b_ w) G
end
section
variable {q:af P}
def t'{P}(i:af P)(h:Nat)(a:m an)(g:bJ)(b:m aq)(e:Nat->y):m y->m an->Nat->Prop
 |_::o,k::j,d=>aZ i h a k (ej a g e d) b (e d) b/\t' i h a g b e o j (d+1)
 |[],_,_=>True
 |_::_,[],_=>False
theorem t'.get{all}{o:Nat->y}:∀{i:m y}{j:m an}{h:Nat},t' q E all I k o i j h->∀a e,j[a]?=f e->a<c i->aZ q E all e (ej all I o (h+a)) k (o (h+a)) k
 |[],_,_,_,a,e,_,b=>absurd b (iH _)
 |_::i,[],_,g,a,e,_,b=>g.elim
 |p::i,r::j,h,g,0,e,d,_=>by cases d;exact g.1
 |p::i,r::j,h,g,a+1,e,d,b=>by have:=t'.get g.2 a e d M;grind
def g.gd(C:P.follows Departure.mixedOrders=l)(ag)(s){id}(u:lk aQ.toList=l)(x:o2 aQ.toList 0=l)(z:o7 E aQ.toList=l)(i:ay (c ag) (c aQ.toList)=l)(e:uZ aQ.toList s (c ag) (c aQ.toList-c ag)=l)(h:t' q E aQ.toList I k (λd=>ag.getD d .any) ag aQ.toList 0)(r:g q E bd (.aj aQ.toList (aQ.toList.drop (c ag))::au) .normal (oc aQ.toList I λd=>ag.getD d .any) k):g q E bd (.code (.region id aQ l)::au) .normal I k:=by
 have i:=fs i;have:=b3.reg (q:=q) (E:=E) (I:=I) (k:=k) C (all:=aQ.toList) (c ag) (λ_:Unit=>λd=>ag.getD d .any) (λ_ _=>k) (λ_ _=>True) () B a u x z i
  (λd b j L D A r o=>y8 D (A6 (B6 e d b w) r o) A)
  (λt y _ _ d b j=>by grind)
  (λt y d F _ p m _ _ _=>by have b:=h.get d F p m;rw[cX]at b;exact b.tocH ⟨(),λ_ _=>rfl,B⟩ a a)
  (aM:=g q E bd au) (λt y _ _=>r) id
 exact wm
end
section
variable {q:af P}
def pS{e:Type}(w:af P)(u:Nat)(k:fw)(t:m ik)(s:e->Prop)(r:e->bJ)(p:e->m aq)(q:e->Nat)(x:Nat)(y:e):fw:=λo d h=>match o with
 |.normal=>∃i j,x<=j/\s i/\q i<q y/\iB d (r i)/\qu j (r i)=l/\∃a b,h=a++b/\c a=j/\(kh j a=l/\jO b=l)/\q6 a (p i)
 |o=>g w u k t o d h
def g.hh{A:Type}(V:Nat)(z:A->Prop)(e:A->bJ)(b9:A->m aq)(S:A->Nat)(h){cR}(y:iX I (e h)=f Z)(ar:U Z)(aG:jo k (b9 h)=f cR)(an:U cR)(aD:c k=V)(H:z h)(round:∀h,z h->g q E (pS q E bd au z e b9 S V h) [.code s] .normal (e h) (b9 h)):g q E bd (.code (.loop s)::au) .normal I k:=by
 intro ah aQ av t X Q J B b K;have ae:=jN aG an;obtain⟨aN,N,_⟩:=ae ah t;refine xd (λaf d aA=>∃bF,z bF/\b0 E (b9 bF) aA (e bF) d/\bc (b9 bF) aA/\df k ah (b9 bF) aA/\S bF=af) ?_ ?_ ⟨h,H,(av.le (eH y ar)).ak ae t,aN,N.tooV t,a⟩
 .rintro j d aA ⟨bF,p,R,C,O,aw⟩;exact OJ
 rintro af d aA ⟨bF,p,R,C,O,rfl⟩ az;refine round bF p aA d R C X (.inLoop s::Q) J B b ?_;intro aw aO aj u F ag x r i;cases aw with
 |normal=>
  obtain⟨ai,aH,ab,ao,aF,aE,aP,o,T,rfl,aa,⟨G,al⟩,aJ⟩:=ag;have W:=r.drop M;obtain⟨aL,Y,aI⟩:=aJ _ W;have f3:=x.le aE;have ax:e2 u (u.cut (c o)):=⟨rfl,λ_ _ _ aC=>aC,λ_ _ _=>rfl,r.mem,λX b=>b.imp id λ⟨L,aM,b⟩=>⟨L,gY aM,b⟩⟩
  refine .aP ax (az F (u.cut (c o)) (S ai) aF ⟨ai,ao,⟨f3.size,f3.defers.imp λ_ c5=>(c5.drop al).mono Y.ext,λaK=>aI _ _ ((f3.aL aK).drop (vk M))⟩,aL,?_,a⟩);exact((O.trans i).drop w).trans (Y.tooV W)
 |_=>exact kG.cons (λ_ _=>rfl) D (K _ _ _ _ _ ag x r (O.trans i))
def g.fr{e:Type}{p}{o:e->Prop}{a:e->bJ}{d:e->m aq}{h:e->Nat}{r}{u}(j)(b){cR}(i:p<=j)(y:iX I (a b)=f Z)(A:U Z)(w:qu j (a b)=l)(s:vD j k=l)(t:jo (k.take j) (d b)=f cR)(B:U cR)(z:kh j (k.take j)=l)(C:o b)(x:h b<h r):
  g q E (pS q E bd u o a d h p r) [] .normal I k:=
 ⟨b,j,i,C,x,eH y A,w,k.take j,k.drop j,(uy j k).symm,by grind[Nat.le_of_ble_eq_true,yQ],⟨z,(yQ s).2⟩,jN t B⟩
def g.fC{r:Type}{s}{j:r->Prop}{e:r->bJ}{h:r->m aq}{o:r->Nat}{p}{id}{x i y}(t:iT id x=n)(u:iT id i=f y)(z:g q E bd y .normal I k):
  g q E (pS q E bd i j e h o s p) (.code (.exit id)::x) .normal I k:=
 b3.mono (g.bs (R:=λa b=>pS q E bd i j e h o s p .normal a b) t u z) λd a b A=>by
  have key:∀w d,g q E (λd a b=>match d with
    |.normal=>pS q E bd i j e h o s p .normal a b
    |d=>g q E bd i d a b) w d a b->g q E (pS q E bd i j e h o s p) w d a b:=by
   have d:(λd a b=>match d with
    |.normal=>pS q E bd i j e h o s p .normal a b
    |d=>g q E bd i d a b)=pS q E bd i j e h o s p:=by funext d a b;cases d<;>rfl
   grind
  exact key _ _ A
end
def c'(d:bJ)(a:m Nat):bJ:=a.map λb=>(b,look d b)
section
variable {q:af P}
def g.dF{h:Type}(j)(aV)(e:h->Prop)(b:h->bJ)(d:h->m aq)(o:h->Nat)(a){cR}(r:iX I (c' I aV++b a)=f Z)(t:U Z)(p:jo k (d a)=f cR)(u:U cR)(i:c k=j)(w:e a)(round:∀a,e a->g q E (me q E bd au e (λa=>c' I aV++b a) d o j a) [.code s] .normal (c' I aV++b a) (d a)):g q E bd (.code (.loop s)::au) .normal I k:=
 .aC j e (λa=>c' I aV++b a) d o a r t p u i w round
end
section
variable {q:af P}{F:Nat->y}{aw:Bool->Bool->Bool->Bool->m aq}{f1 f2 f3 f4:Nat}
abbrev mw(g:Bool->Bool->Bool->Bool->m aq)(a b d e:Nat):(Nat->Bool)->m aq:=λy=>g (y a) (y b) (y d) (y e)
theorem Np{y:Nat->Bool}(a:ad u e=v):dR e y u=y u:=by simp only[dR,a]
theorem ad_{y:Nat->Bool}:dR e y e=l:=z6
def cc.jI(h:ad f1 e=v)(i:ad f2 e=v)(k:ad f3 e=v)(j:ad f4 e=v)(m:∀a b d g,aZ q E all r (ej all I F e) (aw a b d g) (F e) (aw a b d g)):cc q E all I F (mw aw f1 f2 f3 f4) e r:=by intro y _ _;grind[Np]
def cc.jJ(aY:b2 P ac)(lP:a_ q CT)(cl:U cn)(t:∀x i s O,iy ac CT [] all (ej all I F e) (aw x i s O) r=f (F e,n,cn):=by intro x i s O;cases x<;>cases i<;>cases s<;>cases O<;>rfl)(c5:ad f1 e=v:=by rfl)(dE:ad f2 e=v:=by rfl)(C:ad f3 e=v:=by rfl)(aj:ad f4 e=v:=by rfl):cc q E all I F (mw aw f1 f2 f3 f4) e r:=.jI c5 dE C aj λx i s O=>aZ.eval aY lP (t x i s O) cl
def cc.aW(aY:b2 P ac:=by exact bb)(lP:a_ q CT:=by first|assumption|exact a_.nil)(t:∀x i s O,iy ac CT [] all (ej all I F e) (aw x i s O) r=f (F e,n,[]):=by intro x i s O;cases x<;>cases i<;>cases s<;>cases O<;>rfl)(c5:ad f1 e=v:=by rfl)(dE:ad f2 e=v:=by rfl)(C:ad f3 e=v:=by rfl)(aj:ad f4 e=v:=by rfl):cc q E all I F (mw aw f1 f2 f3 f4) e r:=.jJ (cn:=[]) aY lP B t c5 dE C aj
def cc.d_(a:ad f2 f1=v)(g:ad f3 f1=v)(b:ad f4 f1=v)(e:hp all f2 f1=l)(h:hp all f3 f1=l)(d:hp all f4 f1=l)(i:aZ q E all r (ej all I F f1) (aw v v v v) (F f1) (aw l v v v)):cc q E all I F (mw aw f1 f2 f3 f4) f1 r:=z5
def cc.eR(a:ad f1 f2=v)(g:ad f3 f2=v)(d:ad f4 f2=v)(b:hp all f2 f1=l)(h:hp all f3 f2=l)(e:hp all f4 f2=l)(i:aZ q E all r (ej all I F f2) (aw l v v v) (F f2) (aw l l v v)):cc q E all I F (mw aw f1 f2 f3 f4) f2 r:=z5
def cc.eS(a:ad f1 f3=v)(b:ad f2 f3=v)(g:ad f4 f3=v)(h:hp all f3 f1=l)(e:hp all f3 f2=l)(d:hp all f4 f3=l)(i:aZ q E all r (ej all I F f3) (aw l l v v) (F f3) (aw l l l v)):cc q E all I F (mw aw f1 f2 f3 f4) f3 r:=z5
def cc.eV(a:ad f1 f4=v)(b:ad f2 f4=v)(g:ad f3 f4=v)(h:hp all f4 f1=l)(e:hp all f4 f2=l)(d:hp all f4 f3=l)(i:aZ q E all r (ej all I F f4) (aw l l l v) (F f4) (aw l l l l)):cc q E all I F (mw aw f1 f2 f3 f4) f4 r:=z5
end
section
variable {ac:m (Nat×cp)}
def a1.jS(aY:b2 P ac){T p U X:ae}(af:r.op=.slice o T (f p) (f U) (f X)){G a4}(ah:bZ ac o=f G)(L:G.desc=.slice W)(ai:bZ ac W=f a4){eO}{q d m}{e u A}(an:∀ag s,bx k ag s (η T)->Rd ag.D s (.B eO a4.size j V))(aj:η p=ax (.int q e))(al:η U=ax (.int d u))(aM:η X=ax (.int m A))(Z:0<=e)(aG:e<=u)(av:u<=A)(aw:A<=j):
  a1 P r η k (ax (.B v a4.size (u.toNat-e.toNat) (fA e.toNat V))) k:=by
 refine .aR λb I az C=>?_;have S:=an b _ (C T);have get:∀h Q s,η h=ax (.int Q s)->I h=.int Q s:=λh Q s y=>by have t:=C h;rw[y]at t;replace t:=b7 t;generalize I h=aC at t;cases t;rfl
 have R:=get p q e aj;have N:=get U d u al;have Y:=get X m A aM;obtain⟨aa,g,z,H,aE,aF,aH,a,aA⟩:=S.bZ;rw[H]at S;have K:=(aY o G ah).run_underlying (p:=b.a);rw[L]at K;have em:((A.toNat:Nat):Int)=A:=re w;have ar:((u.toNat:Nat):Int)=u:=re w;have x:(aT l j g (f (.int q e)) (f (.int d u)) (f (.int m A))).run P b.a=.ok (e.toNat,u.toNat,A.toNat) b.a:=by simp[aT,run_sliceBound (P:=P) b.a m A g _ w w,run_sliceBound (P:=P) b.a d u A.toNat _ w w,run_sliceBound (P:=P) b.a q e u.toNat _ Z w]
 have ao:(aT l j g (f (.int q e)) (f (.int d u)) (f (.int m A))).events P b.a #[]=#[]:=by simp[aT,run_sliceBound (P:=P) b.a m A g _ w w,run_sliceBound (P:=P) b.a d u A.toNat _ w w,la (P:=P) b.a m A g _ w w,la (P:=P) b.a d u A.toNat _ w w,la (P:=P) b.a q e u.toNat _ Z w]
 refine⟨.slice (if A.toNat=e.toNat then aa else aa.map (·.add (e.toNat*a4.size))) (u.toNat-e.toNat) (A.toNat-e.toNat),?_,?_,by simp[ab,af,H,R,N,Y,Instr.sliceAt,K,Instr.slice,x,ao]⟩
 .simp[ab,af,H,R,N,Y,Instr.sliceAt,K,Instr.slice,x,(aY W a4 ai).ba]
 cases S with
 |B aq F au _ _ _ O M B E=>
  refine Rd.B aq (F+e.toNat*a4.size) (λh u=>au (e.toNat+h) u) w w D (λh y=>O _ w) (λaD=>?_) (λh y u J i=>?_) (λh y u J i=>E _ w u J i)
  .rw[bj w,M w];simp[g0]
  have:=B (e.toNat+h) w u J i;grind
end
def i'(i:Y)(k:m Int):Y->(Nat->Option Obj)->Prop:=λo e=>o=i/\∃j a h,i=.map (f j)/\(∀g,e g=if g=j then f (.map a h)else n)/\MapKept.Stamped a h /\
 (∀d∈a.toList,∃b,d.key=.int .i64 b/\d.val=.bool l/\a7 .i64 b)/\∀b,b∈k↔∃d∈a.toList,d.key=.int .i64 b
structure R3(k:m aq)(b:a6)(i:Nat)(aj:Y)(d:m Int)(L:Loc)(a':Nat)(V:Array MapEntry)(s:Nat):Prop where
 b2:b.t[i]?=f L
 v:L.v=aj
 cl:aj=.map (f a')
 a5:MapKept.Stamped V s
 cw:∀aw∈V.toList,∃j,aw.key=.int .i64 j/\aw.val=.bool l/\a7 .i64 j
 mem:∀j,j∈d↔∃aw∈V.toList,aw.key=.int .i64 j
 heap:b.a.heap[a']?=f (.map V s)
 ak:∀i,i∈L.ak↔i=a'
def i'.open{aj}{d}(bP:bc k b)(o:k[i]?=f (.K (i' aj d))):∃L g a h,R3 k b i aj d L g a h:=by have e:i<c b.t:=hY;obtain⟨q,⟨j,g,a,h,m,w,r,t,p⟩,s,u,_⟩:=bP.box i _ _ o (bH e);exact⟨_,g,a,h,bH e,j,m,r,t,p,s g _ M,λi=>by grind⟩
section
variable {ac S bl:al}{F bF ea:ae}{aj:Y}{d:m Int}{j:Int}
def Kk{b:Array MapEntry}(g:∀a∈b.toList,∃d,a.key=.int .i64 d/\a.val=.bool l/\a7 .i64 d):∀a∈b.toList,MapKept.IsKey (.int .i64) a.key:=λa e=>by obtain⟨d,h,_⟩:=g a e;exact hy
def D0{aj}{a}(e:bx k b aa a)(d:a=cL aj):aa=aj:=by subst d;exact Rd.bc e
def LS{j}{a}(e:bx k b aa a)(d:a=ax (.int .i64 j)):aa=.int .i64 j/\a7 .i64 j:=by subst d;have:=b7 e;generalize aa=g at this;cases this;exact bv
def a1.jM(w:r.op=.lookup ac F bF v)(aY:P.underlying ac=f (.map S bl))(e:P.underlying S=f (.int .i64))(T:∀I,(zeroValue bl).run P I=.ok (.bool v) I)(C:k[i]?=f (.K (i' aj d)))(Q:η F=cL aj)(y:η bF=ax (.int .i64 j)):a1 P r η k (ax (.bool (d.contains j))) k:=by
 refine a1.dt λo Y B q=>?_;obtain⟨L,s,z,aa,b⟩:=i'.open B C;have p:=(D0 (q F) Q).trans b.cl;obtain⟨R,G⟩:=LS (q bF) y;obtain⟨U,x⟩:=JM (O:=.int .i64) (h:=.int .i64 j) rfl (Kk b.cw);have A:h4 o ⟨.obj s,v,v⟩:=mv (b_ b.b2) ((b.ak s).2 a);have key:∃g:Bool,(Instr.lookup ac (.map (f s)) (.int .i64 j) v).run P o.a=.ok (.bool g) o.a/\(Instr.lookup ac (.map (f s)) (.int .i64 j) v).events P o.a #[]=#[⟨.obj s,v,v⟩]/\g=d.contains j:=by
  cases U with
  |none=>
   obtain⟨m,t⟩:=Kz (ok:=v) aY e b.heap x (λ_=>T o.a)
   exact⟨v,m,t,by
    symm;rw[<-p0,AI,b.mem]
    rintro⟨u,N,e⟩;exact x.cZ a u N e⟩
  |some E=>
   obtain⟨X,g⟩:=E;obtain⟨m,t⟩:=Kz (ok:=v) (ea:=J) aY e b.heap x (λw=>by cases w);obtain⟨u,V,W,Z⟩:=x.gG X g rfl;have D:u∈z.toList:=M;obtain⟨_,_,H,_⟩:=b.cw u D;exact⟨l,m.trans (show Result.ok g o.a=_ by grind),t,by symm;rw[AI,b.mem];grind⟩
 obtain⟨g,m,t,K⟩:=key;refine⟨.bool g,?_,by rw[<-K];exact Rd.bool,?_⟩
 .simp only[ab,w,p,R,cJ,m,c8,dY]
 simp only[ab,w,p,R,aD,m,t,aF,Sem.events_pure];exact .Q A
def a1.jO(ae:r.op=.mapUpdate ac F bF ea)(aY:P.underlying ac=f (.map S bl))(C:P.underlying S=f (.int .i64))(E:k[i]?=f (.K (i' aj d)))(al:η F=cL aj)(ai:η bF=ax (.int .i64 j))(ah:η ea=ax (.bool l)):a1 P r η k .any (k.set i (.K (i' aj (d++[j])))):=by
 intro p J B u;obtain⟨L,m,q,aa,e⟩:=i'.open B E;have z:=(D0 (u F) al).trans e.cl;obtain⟨Z,aw⟩:=LS (u bF) ai;have Y:J ea=.bool l:=by have:=u ea;rw[ah]at this;have:=b7 this;generalize J ea=X at this;cases this;rfl
 obtain⟨ao,K⟩:=JM (O:=.int .i64) (h:=.int .i64 j) rfl (Kk e.cw);have x:∀X,h4 p ⟨.obj m,X,v⟩:=λX=>mv (b_ e.b2) ((e.ak m).2 a);have G:=(jb.1 e.heap).1;have key:∃b o,(Instr.mapUpdate ac (.map (f m)) (.int .i64 j) (.bool l)).run P p.a=.ok () {p.a with heap:=p.a.heap.setIfInBounds m (.map b o)}/\(Instr.mapUpdate ac (.map (f m)) (.int .i64 j) (.bool l)).events P p.a #[]=#[⟨.obj m,v,v⟩,⟨.obj m,l,v⟩] /\
   MapKept.Stamped b o/\(∀g∈b.toList,∃j,g.key=.int .i64 j/\g.val=.bool l/\a7 .i64 j)/\∀Q,Q∈d++[j]↔∃g∈b.toList,g.key=.int .i64 Q:=by
  cases ao with
  |none=>
   obtain⟨w,I⟩:=Nq (F:=.bool l) aY C e.heap K;refine⟨_,_,w,I,MapKept.stamped_push e.a5 (K.cZ a),λg R=>?_,λQ=>?_⟩
   .rw[Array.toList_push,fx]at R;rcases R with R|R
    .exact e.cw g R
    grind
   rw[fx,e.mem,Array.toList_push];constructor
   .rintro(⟨g,t,A⟩|t)
    .grind
    simp_all
   grind
  |some W=>
   obtain⟨V,aq⟩:=W;obtain⟨g,t,A,av⟩:=K.gG V aq rfl;have U:g∈q.toList:=M;obtain⟨_,_,ag,_⟩:=e.cw g U;have ar:q.modify V (λg=>{key:=.int .i64 j,val:=.bool l,born:=g.born})=q:=by
    apply Array.ext_getElem?;intro af;rw[AJ];split
    .rename_i bp;subst bp;rw[t,<-A,<-ag];rfl
    simp
   obtain⟨w,I⟩:=Nq (F:=.bool l) aY C e.heap K;refine⟨q,aa,w.trans (show Result.ok () {p.a with heap:=p.a.heap.setIfInBounds m (.map (q.modify V λg=>{key:=.int .i64 j,val:=.bool l,born:=g.born}) aa)}=_ by grind),I,e.a5,e.cw,λQ=>?_⟩;rw[fx,e.mem];constructor
   .rintro(y|y)
    .exact y
    grind
   grind
 obtain⟨b,o,w,I,an,H,aM⟩:=key;have N:=B.ca (jZ:=i' aj (d++[j])) (cv:=L) (bi:={p.a with heap:=p.a.heap.setIfInBounds m (.map b o)}) E e.b2 rfl D (λi _ s=>by show(p.a.heap.setIfInBounds m _)[i]?=_;rw[sw (by rintro rfl;exact s ((e.ak m).2 rfl))]) (λi s=>.inl s)
  ⟨λi=>if i=m then f (.map b o)else n,⟨e.v,m,b,o,e.cl,λ_=>rfl,an,H,aM⟩,λi au s=>by grind,λi=>by rw[e.ak];by_cases g:i=m<;>simp[g]⟩ a a a
 have T:p.t.set i L=p.t:=by
  apply p4;intro af;by_cases g:i=af
  .subst g;rw[io (cO.1 e.b2).1,e.b2]
  grind
 rw[T]at N;refine⟨.skip,_,?_,a,N.1,N.2,?_⟩
 .simp only[ab,ae,z,Z,Y,cJ,w,c8,dY]
 simp only[ab,ae,z,Z,Y,aD,w,I,aF,Sem.events_pure];exact .fh (x _) (x _)
end
section
variable {q:af P}{ac:al}
def g.hS(p:r.op=.makeMap ac n)(u:r.guard=n)(w:fj E r.dst=l)(x:∀j,g q E bd (.aj all bq::au) .normal (ga r.dst (cL j) I) (k++[.K (i' j [])])):g q E bd (.aj all (r::bq)::au) .normal I k:=by
 refine g.cD (ι:=Y) (λj=>cL j) (λj=>k++[.K (i' j [])]) u w (λb z D e=>?_) x;let bi:ar:={b.a with heap:=b.a.heap.push (.map #[] 0)}
 have A:bi.heap[b.a.heap.size]?=f (.map #[] 0):=M;have B:bi.heap.size=b.a.heap.size+1:=M;obtain⟨t,s⟩:=e.cW (cj:=b.D) (bi:=bi) M (λh d=>by grind) (λ_ _ _=>rfl) (λh d r y i=>by have:=e.block i;omega) rfl rfl rfl;obtain⟨m,t2⟩:=t.bY s rfl e (bS:=.K (i' (.map (f b.a.heap.size)) [])) (L:=⟨.map (f b.a.heap.size),[b.a.heap.size]⟩)
  ⟨λh=>if h=b.a.heap.size then f (.map #[] 0)else n,⟨rfl,_,#[],0,rfl,λ_=>rfl,MapKept.stamped_empty 0,λo F=>by grind,λC=>by simp⟩,λh r d=>by
   grind,λh=>by by_cases o:h=b.a.heap.size<;>simp[o],λh d r=>by
   simp at d;subst d;show b.D _ _=n;cases i:b.D b.a.heap.size r with
   |none=>rfl
   |some y=>have:=e.block i;omega⟩ (λh d=>by grind)
 refine⟨.map (f b.a.heap.size),.value (.map (f b.a.heap.size)),_,.map (f b.a.heap.size),?_,.inl a,Rd.val a,m,t2,?_⟩
 .simp[ab,p,Instr.makeMap,run_newObj,bi]
 simp[ab,p,Instr.makeMap];exact .nil
end
section
variable {ac:m (Nat×cp)}
def a1.hO(aY:b2 P ac){E p F:ae}(aa:r.op=.slice o E (f p) (f F) n){H a4}(al:bZ ac o=f H)(ao:H.desc=.slice W)(au:bZ ac W=f a4){C h T}{t s}{e u}(az:η E=cC d (.B C h T j))(O:a4.size=h){aM Q}(B:k[d]?=f (.q aM Q C V))(av:η p=ax (.int t e))(aw:η F=ax (.int s u))(aA:0<=e)(aC:e<=u)(aD:T+u<=C):a1 P r η k (cC d (.B C h (T+e.toNat) (u.toNat-e.toNat))) k:=by
 subst O;refine .aR λg q M m=>?_;have aj:=m E;rw[az]at aj;have ai:=aj;change cA k g (q E) (.O d _)at ai;obtain⟨S,⟨Z,I,b,Y,X,af,aJ,an,U,G⟩,y,ag⟩:=ai;have aI:C<=Y:=by
  obtain⟨L,ar,R⟩:=(ag _ _ _ _ B).2 rfl;rcases M.box d _ L B ar with⟨rfl,rfl⟩|⟨i,g7,z,aG,rfl,_,_,aq,_⟩
  .exact gZ _
  rw[U]at R;cases R;exact aq
 have D:=m p;rw[av]at D;replace D:=b7 D;generalize ah:q p=aE at D;cases D;have x:=m F;rw[aw]at x;replace x:=b7 x;generalize N:q F=aF at x;cases x;have J:=(aY o H al).run_underlying (p:=g.a);rw[ao]at J;have A:(aT l j b (f (.int t e)) (f (.int s u)) n).run P g.a=.ok (e.toNat,u.toNat,b) g.a:=by simp[aT,run_sliceBound (P:=P) g.a s u b _ w w,run_sliceBound (P:=P) g.a t e u.toNat _ w w]
 have K:(aT l j b (f (.int t e)) (f (.int s u)) n).events P g.a #[]=#[]:=by
  simp[aT,run_sliceBound (P:=P) g.a s u b _ w w,run_sliceBound (P:=P) g.a t e u.toNat _ w w,
   la (P:=P) g.a s u b _ w w,la (P:=P) g.a t e u.toNat _ w w]
 refine⟨.slice (if b=e.toNat then Z else Z.map (·.add (e.toNat*a4.size))) (u.toNat-e.toNat) (b-e.toNat),?_,⟨S,⟨_,I,_,Y,a,by omega,by omega,an,U,λaH=>?_⟩,y,ag⟩,by simp[ab,aa,X,ah,N,Instr.sliceAt,J,Instr.slice,A,K]⟩
 .simp[ab,aa,X,ah,N,Instr.sliceAt,J,Instr.slice,A,(aY W a4 au).ba]
 obtain⟨i,rfl,rfl⟩:=G w;exact Qy
end
section
open Go.ChangeMaps (setBlock)
section
def WP(p)(ty)(b i d m)(seen)(V)(clock)(s:p.heap[b]?=f (.mapIter (f i) d seen m))(u:p.heap[i]?=f (.map V clock))(A:∀j∈V.toList,j.born<d)(D:d<=m):
    ∀g∈(Instr.next (.pointer (f ⟨b,0,n⟩)) v ty).events P p #[],g.sync=v/\(g.loc=.obj b∨g.loc=.obj i):=by
  have J:(getObj b).run P p=.ok (.mapIter (f i) d seen m) p:=by simp[getObj,Sem.run,s]
  have F:(getObj i).run P p=.ok (.map V clock) p:=by simp[getObj,Sem.run,u]
  have R:∀V,(getObj b).events P p V=V.push ⟨.obj b,v,v⟩:=λV=>by simp only[getObj,Sem.events,Sem.runT,s];rfl
  have I:∀V,(getObj i).events P p V=V.push ⟨.obj i,v,v⟩:=λV=>by simp only[getObj,Sem.events,Sem.runT,u];rfl
  have K:∀w1 q h,w1.heap[b]?=f (.mapIter (f i) d seen m)->(setObj b (.mapIter (f i) d q clock)).events P w1 h=h.push ⟨.obj b,l,v⟩:=λw1 q h e=>by simp[setObj,Sem.events,Sem.runT,e];rfl
  have z:∀w1 o,w1.heap[b]?=f (.mapIter (f i) d seen m)->∃w2,(setObj b o).run P w1=.ok () w2:=λw1 o e=>⟨{w1 with heap:=w1.heap.setIfInBounds b o},by simp[setObj,Sem.run,e]⟩
  simp only[Instr.next,aD,J,F,R,I,aF,next_test_false seen V d m A D,j5,dm];generalize y:((if(Array.filter (λj=>decide (j.born<d)) (Array.filter (λg=>!seen.contains g.born) V)).isEmpty=l then #[n]else #[])++Array.map f (Array.filter (λj=>decide (j.born<d)) (Array.filter (λg=>!seen.contains g.born) V)++Array.filter (λj=>decide (j.born≥d)) (Array.filter (λg=>!seen.contains g.born) V)))=L;have N:∃r w1,(w1=p∨w1=p.drew)/\(choose (Question.mapNext L.size)).run P p=.ok r w1/\∀V,(choose (Question.mapNext L.size)).events P p V=V:=by
    by_cases w:L.size<=1
    · exact⟨0,p,Or.inl a,by simp[choose,Sem.run,Question.forced,w],λV=>by simp⟩
    · exact⟨_,p.drew,Or.inr a,by simp only[choose,Sem.run,Question.forced,bw,w,dm,Question.cut];rfl,λV=>by simp⟩
  obtain⟨r,w1,E,B,C⟩:=N;have t:w1.heap[b]?=f (.mapIter (f i) d seen m):=by rcases E with rfl|rfl<;>exact s
  simp only[B,C,aF];intro g k;have fin:g∈(#[⟨.obj b,v,v⟩,⟨.obj i,v,v⟩,⟨.obj b,l,v⟩]:Array aO):=by
    cases x:L[r]? with
    |none=>rw[x]at k;simp[stuck,Sem.events,Sem.runT]at k;rcases k with e|e<;>simp[e]
    |some o=>
      rw[x]at k;cases o with
      |none=>simp at k;rcases k with e|e<;>simp[e]
      |some j=>
        obtain⟨w2,M⟩:=z w1 (.mapIter (f i) d (seen.push j.born) clock) t;simp[K w1 _ _ t]at k;rcases k with e|e|e<;>simp[e]
  simp at fin;rcases fin with rfl|rfl|rfl<;>simp
def UP(p)(a i d)(seen:Array Nat)(V)(clock)(b)(e:p.heap[a]?=f (.mapIter (f i) d (seen.push b.born) clock))(g:p.heap[i]?=f (.map V clock))(q:b∈V.toList)(r:(V.toList.map (·.born)).Nodup):
    (Instr.entry (.pointer (f ⟨a,0,n⟩))).events P p #[]=#[⟨.obj a,v,v⟩,⟨.obj i,v,v⟩]:=by
  have h:V.find? (·.born==b.born)=f b:=by rw[<-Array.find?_toList];grind[find_born]
  have m:(getObj a).run P p=.ok (.mapIter (f i) d (seen.push b.born) clock) p:=by simp[getObj,Sem.run,e]
  have j:(getObj i).run P p=.ok (.map V clock) p:=by simp[getObj,Sem.run,g]
  have o:∀V,(getObj a).events P p V=V.push ⟨.obj a,v,v⟩:=λV=>by simp only[getObj,Sem.events,Sem.runT,e];rfl
  have k:∀V,(getObj i).events P p V=V.push ⟨.obj i,v,v⟩:=λV=>by simp only[getObj,Sem.events,Sem.runT,g];rfl
  simp only[Instr.entry,aD,m,j,o,k,aF,Array.back?_push,ip,j5,dm,h];rfl
def kY(h e:Nat)(b:Array Nat):Y->(Nat->Option Obj)->Prop:=λi a=>∃d:Nat,i=.pointer (f ⟨d,0,n⟩)/\a=λg=>if g=d then f (.mapIter (f h) e b e)else n
def uc(H:Y->(Nat->Option Obj)->Prop)(e:Nat)(b:Array MapEntry)(d:Nat):Prop:=∀g a,H g a->a e=f (.map b d)
variable {q:af P}
def bc.ef(bP:bc k b)(aJ:k[d]?=f (.K H)){g}{V}{s}(h:uc H g V s):b.a.heap[g]?=f (.map V s)/\∃L∈b.t,g∈L.ak:=by have e:d<c b.t:=hY;obtain⟨i,a,j,m,o⟩:=bP.box d _ b.t[d] aJ (bH e);have:=h _ _ a;grind
def bc.g'(bP:bc k b){j s}{dy}(aJ:k[d]?=f (.K (kY j s dy))):∃a:Nat,b.t[d]?=f ⟨.pointer (f ⟨a,0,n⟩),((b.t[d]?).map (·.ak)).getD []⟩/\b.a.heap[a]?=f (.mapIter (f j) s dy s)/\∀L,b.t[d]?=f L->∀e,e∈L.ak↔e=a:=by
  have h:d<c b.t:=hY;have i:=bH h;obtain⟨m,⟨a,o,p⟩,g,t,r⟩:=bP.box d _ b.t[d] aJ i;refine⟨a,?_,g a _ M,λL q e=>?_⟩
  · rw[i];simp[<-o]
  grind
def g.range{o M D}{u A}(j:r.op=.range o (.tmp M))(ag:r.dst=f D)(W:r.guard=n)(G:fj E r.dst=l)(F:P.underlying o=f (.map u A)){a'}(Q:∀b m,b0 E k b I m->bc k b->m.eval (.tmp M)=.map (f a')){qA:Nat}{H:Y->(Nat->Option Obj)->Prop}{V}{s}(aJ:k[qA]?=f (.K H))(O:uc H a' V s)(ai:g q E bd (.aj all bq::au) .normal ((D,.n (.Q (.aM (c k))))::I) (k++[.K (kY a' s #[])])):g q E bd (.aj all (r::bq)::au) .normal I k:=by
  refine g.cD (ι:=Unit) (λ_=>.n (.Q (.aM (c k)))) (λ_=>k++[.K (kY a' s #[])]) W G ?_ λ_=>by exact hy
  intro b m N h;have J:=Q b m N h;obtain⟨x,L,af,T⟩:=h.ef aJ O;have B:=run_range_map b.a o u A a' V s F x;have C:(Instr.range o (.map (f a'))).events P b.a #[]=#[⟨.obj a',v,v⟩]:=by
    have Z:∀V,(getObj a').events P b.a V=V.push ⟨.obj a',v,v⟩:=λV=>by simp only[getObj,Sem.events,Sem.runT,x];rfl
    have ae:∀r K V,(newObj r).events P K V=V:=λr K V=>by simp
    simp[Instr.range,run_underlying F,MapKept.run_getObj_map x,Z,ae]
  have ah:∀d,b.a.heap.size<=d->∀r,b.D d r=n:=λd e r=>by
    cases i:b.D d r with
    |none=>rfl
    |some aa=>have:=h.block i;omega
  let bi:ar:=b.a.alloc (.mapIter (f a') s #[] s);have R:bi.heap.size=b.a.heap.size+1:=by show(b.a.heap.push _).size=_;simp
  have aj:bi.heap[b.a.heap.size]?=f (.mapIter (f a') s #[] s):=lT _ _;obtain⟨y,X⟩:=h.cW (cj:=b.D) (bi:=bi) w (λd e=>iV _ _ e) (λ_ _ _=>rfl) (λd e r aa i=>by grind) rfl rfl rfl;obtain⟨p,t⟩:=y.bY (bS:=.K (kY a' s #[])) (L:=⟨.pointer (f ⟨b.a.heap.size,0,n⟩),[b.a.heap.size]⟩) X rfl h
    ⟨λd=>if d=b.a.heap.size then f (.mapIter (f a') s #[] s)else n,⟨_,rfl,rfl⟩,λd r e=>by grind,λd=>by by_cases S:d=b.a.heap.size<;>simp[S],λd e r=>by grind⟩
    (λd e=>by grind)
  refine⟨(),.value (.pointer (f ⟨b.a.heap.size,0,n⟩)),_,.pointer (f ⟨b.a.heap.size,0,n⟩),?_,.inl a,⟨λbS z=>?_,⟨.pointer (f ⟨b.a.heap.size,0,n⟩),[b.a.heap.size]⟩,?_,a,a⟩,p,t,?_⟩
  · simp[ab,j,J,cJ,B,c8,dY];rfl
  · rw[hl (bC _)]at z;simp at z;subst z;rfl
  · show(b.t++_)[c k]?=_
    rw[<-h.len,hl (bC _)];simp
  · exact x7 (du.of_eq C (.Q (mv af T))) (by simp[ab,j,J])
def b0.j8{d}(g:look I d=cL aa):∀b a,b0 E k b I a->bc k b->a.eval (.tmp d)=aa:=λb a e _=>by have:=e.aL d;rw[g]at this;exact Rd.bc this
inductive sd (V:Array MapEntry) (dy:Array Nat)
  |over (t:∀aw∈V.toList,aw.born∈dy)
  |Q (aw:MapEntry) (t:aw∈V.toList) (jm:aw.born∉dy)
def sd.c'{V}{dy}:sd V dy->y
  |.over _=>.S [.Q (.c (.bool v))]
  |.Q a _ _=>.S [.Q (.c (.bool l)),.Q (.v a.key),.Q (.v a.val)]
def sd.aZ{V}{dy}:sd V dy->Array Nat
  |.over _=>dy
  |.Q a _ _=>dy.push a.born
def g.next{A W}{ty}(cl:r.op=.next (.tmp A) v)(aD:r.type=ty)(aa:r.dst=f W)(ae:r.guard=n)(K:fj E r.dst=l){qA kg:Nat}(ah:look I A=.n (.Q (.aM kg))){a' s}{dy}(T:k[kg]?=f (.K (kY a' s dy))){H:Y->(Nat->Option Obj)->Prop}{V}(aJ:k[qA]?=f (.K H))(ag:uc H a' V s)(Z:MapKept.Stamped V s)(ax:∀b∈V.toList,dQ b.key=l/\dQ b.val=l)(an:∀t:sd V dy,g q E bd (.aj all bq::au) .normal ((W,t.c')::I) (k.set kg (.K (kY a' s t.aZ)))):g q E bd (.aj all (r::bq)::au) .normal I k:=by
  refine g.cD (ι:=sd V dy) (λt=>t.c') (λt=>k.set kg (.K (kY a' s t.aZ))) ae K ?_ λt=>by rw[aa];exact an t
  intro h aj af p;obtain⟨e,j,x,G⟩:=p.g' T;have u:aj.eval (.tmp A)=.pointer (f ⟨e,0,n⟩):=by
    have:=af.aL A;rw[ah]at this;obtain⟨_,L,S,u,_⟩:=(show cA _ h _ (.aM kg)from this)
    rw[j]at S;cases S;exact u
  obtain⟨U,L,S,aC⟩:=p.ef aJ ag;have av:=b_ j;have aw:=(G _ j e).2 a;have X:du h ((Instr.next (.pointer (f ⟨e,0,n⟩)) v r.type).events P h.a #[]):=by
    intro b o;obtain⟨ar,O|O⟩:=WP h.a r.type e a' s s dy V s x U Z.1 (bC _) b o
    · obtain⟨N,wr,aM⟩:=b;grind[mv]
    · obtain⟨N,wr,aM⟩:=b;grind[mv]
  have ao:k.set kg (.K (kY a' s dy))=k:=mY;rcases run_next_at (P:=P) h.a r.type e a' s s dy V s x U Z.1 (bC _)with⟨ai,C⟩|⟨b,o,w1,R,C⟩
  · have aq:∀b∈V.toList,b.born∈dy:=by intro b o;have:=Array.eq_empty_of_size_eq_zero ai;unfold leftOf at this;grind[Array.filter_eq_empty_iff]
    refine⟨.over aq,.value (.tuple #[.bool v]),h,_,?_,.inl a,⟨[.bool v],a,Rd.bool,B⟩,?_,?_,?_⟩
    · simp[ab,cl,u,cJ,C,c8,dY]
    · show bc (k.set kg (.K (kY a' s dy))) h
      grind
    · show cN k h (k.set kg (.K (kY a' s dy))) h
      rw[ao];exact .refl _ _
    · exact x7 X N8
  · have J:b∈V.toList/\b.born∉dy:=by simp[leftOf]at o;grind
    have z:w1.heap=h.a.heap/\w1.os=h.a.os/\w1.tape=h.a.tape/\w1.output=h.a.output:=by rcases R with rfl|rfl<;>exact⟨rfl,rfl,rfl,rfl⟩
    have az:e<h.a.heap.size:=p.lt _ av e aw;have y:e<w1.heap.size:=M;obtain⟨Q,t2⟩:=p.ca (d:=kg) (jZ:=kY a' s (dy.push b.born)) (cv:=⟨.pointer (f ⟨e,0,n⟩),((h.t[kg]?).map (·.ak)).getD []⟩) (bi:=setBlock w1 e (.mapIter (f a') s (dy.push b.born) s)) T j rfl
      (by simp[setBlock,z.1]) (λi m al=>by
        have aA:e≠i:=M;simp[setBlock]
        grind) (λi m=>.inl m)
      ⟨λi=>if i=e then f (.mapIter (f a') s (dy.push b.born) s)else n,⟨e,rfl,rfl⟩,λi r m=>by
        by_cases w:i=e
        · subst w
          simp[dv]at m;cases m;simp[setBlock];grind
        grind,λi=>by
        rw[G _ j i]
        by_cases w:i=e<;>simp[w]⟩ (by simp[setBlock,z.2.1]) (by simp[setBlock,z.2.2.1]) (by simp[setBlock,z.2.2.2])
    obtain⟨D,F⟩:=ax b J.1;refine⟨.Q b J.1 J.2,.value (.tuple #[.bool l,b.key,b.val]),_,_,?_,.inl a,⟨[.bool l,b.key,b.val],a,Rd.bool,Rd.val D,Rd.val F,B⟩,Q,t2,?_⟩
    · simp[ab,cl,u,cJ,C,c8,dY]
    · exact x7 X N8
def g.entry{p u}(i:r.op=.entry (.tmp p))(N:r.dst=f u)(Q:r.guard=n)(z:fj E r.dst=l){qA kg:Nat}(R:look I p=.n (.Q (.aM kg))){a' s:Nat}{dy:Array Nat}{aw:MapEntry}(D:k[kg]?=f (.K (kY a' s (dy.push aw.born)))){V:Array MapEntry}(aJ:k[qA]?=f (.K H))(J:uc H a' V s)(t:MapKept.Stamped V s)(w:aw∈V.toList){bF:y}(F:∀e:a6,bx k e (.tuple #[aw.key,aw.val]) bF)(S:g q E bd (.aj all bq::au) .normal ((u,bF)::I) k):g q E bd (.aj all (r::bq)::au) .normal I k:=by
  refine g.cD (ι:=Unit) (λ_=>bF) (λ_=>k) Q z ?_ λ_=>by exact hy
  intro e A C d;obtain⟨j,b,h,M⟩:=d.g' D;have m:A.eval (.tmp p)=.pointer (f ⟨j,0,n⟩):=by
    have:=C.aL p;rw[R]at this;obtain⟨_,L,o,m,_⟩:=(show cA _ e _ (.aM kg)from this)
    rw[b]at o;cases o;exact m
  obtain⟨x,L,o,B⟩:=d.ef aJ J;have K:=run_entry_at (P:=P) e.a j a' s dy V s aw h x w t.2.1;have O:=UP (P:=P) e.a j a' s dy V s aw h x w t.2.1;refine⟨(),.value (.tuple #[aw.key,aw.val]),e,_,?_,.inl a,F e,d,.refl _ _,?_⟩
  · simp[ab,i,m,cJ,K,c8,dY]
  · exact x7 (du.of_eq O (.fh (mv (b_ b) ((M _ b j).2 a)) (mv o B))) (by simp[ab,i,m])
end
end
inductive fp where
 |nil (x:Option Addr)
 |row (i cap:Nat)
def cZ(b:fp)(g:Nat):Y:=match b with
 |.nil d=>.slice d 0 0
 |.row e a=>.slice (f ⟨e,0,n⟩) g a
def tz(bO)(j):dQ (cZ bO j)=l:=by cases bO<;>rfl
def EN(a:m Y):Nat->m N:=λb=>[.val (a.getD b J)]
section
variable {q:af P}
def b3.e2{aM}{dD:ι->bJ}{ap:ι->m aq}(J:∀e g,b0 E k e I g->bc k e->∃(b:ι)(a:a6),a.a=e.a/\b0 E (ap b) a (dD b) g/\bc (ap b) a/\cN k e (ap b) a)(M:∀b,b3 q E s aM (dD b) (ap b)):b3 q E s aM I k:=by intro e g O d C w o B u t;obtain⟨b,a,N,F,z,y⟩:=J e g O d;have A:=y.tooV d;refine .aP (.of d z N A) ?_;exact M b a g F z C w o B u λD K i x j Q p r h=>t D K i x j Q p r (A.trans h)
def g.gM(d){y:aq}(h:ι->aq)(t:k[d]?=f y)(r:∀i L,ey k i y L->∃j,(∀ap,ey ap i (h j) L)/\fM y L (h j) L)(D:∀j,g q E bd (.code s::au) .normal I (k.set d (h j))):g q E bd (.code s::au) .normal I k:=by
 refine b3.e2 (dD:=λ_=>I) (ap:=λj=>k.set d (h j)) (λi M z bP=>?_) D;have O:d<c k:=(cO.1 t).1;have F:d<c i.t:=hY;have A:=bH F;generalize i.t[d]=L at A;obtain⟨j,J,Q⟩:=r i L (bP.box d _ L t A);have w:fq k i (k.set d (h j)) i:=by
  refine⟨λ_ _ _ r=>r,λm o p b e=>?_⟩;by_cases x:d=m
  .subst x;rw[t]at b;cases b;rw[A]at e;cases e;simp_all
  exact⟨o,p,by grind,e,.refl _ _⟩
 have u:cN k i (k.set d (h j)) i:=
  ⟨bC _,λ_ _ _=>rfl,λ_ _ _ r=>r,λ_ _ _ _=>rfl,λL r N C=>.inr ⟨L,r,C⟩,w.box,rfl,rfl,rfl,rfl⟩
 refine⟨j,i,a,⟨z.size,z.defers.imp λ_ B=>B.mono u.ext,λK=>(z.aL K).mono u.ext bP.len⟩,⟨bP.mem,by simp[bP.len],?_,bP.a1,bP.lt,bP.own⟩,u⟩;intro m o p b e;by_cases x:d=m
 .subst x;simp_all
 rw[kA x]at b;exact(bP.box m o p b e).b_ w bP.len λ_ _=>⟨a,λ_=>rfl⟩
def g.gy(d)(b:ι->Y->(Nat->Option Obj)->Prop)(h:k[d]?=f (.K H))(p:∀j a,H j a->∃e,b e j a)(i:∀e,g q E bd (.code s::au) .normal I (k.set d (.K (b e)))):g q E bd (.code s::au) .normal I k:=
 g.gM d (λe=>.K (b e)) h (λr L ⟨a,m,o⟩=>let ⟨e,bp⟩:=p _ _ m;⟨e,λ_=>⟨a,bp,o⟩,rfl⟩) i
def g.gO(d){W h}(a:Nat->m N)(x:k[d]?=f (.q W h j V))(J:∀b,b<j->c (a b)=h)(M:∀A b,b<j->∀(i:Nat) p,(a b)[i]?=f p->∃s,(V b)[i]?=f s/\∀o,Rd A o s->Rd A o p)(y:g q E bd (.code s::au) .normal I (k.set d (.q W h j a))):g q E bd (.code s::au) .normal I k:=by
 refine g.gM (ι:=Unit) d (λ_=>.q W h j a) x (λU L u=>⟨(),λC=>?_,λ_=>rfl,bC _⟩) λ_=>y;rcases u with T|⟨D,Z,z,X,r,t,Y,O,S,B,Q⟩
 .exact .inl T
 refine .inr ⟨D,Z,z,X,r,t,Y,O,S,⟨B.len,J,λb e i p w=>?_⟩,Q⟩;obtain⟨s,aa,R⟩:=M U.D b e i p w;obtain⟨o,K,F⟩:=B.rd b e i s aa;exact⟨o,K,R o F⟩
end
def np:N->Bool
 |.int _ _|.bool _|.T _|.bo|.bD|.dp|.val _=>l
 |_=>v
def nn:R->Bool
 |.c a=>np a
 |.any=>l
 |_=>v
def yq:m R->Bool
 |[]=>l
 |a::b=>match nn a with|true=>yq b|false=>v
def vf:E1->Bool
 |.Q b=>nn b
 |.agg a=>yq a
def yp:m E1->Bool
 |[]=>l
 |a::b=>match vf a with|true=>yp b|false=>v
def yo:y->Bool
 |.n b=>vf b
 |.S a=>yp a
 |.any=>l
section
theorem ve{a}{s}(b:np s=l)(d:Rd bB aa s):Rd a aa s:=by
 cases d<;>first|(simp[np]at b;done)|skip
 case int c5=>exact .int c5
 case bool=>exact .bool
 case T c5 dE=>exact .T c5 dE
 case bo=>exact .bo
 case bD=>exact .bD
 case dp=>exact .dp
 case val c5=>exact .val c5
def JS{a}(d:nn a=l)(e:cA k b aa a):cA ap aA aa a:=by
 cases a with
 |c g=>exact ve d e
 |any=>exact e
 |_=>simp[nn]at d
def JU:∀{z:m Y}{a:m R},yq a=l->bM k b z a->bM ap aA z a
 |[],[],_,_=>trivial
 |[],_::_,_,d=>d.elim
 |_::_,[],_,d=>d.elim
 |i::z,h::a,e,d=>by
  simp[yq]at e;cases g:nn h with
  |false=>grind
  |true=>simp[g]at e;exact⟨JS g d.1,JU e d.2⟩
def CZ{F}(a:vf F=l)(d:ez k b aa F):ez ap aA aa F:=by
 cases F with
 |Q i=>exact JS a d
 |agg h=>obtain⟨z,e,g⟩:=d;exact⟨z,e,JU a g⟩
def JT:∀{z:m Y}{a:m E1},yp a=l->eY k b z a->eY ap aA z a
 |[],[],_,_=>trivial
 |[],_::_,_,d=>d.elim
 |_::_,[],_,d=>d.elim
 |i::z,h::a,e,d=>by
  simp[yp]at e;cases g:vf h with
  |false=>grind
  |true=>simp[g]at e;exact⟨CZ g d.1,JT e d.2⟩
def YZ{a}(d:yo a=l)(e:bx k b aa a):bx ap aA aa a:=by
 cases a with
 |n j=>exact CZ d e
 |S i=>obtain⟨z,g,h⟩:=e;exact⟨z,g,JT d h⟩
 |any=>trivial
end
def qF:m aq->Bool
 |[]=>l
 |.K _::a=>qF a
 |.M::a=>qF a
 |_=>v
def K7:∀{e:m aq},qF e=l->∀a∈e,(∃H,a=.K H)∨a=.M
 |[],_,a,aJ=>by grind
 |b::g,h,a,aJ=>by
  have d:((∃H,b=.K H)∨b=.M)/\qF g=l:=by cases b<;>simp_all[qF]
  rcases e9.1 aJ with rfl|aJ
  .exact d.1
  exact K7 d.2 a aJ
def Aq(i:m aq)(j:Nat)(p:Y)(k o:Nat)(h:Nat->m N):Prop:=
 ∀e,bc i e->∃L d,e.t[j]?=f L/\(∀a b g,e.D a b=f g->d a b=f g)/\(∀a,a∉L.ak->∀b,d a b=e.D a b)/\(∀a b g,d a b=f g->e.a.cell? ⟨a,b,n⟩=f g) /\
  (∀a∈L.ak,∀b,e.D a b=n)/\Rd d p (.B v k o h)
section
variable {q:af P}
def b4.hQ{k}{b}{i}:∀{z:m Y}{a:m y}{S:Nat}{e:Y},b4 k b z a->z[S]?=f e->bx k b e i->b4 k b z (a.set S i)
 |[],[],_,_,_,d,_=>by grind
 |[],_::_,_,_,d,_,_=>d.elim
 |_::_,[],_,_,d,_,_=>d.elim
 |o::z,j::a,0,e,d,h,g=>by simp at h;subst h;exact⟨g,d.2⟩
 |o::z,j::a,S+1,e,d,h,g=>⟨d.1,b4.hQ (S:=S) d.2 M g⟩
def pN(j:m aq)(k g:m y):Prop:=
 ∀e z,bc j e->b4 j e z k->∃(i:Nat->Prop) (d:Mem),(∀a,i a->∃L∈e.t,a∈L.ak)/\(∀a b h,e.D a b=f h->d a b=f h)/\(∀a,¬i a->∀b,d a b=e.D a b) /\
  (∀a b h,d a b=f h->e.a.cell? ⟨a,b,n⟩=f h)/\(∀a,i a->∀b,e.D a b=n)/\b4 j {e with D:=d} z g
def pN.refl(k)(bh):pN k bh bh:=λe z b d=>⟨λ_=>False,e.D,λ_ a=>a.elim,λ_ _ _ a=>a,λ_ _ _=>rfl,b.mem,λ_ a=>a.elim,d⟩
def pN.step{bh e}(I:pN k bh e)(o T){r}{h}(O:e[o]?=f (cL r))(x:Aq k T r h j V):pN k bh (e.set o (ax (.B v h j V))):=by
 classical
 intro q z i y;obtain⟨t,d,aa,Q,W,G,R,B⟩:=I q z i y;obtain⟨L,m,C,H,N,U,X,S⟩:=x q i;have p:∀a b g,d a b=f g->(d a b).or (m a b)=f g:=λa b g s=>by grind
 have w:∀a b g,m a b=f g->(d a b).or (m a b)=f g:=λa b g s=>by
  cases D:d a b with
  |none=>grind
  |some A=>
   grind
 refine⟨λa=>t a∨a∈L.ak,λa b=>(d a b).or (m a b),M,λa b g s=>p a b g (Q a b g s),M,?_,?_,?_⟩
 .intro a b g s;cases D:d a b with
  |none=>grind
  |some A=>grind
 .grind
 have u:fq k {q with D:=d} k {q with D:=λa b=>(d a b).or (m a b)}:=⟨p,λY t L aJ C=>⟨t,L,aJ,C,.refl _ _⟩⟩
 have K:=B.mono u i.len;obtain⟨Z,F⟩:=b4.get B;have E:o<c z:=M;have J:z[o]?=f r:=by have:=F o;rw[O,bH E]at this;have:=Rd.bc (show Rd d z[o] (.val r)from this);grind
 exact K.hQ J (show bx k {q with D:=λa b=>(d a b).or (m a b)} r (ax (.B v h j V))from Rd.mono w S)
end
def cr(j:al)(i:Nat)(e:fp)(g:Nat)(b:m Y):Y->(Nat->Option Obj)->Prop:=λp d=>p=.nilFunc/\(∀q∈b,dQ q=l)/\c b=g*i/\match e with
 |.nil _=>g=0/\d=λ_=>n
 |.row k a=>g<=a/\a<=9223372036854775807/\∃h,c (b++h)=a*i/\d=λo=>if o=k then f (.cells (b++h).toArray j (0,0))else n
def l8(b:Nat)(a:m Y):Nat->m N:=λd=>((a.drop (d*b)).take b).map .val
def Ns{h}{ag}(a:c ag=j*h)(bp:e<j):c (l8 h ag e)=h:=by have:e*h+h<=j*h:=FO;simp[l8,a];omega
def Nr{h}{ag}{s}(b:(l8 h ag e)[u]?=f s):∃a,ag[e*h+u]?=f a/\s=.val a:=by simp[l8,m',iq,pX]at b;grind
def cr.lookup{h cap}{ag}(d:cr W h (.row i cap) j ag aa k6):∃a,c (ag++a)=cap*h/\k6 i=f (.cells (ag++a).toArray W (0,0))/\∀b,(k6 b).isSome=l↔b=i:=by obtain⟨_,_,_,_,_,a,e,g⟩:=d;grind
def Rd.j9{cap h}{ag}(q:∀s∈ag,dQ s=l)(d:c ag=j*h)(g:j<=cap)(p:cap<=9223372036854775807)(u:∀m,bB i m=ag[m]?):Rd bB (.slice (f ⟨i,0,n⟩) j cap) (.B v h j (l8 h ag)):=by refine Rd.er (bB:=bB) (h:=h) (j:=j) (V:=l8 h ag) (z:=ag) (x:=f ⟨i,0,n⟩) (i:=i) (off:=0) (cap:=cap) (o:=v) ⟨d,λr b=>Ns d b,λr b y t e=>?_⟩ bn g p D (λA k w=>by grind);obtain⟨k,a,rfl⟩:=Nr e;exact⟨k,a,.val (q k (b_ a))⟩
section
variable {q:af P}
def cr.fF{h d}{bO}{ag}(e:k[d]?=f (.K (cr W h bO j ag)))(V:Nat->m N)(C:∀a,a<j->c (V a)=h/\∀J b g E,(V a)[b]?=f g->ag[a*h+b]?=f E->Rd J E g):Aq k d (cZ bO j) h j V:=by
 intro q bP;have ab:=(cO.1 e).1;have X:d<c q.t:=hY;have r:=bH X;generalize q.t[d]=L at r;obtain⟨O,H,Q,F,u⟩:=bP.box d _ L e r;cases bO with
 |nil K=>
  obtain⟨_,_,_,rfl,_⟩:=H;exact⟨L,q.D,r,λ_ _ _ S=>S,λ_ _ _=>rfl,bP.mem,u,Rd.dJ⟩
 |row i cap=>
  obtain⟨ai,af,Z,aa⟩:=H.lookup;obtain⟨ah,G,A,U,R,_⟩:=H;have I:=(F i).2 M
  have Y:=Q i _ Z;obtain⟨s,t⟩:=bP.fs (i:=i) (z:=ag) (u i I) (λp ao T=>by
   simp[aH,Y]
   grind)
  refine⟨L,λy p=>if y=i then ag[p]? else q.D y p,r,t,λy aM p=>bj M,s.mem,u,?_⟩;refine Rd.er (h:=h) (j:=j) (V:=V) (z:=ag) (x:=f ⟨i,0,n⟩) (i:=i) (off:=0) (cap:=cap) (o:=v) ⟨A,λa bp=>(C a bp).1,λa bp b g w=>?_⟩ bn U R D (λal an aj=>by grind);have ae:b<h:=M;have B:a*h+b<c ag:=by rw[A];have:a*h+h<=j*h:=FO;omega
  exact⟨ag[a*h+b],bH B,(C a bp).2 _ b g _ w (bH B)⟩
def eg.fu{h}{F aC:ae}(K:jY P r F aC W a4)(aa:a4.size=h){bO}{ag}(T:bD I F=cL (cZ bO j))(Y:k[d]?=f (.K (cr W h bO j ag))){r3}{dG:Nat->m N}(bp:bD I aC=ax (.B r3 h 1 dG)){hX}(bK:c hX=h)(bC:∀bB g (t:Nat) bt,(dG 0)[t]?=f bt->Rd bB g bt->hX[t]?=f g/\dQ g=l)(x:(j+1)*a4.bytes<=140737488355328):
  eg P E r I k (λbf:fp=>cL (cZ bf (j+1))) λbf=>k.set d (.K (cr W h bf (j+1) (ag++hX))):=by
 intro b aD aN bP;obtain⟨bY,t2,a0,bU,Z,A,G,y,R⟩:=K.op;have bl:=(cO.1 Y).1;have au:d<c b.t:=hY;have Q:=bH au;generalize b.t[d]=L at Q;obtain⟨bS,aA,bN,aK,aF⟩:=bP.box d _ L Y Q;have bd:=b_ Q;have al:=eF aN F;rw[T]at al;have al:=Rd.bc al;have S:=eF aN aC;rw[bp]at S;have S:=b7 S;have aM:=aA.2.1;have H:=aA.2.2.1;have bV:∀i,b.a.heap.size<=i->∀r,b.D i r=n:=λi x r=>by
  cases bm:b.D i r with
  |none=>rfl
  |some g=>have:=bP.block bm;omega
 have mk:∀q B cap,cZ bO j=.slice B j cap->cap<j+1->bc (k.map λ_=>.M) {b with D:=q}->(∀e r g,b.D e r=f g->q e r=f g) ->
   Rd q (.slice B j cap) (.B v h j (l8 h ag))->(∀{O},du {b with D:=q} O->du b O) ->
   ∃a0 aw af g,(ab aD.eval r).run P b.a=.ok aw af.a/\(aw=.value g∨(aw=.skip/\g=J))/\bx (k.set d (.K (cr W h a0 (j+1) (ag++hX)))) af g (cL (cZ a0 (j+1)))/\bc (k.set d (.K (cr W h a0 (j+1) (ag++hX)))) af/\cN k b (k.set d (.K (cr W h a0 (j+1) (ag++hX)))) af/\du b ((ab aD.eval r).events P b.a #[]):=by
  intro q B cap aS s aj aG aI ah;have a5:Rd ({b with D:=q}:a6).D (aD.eval aC) (.B r3 a4.size 1 dG):=by rw[aa];exact S.mono aG
  have ai:Rd ({b with D:=q}:a6).D (.slice B j cap) (.B v a4.size j (l8 h ag)):=M;obtain⟨z,u,bq,o,X,f3,f4,f5⟩:=vS (P:=P) (b:={b with D:=q}) (ty:=r.type) A G y R K.elem aj ai a5 s x K.bytes;have f6:=u4 (P:=P) (b:={b with D:=q}) (ty:=r.type) A G y R K.elem aj ai a5 s x K.bytes;rw[aa]at o f4;have bI:=o.len;have bA:c ag+h=(j+1)*h:=M;have aQ:0<h:=by have:=K.size;omega
  have aJ:∀t,t<h->∃g,z[j*h+t]?=f g/\hX[t]?=f g/\dQ g=l:=λt bk=>by
   have aW:=o.bF j w;have aZ:cg j (l8 h ag) dG j=dG 0:=by simp[cg]
   rw[aZ]at aW;obtain⟨g,a1,a2⟩:=o.rd j w t ((dG 0)[t]'w) M;grind
  have aV:z=ag++hX:=by
   apply p4;intro V;by_cases bu:V<c ag
   .have A:V / h<j:=si M;have bF:=ur V h;have aY:=Ns (h:=h) H A;have bz:cg j (l8 h ag) dG (V / h)=l8 h ag (V / h):=by simp[cg,A]
    have aP:V % h<c (l8 h ag (V / h)):=by rw[aY];exact pY _ aQ
    obtain⟨g,a1,a2⟩:=o.rd (V / h) w (V % h) ((l8 h ag (V / h))[V % h]) M;obtain⟨bZ,bW,bX⟩:=Nr (bH aP);grind[Rd.bc]
   grind
  subst aV;have aq:∀F∈hX,dQ F=l:=λF T=>by grind[List.getElem_of_mem]
  let bi:ar:=b.a.drew.alloc (.cells (ag++hX++u).toArray W);have bn:bi.heap[b.a.heap.size]?=f (.cells (ag++hX++u).toArray W (0,0)):=lT b.a.drew _;have bG:bi.heap.size=b.a.heap.size+1:=NN;obtain⟨az,bb⟩:=bP.ca (d:=d) (jZ:=cr W h (.row b.a.heap.size bq) (j+1) (ag++hX)) (cv:=⟨L.v,[b.a.heap.size]⟩) (bi:=bi) Y Q rfl w
   (λi x _=>iV b.a.drew _ x) (λi x=>by grind)
   ⟨λe=>if e=b.a.heap.size then f (.cells (ag++hX++u).toArray W (0,0))else n,⟨aA.1,λF T=>by grind,by grind,X,f3,u,by omega,rfl⟩,λi r x=>by grind,λi=>by by_cases bu:i=b.a.heap.size<;>simp[bu]⟩ a a a
  refine⟨.row b.a.heap.size bq,.value (.slice (f ⟨b.a.heap.size,0,n⟩) (j+1) bq),_,_,?_,.inl a,Rd.val a,az,bb,?_⟩
  .rw[lb Z,al,aS];simp[cJ,dY];exact hy
  grind[lb,iS]
 cases bO with
 |nil B=>
  obtain⟨_,_,_,rfl,_⟩:=aA;refine mk b.D B 0 a D (by have:=bP.dY;omega) (λ_ _ _ K=>K) Rd.dJ (λK=>K)
 |row i cap=>
  obtain⟨u,bM,ao,bh⟩:=aA.lookup;obtain⟨aT,_,_,s,br,_⟩:=aA;have a8:i∈L.ak:=(aK i).2 M;have a':=bN i _ ao;have bs:=aF i a8;have bg:=bP.lt L bd i a8;have aL:∀r g,ag[r]?=f g->b.a.cell? ⟨i,r,n⟩=f g:=by intro r g Z;simp[aH,a'];grind
  obtain⟨aE,an⟩:=bP.fs (i:=i) (z:=ag) bs aL;have ah:∀{O:Array aO},du {b with D:=λe r=>if e=i then ag[r]? else b.D e r} O->du b O:=λbj=>
   bj.gF (i:=i) bd a8 an λe r g al=>by grind
  have aI:=Rd.j9 (bB:=λe r=>if e=i then ag[r]? else b.D e r) (i:=i) (cap:=cap) (ag:=ag) aM H s br (λr=>by simp);by_cases a_:j+1<=cap
  .have a5:Rd ({b with D:=λe r=>if e=i then ag[r]? else b.D e r}:a6).D (aD.eval aC) (.B r3 a4.size 1 dG):=by rw[aa];exact S.mono an
   obtain⟨C,o,X⟩:=D6 (P:=P) (b:={b with D:=λe r=>if e=i then ag[r]? else b.D e r}) (ty:=r.type) (j:=j) (i:=i) (cap:=cap) A G y R K.elem aE a' M a5 a_;have f6:=Cf (P:=P) (b:=b) (ty:=r.type) (j:=j) (i:=i) (cap:=cap) A G y R K.elem bP a' M (F:=aD.eval aC) (r3:=r3) (dG:=dG) M a_ bd a8 (λr _=>bs r);rw[aa]at o X;have aR:c C=h:=by have:=o.len;omega
   have bJ:=o.bF 0 w;have aJ:∀t,t<h->∃g,C[t]?=f g/\hX[t]?=f g/\dQ g=l:=λt bk=>by obtain⟨g,a1,a2⟩:=o.rd 0 w t ((dG 0)[t]'w) (bH w);grind
   have bR:C=hX:=mY;subst bR;have aq:∀F∈C,dQ F=l:=λF T=>by grind[List.getElem_of_mem]
   have bE:j*h+h<=cap*h:=by rw[<-oW];exact g5 _ a_
   have bL:h<=c u:=M;have bQ:((ag++u).take (j*h)++C++(ag++u).drop (j*h+c C))=ag++C++u.drop h:=by rw[<-H,aR];simp
   rw[bQ]at X;have bo:(b.a.setRow i (ag++C++u.drop h).toArray).heap[i]?=f (.cells (ag++C++u.drop h).toArray W (0,0)):=setRow_heap b.a i _ _ W _ a';have av:∀e,e≠i->(b.a.setRow i (ag++C++u.drop h).toArray).heap[e]?=b.a.heap[e]?:=λe a3=>setRow_other b.a i e _ a3;obtain⟨az,bb⟩:=bP.ca (d:=d) (jZ:=cr W h (.row i cap) (j+1) (ag++C)) (cv:=L) (bi:=b.a.setRow i (ag++C++u.drop h).toArray) Y Q rfl D
    (λe a3 bT=>av e M) (λe a3=>.inl a3)
    ⟨λe=>if e=i then f (.cells (ag++C++u.drop h).toArray W (0,0))else n,⟨aT,λF T=>by grind,by grind,a_,br,u.drop h,by grind,rfl⟩,λe r a3=>by grind,λe=>by grind⟩ a a a
   refine⟨.row i cap,.value (.slice (f ⟨i,0,n⟩) (j+1) cap),_,_,?_,.inl a,Rd.val a,az,bb,?_⟩
   .rw[lb Z,al];simp only[cJ,dY,cZ];exact hy
   rw[lb Z,al];exact iS f6
  exact mk _ (f ⟨i,0,n⟩) cap a w aE an aI ah
def g.fu{h}{x y:ae}(D:jY P r x y W a4)(J:a4.size=h){u}(C:r.dst=f u)(K:r.guard=n)(O:fj E r.dst=l){bO}{ag}(M:bD I x=cL (cZ bO j))(i:k[d]?=f (.K (cr W h bO j ag))){p}{b:Nat->m N}(F:bD I y=ax (.B p h 1 b)){hX}(A:c hX=h)(B:∀z s (w:Nat) t,(b 0)[w]?=f t->Rd z s t->hX[w]?=f s/\dQ s=l)(e:(j+1)*a4.bytes<=140737488355328)(o:∀a:fp,g q E bd (.aj all bq::au) .normal ((u,cL (cZ a (j+1)))::I) (k.set d (.K (cr W h a (j+1) (ag++hX))))):g q E bd (.aj all (r::bq)::au) .normal I k:=
 g.cD (ι:=fp) (λa=>cL (cZ a (j+1))) (λa=>k.set d (.K (cr W h a (j+1) (ag++hX)))) K O (.fu D J M i F A B e) λa=>by rw[C];exact o a
def g.jx(o)(W)(h){u}(J:look I o=ax (.B l u 0 V))(t:∀e:fp,g q E bd (.code s::au) .normal ((o,cL (cZ e 0))::I) (k++[.K (cr W h e 0 [])])):g q E bd (.code s::au) .normal I k:=by
 refine b3.e2 (λy K i b=>?_) t;have x:=i.aL o;rw[J]at x;obtain⟨d,w,z,F,_,_,j,_,_⟩:=(b7 x).bZ;have j:=j a;subst j;obtain⟨C,m⟩:=b.bY (bS:=.K (cr W h (.nil d) 0 [])) (L:=⟨.nilFunc,[]⟩) (.refl _ _) rfl b ⟨λ_=>n,⟨rfl,by simp,by simp,rfl,rfl⟩,by simp,by simp,by simp⟩ D;refine⟨.nil d,{y with t:=y.t++[⟨.nilFunc,[]⟩]},rfl,⟨i.size,i.defers.imp λ_ p=>p.mono m.ext,λA=>?_⟩,C,m⟩;simp only[look];cases r:ad o A with
 |false=>exact(i.aL A).mono m.ext b.len
 |true=>
  have B:=dn r;subst B;show Rd _ _ _;rw[F];exact Rd.val a
def g.iA(o d){h}{bO}{ag}(r:Nat->m N)(af:look I o=cL (cZ bO j))(w:k[d]?=f (.K (cr W h bO j ag)))(Z:∀D,D<j->c (r D)=h/\∀X M s V,(r D)[M]?=f s->ag[D*h+M]?=f V->Rd X V s)(K:g q E bd (.code s::au) .normal ((o,ax (.B v h j r))::I) (k.set d .M)):g q E bd (.code s::au) .normal I k:=by
 refine g.aP (λz aj C e=>?_) K;obtain⟨L,t,T,Q,O,ae,R,ai⟩:=cr.fF w r Z z e;have Y:=(cO.1 w).1;have S:=C.aL o;rw[af]at S;have y:=Rd.bc S;have B:fq k z (k.set d .M) {z with D:=t}:=by
  refine⟨Q,λp bS cv b lQ=>?_⟩;by_cases u:d=p
  .subst u;rw[w]at b;cases b;exact⟨.M,cv,by grind,lQ,a⟩
  exact Fc
 have x:cN k z (k.set d .M) {z with D:=t}:=by refine⟨bC _,λ_ _ _=>rfl,Q,λA _ J ab=>O A (J L (b_ T)) ab,λL aa A i=>.inr ⟨L,aa,i⟩,B.box,rfl,rfl,rfl,rfl⟩
 refine⟨{z with D:=t},rfl,⟨C.size,C.defers.imp λ_ F=>F.mono x.ext,λU=>?_⟩,⟨ae,by simp[e.len],?_,e.a1,e.lt,e.own⟩,x⟩
 .simp only[look];cases i:ad o U with
  |false=>exact(C.aL U).mono x.ext e.len
  |true=>
   have u:=dn i;subst u;show Rd _ _ _;grind
 intro p bS cv b lQ;by_cases u:d=p
 .subst u;rw[io Y]at b;cases b;trivial
 rw[kA u]at b;exact(e.box p bS cv b lQ).b_ B e.len λA i=>⟨a,O A λah=>u (e.a1 d p L cv T lQ A ah i)⟩
end
structure eo(h j:Nat)(V:Nat->m N)(ag:m Y):Prop where
 len:c ag=j*h
 ea:∀e,e<j->c (V e)=h
 b2:∀e,e<j->∀u s,(V e)[u]?=f s->∃F,ag[e*h+u]?=f F/\∀bB,Rd bB F s
def eo.rd{h}{ag}(k:eo h j V ag):∀a,a<j->c (V a)=h/\∀bB e d i,(V a)[e]?=f d->ag[a*h+e]?=f i->Rd bB i d:=λa b=>
 ⟨k.ea a b,λbB e d i g p=>by obtain⟨q,m,o⟩:=k.b2 a b e d g;grind⟩
def M5(b:Y):R->R
 |.x 0 _ _ _=>.v b
 |a=>a
def EH(d:Y):E1->E1
 |.Q a=>.Q (M5 d a)
 |b=>b
def EI(a:Y):m E1->m E1
 |[]=>[]
 |b::d=>EH a b::EI a d
def M6(b:Y):y->y
 |.n d=>.n (EH b d)
 |.S a=>.S (EI b a)
 |.any=>.any
def rS(d:Nat):R->Bool
 |.x 0 _ b _=>ad b d
 |a=>nn a
def vE(d:Nat):E1->Bool
 |.Q a=>rS d a
 |b=>vf b
def vF(a:Nat):m E1->Bool
 |[]=>l
 |b::d=>match vE a b with|true=>vF a d|false=>v
def DA(b:Nat):y->Bool
 |.n d=>vE b d
 |.S a=>vF b a
 |.any=>l
section
variable {h:Nat}{L:Loc}
def adW(t:b.t[0]?=f L){e}(d:rS j e=l)(i:cA [aq.x W h j V] b aa e):cA ap aA aa (M5 L.v e):=by
 cases e with
 |c x=>exact ve d i
 |any=>exact i
 |x p u w m=>
  cases p with
  |zero=>
   obtain⟨s,_,g⟩:=i;have g:=g W h j V a;have r:=dn d;obtain⟨q,o,k⟩:=g.2 r.symm;rw[t]at o;cases o;show Rd _ _ _;rw[k];exact .val (k▸s.cell)
  |succ p=>simp[rS,nn]at d
 |ptr=>simp[rS,nn]at d
 |aM=>simp[rS,nn]at d
 |O=>simp[rS,nn]at d
def M8(g:b.t[0]?=f L){F}(d:vE j F=l)(e:ez [aq.x W h j V] b aa F):ez ap aA aa (EH L.v F):=by
 cases F with
 |Q i=>exact adW g d e
 |agg a=>exact CZ (F:=.agg a) d e
def M9(g:b.t[0]?=f L):∀{z:m Y}{a:m E1},vF j a=l->eY [aq.x W h j V] b z a->eY ap aA z (EI L.v a)
 |[],[],_,_=>trivial
 |[],_::_,_,d=>d.elim
 |_::_,[],_,d=>d.elim
 |o::z,k::a,e,d=>by
  simp[vF]at e;cases i:vE j k with
  |false=>grind
  |true=>simp[i]at e;exact⟨M8 g i d.1,M9 g e d.2⟩
def M7(d:b.t[0]?=f L){a}(e:DA j a=l)(g:bx [aq.x W h j V] b aa a):bx ap aA aa (M6 L.v a):=by
 cases a with
 |n o=>exact M8 d e g
 |S m=>obtain⟨z,i,k⟩:=g;exact⟨z,i,M9 d e k⟩
 |any=>trivial
end
def zz:m ResultVar->Bool
 |[]=>l
 |.tmp _::a=>zz a
 |.cell _ _::_=>v
def M_{P}{x}:∀{rs:m ResultVar},zz rs=l->∃z,(∀a,(rs.mapM (ib x)).run P a=Result.ok z a)/\dz P (rs.mapM (ib x))
 |[],_=>⟨[],by simp,by rw[List.mapM_nil];exact .pure⟩
 |.tmp h::g,e=>by
  obtain⟨z,b,d⟩:=M_ (P:=P) (x:=x) (rs:=g) e;refine⟨x.tmps.getD h J::z,λa=>?_,?_⟩
  .simp only[oY,cJ,ib,dY,c8,b]
  rw[oY];exact .bind .pure λ_=>.bind d λ_=>.pure
def ma.tmp{j}{fn}{hA}(r:ma P j hA aa b)(F:P.funcs[j]?=f fn)(C:zz fn.results.toList=l)(o:∀p s t,b.D p s=f t->b.a.cell? ⟨p,s,n⟩=f t):ma P j hA aa aA:=by
 obtain⟨k,m,D,A,d,B,u⟩:=r;have g:d=fn:=M;subst g;let x:Act:={tmps:=hA.tmps,defers:=[]}
 obtain⟨z,k1,w⟩:=M_ (P:=P) (x:=x) C;have h:∀a,(d.results.mapM (ib x)).run P a=Result.ok z.toArray a:=λa=>by grind[Array.mapM_eq_mapM_toList,Sem.run_map,Go.Result.andThen_ok]
 have e:∀a,(results d hA.tmps).run P a=.ok (if r:z.toArray.size=1 then z.toArray[0]else .tuple z.toArray) a:=λa=>by unfold results;rw[cJ];refine(eD (λE=>Result.andThen E _) (h a)).trans ?_;simp
 have i:dz P (results d hA.tmps):=by
  unfold results;have g:dz P (d.results.mapM (ib x)):=by rw[w7];exact .map w
  exact .bind g λ_=>.pure
 have q:=(u b.a o).1;rw[e]at q;cases q;exact⟨k,m,D,A,d,B,λa _=>⟨e a,λg y=>by rw[i a #[]]at y;grind⟩⟩
def X.thaw{aN:af P}[aN.bX]{aS}{args}{res}{h}(B:X aN aS args [] res [.x W h j V]){fn}(al:P.funcs[aS]?=f fn)(aw:zz fn.results.toList=l)(bb:DA j res=l)(aM:∀y,y<j->c (V y)=h/\∀aP∈V y,np aP=l):
  bk (ι:={S:fp×m Y // eo h j V S.2}) aN aS args [] (λS=>M6 (cZ S.1.1 j) res) (λS=>[.K (cr W h S.1.1 j S.1.2)]):=by
 refine⟨B.1,λaz z a2 F bq aR ag=>B.2 az z a2 F bq aR λZ bl aA ar x b d=>?_⟩;have a8:az.t=[]:=jC F.len;have aZ:c aA.t=1:=b.len;obtain⟨L,ba⟩:∃L,aA.t=[L]:=by
  match aeZ:aA.t with
  |[L]=>grind
  |[]=>grind
  |_::_::_=>grind
 have aO:aA.t[0]?=f L:=M;obtain⟨ah,ai⟩:=b.box 0 _ L rfl aO;rcases ai with⟨⟨bd,av⟩,o⟩|⟨i,cap,cells,ae,R,aj,bA⟩
 .subst av;obtain⟨bc,cap,bm,a4,aV,bf,ax,_⟩:=o.bZ;have G:cap=0:=ax a;subst G;let A:a6:={aA with t:=[⟨.nilFunc,[]⟩]}
  have aW:e2 aA A:=⟨rfl,λ_ _ _ B=>B,λ_ _ _=>rfl,b.mem,λi E=>by grind⟩
  have aK:eo h 0 V []:=⟨by simp,λy r=>by omega,λy r=>by omega⟩
  refine .aP aW (ag ⟨(.nil bc,[]),aK⟩ Z bl A (ar.tmp al aw b.mem) ?_ ?_ ?_)
  .have:=M7 (ap:=[aq.K (cr W h (.nil bc) 0 [])]) (aA:=A) aO bb x;rw[a4]at this;exact this
  .refine⟨b.mem,a,λK aL p aJ e=>?_,?_,by grind,λi E=>⟨(b.own i E).1,by grind⟩⟩
   .cases K with
    |zero=>cases aJ;cases e;exact⟨λ_=>n,⟨a,by simp,by simp,a,a⟩,by simp,by simp,by simp⟩
    |succ K=>grind
   grind
  refine⟨d.size,d.a3,d.mem,d.bz,λp e i E=>?_,λK aL p aJ=>by grind,d.os,d.tape,d.output,d.own⟩;grind
 .subst ae;have a_:i∈(⟨.slice (f ⟨i,0,n⟩) j cap,[i]⟩:Loc).ak:=D;have aG:az.a.heap.size<=i:=by
   rcases d.bR _ M i a_ with aa|⟨bo,aa,_⟩
   .exact aa
   grind
  have aT:i<aA.a.heap.size:=b.lt _ M i a_;obtain⟨bw,aQ,C,br,bh,bp,_,ab,a0⟩:=ah.bZ;cases br;have a':c C=j*h:=ab.len;have a5:∀u T,C[u]?=f T->cells[u]?=f T:=λu T J=>by obtain⟨bx,a9,aF,bu⟩:=a0 u T J;cases aF;have:=b.mem _ _ _ bu;simp[aH,R]at this;simpa using this
  have bg:j*h<=c cells:=by rw[aj];exact g5 _ bh
  have aI:cells.take (j*h)=C:=mY;have a3:C++cells.drop (j*h)=cells:=FQ;have aK:eo h j V C:=by refine⟨a',λy r=>(aM y r).1,λy r bz aP I=>?_⟩;obtain⟨T,Q,aD⟩:=ab.rd y r bz aP I;grind[ve]
  have H:∀aE∈C,dQ aE=l:=λaE a7=>by
   obtain⟨u,J,rfl⟩:=g4 a7;have aY:0<h:=M;have r:u / h<j:=si M;have bs:u / h*h+u % h=u:=ur u h;have I:u % h<c (V (u / h)):=by rw[(aM _ r).1];exact pY _ aY
   obtain⟨T,Q,aD⟩:=aK.b2 _ r _ _ (bH I);rw[bs,bH J]at Q;cases Q;exact(aD az.D).cell
  have bn:∀g s k,az.D g s=f k->g≠i:=λg s k au aF=>by have:=F.block au;omega
  let U:Mem:=λg s=>if g=i then n else aA.D g s;let O:a6:={aA with t:=[],own:=λaE=>aA.own aE∨aE=i}
  let aC:a6:={O with D:=U}
  let A:a6:={aA with t:=[⟨.nilFunc,[i]⟩],D:=U}
  have N:∀g s k,U g s=f k->aA.D g s=f k:=λg s k q=>by grind
  have ao:e2 aA O:=⟨rfl,λ_ _ _ B=>B,λ_ _ _=>rfl,b.mem,λg t=>by
   rcases t with(t|t)|⟨p,e,_⟩
   .grind
   .exact .inr ⟨_,by rw[ba];simp;rfl,by grind⟩
   grind⟩
  have an:nR O aC:=⟨rfl,rfl,rfl,N,λg s k q=>by grind⟩
  have bt:e2 aC A:=⟨rfl,λ_ _ _ B=>B,λ_ _ _=>rfl,λg s k q=>b.mem _ _ _ (N _ _ _ q),λg t=>by grind⟩
  refine .aP ao (.b0 af.bX.ok an (.aP bt (ag ⟨(.row i cap,C),aK⟩ Z bl A (ar.tmp al aw b.mem) ?_ ?_ ?_)))
  .exact M7 (L:=⟨.slice (f ⟨i,0,n⟩) j cap,[i]⟩) aO bb x
  .refine⟨λg s k q=>b.mem _ _ _ (N _ _ _ q),a,λK aL p aJ e=>?_,?_,λp e g t=>?_,λg t=>⟨(b.own g t).1,λp e=>?_⟩⟩
   .cases K with
    |zero=>
     cases aJ;cases e;refine⟨λg=>if g=i then f (.cells (C++cells.drop (j*h)).toArray W (0,0))else n,⟨a,H,a',bh,bp,cells.drop (j*h),M,a⟩,λg s t=>M,λg=>?_,λg t s=>?_⟩
     .by_cases aF:g=i<;>simp[aF]
     grind
    |succ K=>grind
   .grind
   .grind
   simp[A]at e;subst e;have:=(b.own g t).2 _ (by rw[ba];simp;rfl);grind
  refine⟨d.size,d.a3,λg s k q=>?_,λg t a1 s=>?_,λp e g t=>?_,λK aL p aJ=>by grind,d.os,d.tape,d.output,d.own⟩
  .simp only[A,U,bj (bn g s k q)];exact d.mem _ _ _ q
  .have:g≠i:=w;simp[A,U,bj this];exact d.bz g t a1 s
  grind
section
variable {q:af P}
def g.iM{d:Prop}(i:∀b,bc k b->d)(j:d->g q E bd (.code s::au) .normal I k):g q E bd (.code s::au) .normal I k:=
 λb e h a=>j (i b a) b e h a
def g.fy{d:Prop}(i:∀b,bc k b->d)(j:d->g q E bd (.aj all bq::au) .normal I k):g q E bd (.aj all bq::au) .normal I k:=
 λb e h a=>j (i b a) b e h a
def cr.len{W}{m e d:Nat}{bO}{ag}(g:k[d]?=f (.K (cr W m bO e ag)))(b)(bP:bc k b):c ag=e*m/\e<=9223372036854775807/\(0<e->∃i a,bO=.row i a)/\∀h,bO=.nil h->e=0:=by
 have o:d<c b.t:=hY;obtain⟨p,j,_⟩:=bP.box d _ _ g (bH o);cases bO with
 |nil h=>obtain⟨_,_,q,rfl,_⟩:=j;grind
 |row i a=>obtain⟨_,_,q,r,s,_⟩:=j;grind
def g.jk(aY:b2 P ac)(F:Nat){w:ae}{e}{eP}{h}{bO}{ag}(cl:r.op=.call {callee:=.builtin .len,args:=#[w],argTypes:=dr})(N:dr[0]?=f o)(s:bZ ac o=f e)(J:e.desc=.slice eP)(R:bD I w=cL (cZ bO j))(t:k[F]?=f (.K (cr W h bO j ag)))(O:r.guard=n)(x:fj E r.dst=l)(u:g q E bd (.aj all bq::au) .normal (ga r.dst (ax (.int .i64 j)) I) k):g q E bd (.aj all (r::bq)::au) .normal I k:=by
 refine g.cD (ι:=Unit) (λ_=>ax (.int .i64 j)) (λ_=>k) O x (λm y K i=>?_) λ_=>u;obtain⟨_,B,_,M⟩:=cr.len t m i;have aj:=eF K w;rw[R]at aj;have aj:=Rd.bc aj;have A:=(aY o e s).run_underlying (p:=m.a);rw[J]at A;have C:dr[0]?=f o:=N;have z:∃d b,cZ bO j=.slice d j b:=by
  cases bO with
  |nil d=>rw[M d rfl];exact⟨d,0,a⟩
  |row Q b=>exact⟨_,b,rfl⟩
 obtain⟨d,b,D⟩:=z;rw[D]at aj;refine⟨(),.value (.int .i64 j),m,.int .i64 j,Rr,.inl a,Rd.int cS,i,.refl _ _,?_⟩;have:(ab y.eval r).events P m.a #[]=#[]:=Rr;rw[this];exact .nil
def vd:m R->Bool
 |[]=>l
 |.c b::a=>match np b with|true=>vd a|false=>v
 |_=>v
def m7(z:m Y)(a:m R):Prop:=c z=c a/\∀(d:Nat)b,a[d]?=f (R.c b)->∃e,z[d]?=f e/\∀g,Rd g e b
def m7.of{k}{b}:∀{z:m Y}{d:m R},vd d=l->bM k b z d->m7 z d
 |[],[],_,_=>⟨rfl,λi o e=>by grind⟩
 |[],_::_,_,g=>g.elim
 |_::_,[],_,g=>g.elim
 |r::z,.c s::d,e,g=>by
  simp[vd]at e;cases j:np s with
  |false=>grind
  |true=>
   simp[j]at e;obtain⟨p,q⟩:=m7.of e g.2;refine⟨by grind,λi o h=>?_⟩;cases i with
   |zero=>simp at h;subst h;exact⟨r,a,λt=>ve j g.1⟩
   |succ i=>grind
 |_::_,.ptr _ _::_,e,_=>by exact cS
 |_::_,.x _ _ _ _::_,e,_=>by exact cS
 |_::_,.aM _::_,e,_=>by exact cS
 |_::_,.O _ _::_,e,_=>by exact cS
 |_::_,.any::_,e,_=>by exact cS
theorem bM.gi{k}{b}:∀{z:m Y}{d:m R},bM k b z d->∀g∈z,AM.dQ g=l
 |[],[],_,g,e=>by grind
 |[],_::_,a,_,_=>a.elim
 |_::_,[],a,_,_=>a.elim
 |i::z,h::d,a,g,e=>by
  rcases e9.1 e with rfl|e
  .exact cA.cell a.1
  exact bM.gi a.2 g e
def eg.eM(aY:b2 P ac)(d){S s:ae}{h cap}{ag}{new}{e}(aq:r.op=.store o S s)(Q:bZ ac o=f e)(R:bD I S=cL (.pointer (f ⟨i,off,n⟩)))(ah:mn (bD I s)=f new)(X:c new=e.size)(O:vd new=l)(u:k[d]?=f (.K (cr W h (.row i cap) j ag)))(Z:off+c new<=c ag):
  eg P E r I k (ι:={z:m Y // m7 z new}) (λ_=>.any) (λz=>k.set d (.K (cr W h (.row i cap) j (ag.take off++z.1++ag.drop (off+c z.1))))):=by
 intro q t K bP;have w:=eF K S;rw[R]at w;have w:=Rd.bc w;have N:=uU ah (eF K s);have V:d<c k:=(cO.1 u).1;have aC:d<c q.t:=hY;have T:=bH aC;generalize q.t[d]=L at T;obtain⟨aJ,C,aN,aH,F⟩:=bP.box d _ L u T;obtain⟨p,ax,aM,U⟩:=cr.lookup C;obtain⟨aI,aP,aw,G,aG,_⟩:=C;have an:i∈L.ak:=(aH i).2 M;have ai:=aN i _ aM;let z:=(t.eval s).cells.toList;have ao:m7 z new:=m7.of O N;have av:c z=c new:=ao.1;have az:off+0+c z<=(ag++p).toArray.size:=M;have al:=run_storeCells_at P i off W z 0 (ag++p).toArray q.a ai az N.cell;simp only[j6]at al;have aA:(ag++p).take off++z++(ag++p).drop (off+c z)=(ag.take off++z++ag.drop (off+c z))++p:=M;rw[aA]at al;have af:c (ag.take off++z++ag.drop (off+c z))=c ag:=M;have aa:=setRow_heap q.a i (ag++p).toArray ((ag.take off++z++ag.drop (off+c z))++p).toArray W (0,0) ai;have y:∀g,g≠i->(q.a.setRow i ((ag.take off++z++ag.drop (off+c z))++p).toArray).heap[g]?=q.a.heap[g]?:=λg A=>setRow_other q.a i g _ A;obtain⟨aj,t2⟩:=bP.ca (d:=d) (jZ:=cr W h (.row i cap) j (ag.take off++z++ag.drop (off+c z))) (cv:=L) (bi:=q.a.setRow i ((ag.take off++z++ag.drop (off+c z))++p).toArray) u T rfl D
  (λg A aL=>y g M) (λg A=>.inl A)
  ⟨λg=>if g=i then f (.cells ((ag.take off++z++ag.drop (off+c z))++p).toArray W (0,0))else n,⟨aI,λS R=>by grind[bM.gi],by grind,G,aG,p,by grind,rfl⟩,λg r A=>by simp_all,λg=>by simp_all⟩ a a a
 have H:(t.eval s).cells.size=e.size:=M;refine⟨⟨z,ao⟩,.skip,_,J,?_,.inr ⟨a,a⟩,B,aj,t2,?_⟩
 .have au:(storeCells ⟨i,off,n⟩ (t.eval s).cells.toList).run P q.a=_:=al;simp[ab,aq,w,Instr.storeAt,Instr.sureAddr,storeVar,(aY o e Q).ba,H,au]
 intro x b;have aK:ab t.eval r=(do storeVar o ⟨i,off,n⟩ (t.eval s);pure .skip):=by simp[ab,aq,w,Instr.storeAt,Instr.sureAddr]
 rw[aK]at b;have aE:x∈(storeCells ⟨i,off,n⟩ (t.eval s).cells.toList).events P q.a #[]:=by
  simp[storeVar,aD,(aY o e Q).ba,H,aF,events_sizeOf,dZ,hv,dm,cJ,c8,Sem.events_pure]at b;generalize(storeCells ⟨i,off,n⟩ (t.eval s).cells.toList).run P q.a=aO at b;cases aO with
  |ok aR bi=>simpa using b
  |halt S bi=>simpa using b
 rcases nj (t.eval s).cells.toList 0 (ag++p).toArray q.a #[] ai az N.cell x aE with ar|⟨aQ,_,_,rfl⟩
 .grind
 exact oa (b_ T) an (F i an _)
def g.eM{ac}(aY:b2 P ac)(d){o}{p s}{W}{h j i cap off}{ag}{new}{e}(y:r.op=.store o p s)(a:bZ ac o=f e)(B:bD I p=cL (.pointer (f ⟨i,off,n⟩)))(x:mn (bD I s)=f new)(u:c new=e.size)(w:vd new=l)(b:k[d]?=f (.K (cr W h (.row i cap) j ag)))(t:off+c new<=c ag)(A:r.guard=n)(C:fj E r.dst=l)(m:∀z,m7 z new->g q E bd (.aj all bq::au) .normal (ga r.dst .any I) (k.set d (.K (cr W h (.row i cap) j (ag.take off++z++ag.drop (off+c z)))))):g q E bd (.aj all (r::bq)::au) .normal I k:=
 g.cD _ _ A C (eg.eM aY d y a B x u w b t) λz=>m z.1 z.2
def g.swap(e u){i j:Y->(Nat->Option Obj)->Prop}(ar:e≠u)(z:k[e]?=f (.K i))(A:k[u]?=f (.K j))(K:∀T p,i T p->T=.nilFunc)(al:∀T p,j T p->T=.nilFunc)(V:g q E bd (.code s::au) .normal I ((k.set e (.K j)).set u (.K i))):g q E bd (.code s::au) .normal I k:=by
 refine g.aP (λo ax aa bP=>?_) V;have N:e<c k:=(cO.1 z).1;have R:u<c k:=(cO.1 A).1;have an:e<c o.t:=hY;have aq:u<c o.t:=hY;obtain⟨x,ae⟩:∃L,o.t[e]?=f L:=⟨_,bH an⟩;obtain⟨C,ag⟩:∃L,o.t[u]?=f L:=⟨_,bH aq⟩;have y:=bP.box e _ x z ae;have ab:=bP.box u _ C A ag;have aw:x.v=.nilFunc:=by obtain⟨p,G,_⟩:=y;grind
 have H:C.v=.nilFunc:=by obtain⟨p,G,_⟩:=ab;grind
 let m:a6:={o with t:=(o.t.set e C).set u x}
 have af:∀b,((k.set e (.K j)).set u (.K i))[b]?=if b=u then f (.K i)else if b=e then f (.K j)else k[b]?:=λb=>by grind
 have W:∀b,m.t[b]?=if b=u then f x else if b=e then f C else o.t[b]?:=λb=>by grind
 have Z:∀L∈m.t,L∈o.t:=λL h=>by grind
 have r:fq k o ((k.set e (.K j)).set u (.K i)) m:=by
  refine⟨λ_ _ _ J=>J,λb U L aJ h=>?_⟩;rw[af,W];by_cases w:b=u
  .subst w;rw[A]at aJ;cases aJ;rw[ag]at h;cases h;exact⟨.K i,x,by simp,by simp,by show x.v=_;grind⟩
  by_cases O:b=e
  .subst O;rw[z]at aJ;cases aJ;rw[ae]at h;cases h;exact⟨.K j,C,by simp[w],by simp[w],by show C.v=_;grind⟩
  exact⟨U,L,by grind,by grind,.refl _ _⟩
 have X:cN k o ((k.set e (.K j)).set u (.K i)) m:=by exact⟨bC _,λ_ _ _=>rfl,λ_ _ _ J=>J,λ_ _ _ _=>rfl,λL J t d=>.inr ⟨L,Z L J,d⟩,r.box,rfl,rfl,rfl,rfl⟩
 refine⟨m,a,⟨aa.size,aa.defers.imp λ_ K=>K.mono r,λao=>(aa.aL ao).mono r bP.len⟩,⟨bP.mem,by simp[m,bP.len],?_,?_,λL h t d=>bP.lt L (Z L h) t d,λt d=>⟨(bP.own t d).1,λL h=>(bP.own t d).2 L (Z L h)⟩⟩,X⟩
 .intro b U L aJ h;rw[af]at aJ;rw[W]at h;split at aJ
  .rename_i w;rw[bo w]at h;cases aJ;cases h;exact y
  rename_i w;rw[bj w]at h;split at aJ
  .rename_i O;rw[bo O]at h;cases aJ;cases h;exact ab
  rename_i O;rw[bj O]at h;exact(bP.box b U L aJ h).b_ r bP.len λt d=>⟨a,λ_=>rfl⟩
 intro b B D F Q S t d M;rw[W]at Q S;have key:∀b L,(if b=u then f x else if b=e then f C else o.t[b]?)=f L->o.t[if b=u then e else if b=e then u else b]?=f L:=λb L az=>by grind
 have:=bP.a1 _ _ D F (key b D Q) (key B F S) t d M;by_cases ah:b=u<;>by_cases ai:B=u<;>by_cases aj:b=e<;>by_cases av:B=e<;>simp_all
def g.jv(aY:b2 P ac){S T:ae}{e}{H U}(aD:r.op=.makeSlice o S T)(ah:bZ ac o=f e)(aL:e.desc=.slice W)(aa:bZ ac W=f a4)(al:bD I S=ax (.int H j))(an:bD I T=ax (.int U j))(i:j*a4.bytes<=140737488355328)(aT:j<=140737488355328)(ag:r.guard=n)(af:fj E r.dst=l)(aq:∀A d,g q E bd (.aj all bq::au) .normal (ga r.dst (cL (cZ (.row A j) j)) I) (k++[.K (cr W a4.size (.row A j) j d)])):g q E bd (.aj all (r::bq)::au) .normal I k:=by
 refine g.cD (ι:=Nat×m Y) (λx=>cL (cZ (.row x.1 j) j)) (λx=>k++[.K (cr W a4.size (.row x.1 j) j x.2)]) ag af (λb V aC s=>?_) λx=>aq x.1 x.2;have J:=eF aC S;rw[al]at J;have J:=b7 J;generalize az:V.eval S=aN at J;cases J;have K:=eF aC T;rw[an]at K;have K:=b7 K;generalize y:V.eval T=aO at K;cases K;have ao:=(aY o e ah).eb;rw[aL]at ao;obtain⟨B,O,Q,aP,aQ,aA,br,aR,aS⟩:=(aY W a4 aa).cX;have C:(B.bytes:Int)*(j:Int)<=281474976710656:=M;have aH:=run_make (P:=P) (w:=b.a) o W B O ao Q aA H U j j w (Int.le_refl _) C w;simp[cY]at aH;let d:=(madeCells O.cells (j*B.size)).toList;have G:c d=j*a4.size:=by grind[size_madeCells]
 have aE:∀F∈O.cells.toList,dQ F=l:=bM.gi (ug (k:=k) (b:=b) br);have aG:c O.cells.toList=a4.size:=N2;have aK:∀F∈d,dQ F=l:=by intro F aj;simp[d,madeCells,Array.toList_map,hn]at aj;grind[Nat.mod_lt]
 have aJ:ey (k++[.K (cr W a4.size (.row b.a.heap.size j) j d)]) {b with a:=b.a.alloc (.cells d.toArray W),t:=b.t++[⟨.nilFunc,[b.a.heap.size]⟩]} (.K (cr W a4.size (.row b.a.heap.size j) j d)) ⟨.nilFunc,[b.a.heap.size]⟩:=by
  refine⟨λR=>if R=b.a.heap.size then f (.cells (d++[]).toArray W (0,0))else n,⟨a,aK,G,bC _,by omega,[],by grind,a⟩,λR r C=>?_,λR=>?_,λR C r=>?_⟩
  .by_cases t:R=b.a.heap.size
   .subst t;simp[dv]at C;grind[lT]
   grind
  .by_cases t:R=b.a.heap.size<;>simp[t]
  simp at C;subst C;cases u:b.D b.a.heap.size r with
  |none=>rfl
  |some F=>have:=s.block u;omega
 have N:bc k {b with a:=b.a.alloc (.cells d.toArray W)}/\cN k b k {b with a:=b.a.alloc (.cells d.toArray W)}:=
  s.cW D (λA i=>iV b.a _ i) (λA i r=>rfl) (λA i r F u=>by have:=s.block u;omega) a a a
 obtain⟨X,Z⟩:=N.1.bY N.2 rfl s aJ (λA i=>by simp_all);refine⟨(b.a.heap.size,d),.value (.slice (f ⟨b.a.heap.size,0,n⟩) j j),_,_,?_,.inl a,Rd.val a,X,Z,?_⟩
 .simp[ab,aD,az,y,aH,d]
 have t:ab V.eval r=(do pure (.value (<-Instr.makeSlice o (.int H j) (.int U j)))):=by simp[ab,aD,az,y]
 rw[t];refine iS ?_;intro t z;have ai:∀h,(underlying o).run P h=.ok (.slice W) h:=λh=>by simp[underlying,ao]
 have aI:∀h,(typeInfo W).run P h=.ok B h:=λh=>by simp[typeInfo,Q]
 have L:∀h,(zeroValue W).run P h=.ok O h:=λh=>by simp[zeroValue,typeInfo,Q,aA]
 have aM:∀h,(sizeOf W).run P h=.ok B.size h:=λh=>by simp[sizeOf,typeInfo,Q]
 have aw:IntKind.i64.wrap (j:Int)=j:=by grind[IntKind.wrap_i64]
 have ar:¬(j:Int)<0:=w;have av:¬(281474976710656<(B.bytes:Int)*j):=w;simp[Instr.makeSlice,ai,aI,aM,asInt,asIntOf,aw,ar,av]at z;rw[L]at z;simp[aF,(dz.newRow (P:=P)) _ _,ite_self]at z;unfold askRoom at z;split at z
 .have:t=⟨.mark .noRoom,v,l⟩:=by simpa using z
  rw[this];exact .inl a
 simp at z
end
section
variable {h O:Nat}{bz:Y}
end
def YY{a z:m α}{b}(g:b+c z<=c a)(d):(a.take b++z++a.drop (b+c z))[d]?=if b<=d/\d<b+c z then z[d-b]? else a[d]?:=by have e:c (a.take b)=b:=M;grind
def eo.fc{h}{d:Nat->m N}{ag}{new}(k:eo h j V ag)(e u)(bp:e<j)(r:m7 z new)(D:u+c new<=h)(C:∀a,a<j->a≠e->d a=V a)(x:c (d e)=h)(q:∀b g,(d e)[b]?=f g->(u<=b/\b<u+c new/\new[b-u]?=f (R.c g))∨(¬(u<=b/\b<u+c new)/\(V e)[b]?=f g)):eo h j d (ag.take (e*h+u)++z++ag.drop (e*h+u+c z)):=by
 have J:e*h+h<=j*h:=FO;have I:=r.1;have E:=k.len;have s:e*h+u+c z<=c ag:=w;refine⟨by grind,λa i=>?_,λa i b g B=>?_⟩
 .by_cases o:a=e
  .grind
  rw[C a i o];exact k.ea a i
 rw[YY s];by_cases o:a=e
 .subst o;rcases q b g B with⟨c5,dE,p⟩|⟨c5,dE⟩
  .rw[bo w,show a*h+b-(a*h+u)=b-u by omega];exact r.2 _ g p
  rw[bj w];exact k.b2 a i b g dE
 have A:(V a)[b]?=f g:=M;have F:b<h:=by rw[<-k.ea a i];grind
 rw[bj ?_]
 .exact k.b2 a i b g A
 rcases Nat.lt_or_gt_of_ne o with y|t
 .have:a*h+h<=e*h:=by rw[<-oW];exact g5 _ y
  omega
 have:e*h+h<=a*h:=by rw[<-oW];exact g5 _ t
 omega
def eo.gC{h}{a:Nat->m N}{ag}(g:eo h j V ag)(s:∀b,b<j->a b=V b)(t:c (a j)=h)(y:c z=h)(B:∀(d:Nat)e,(a j)[d]?=f e->∃o,z[d]?=f o/\∀p,Rd p o e):eo h (j+1) a (ag++z):=by
 have u:=g.len;refine⟨by grind,λb k=>?_,λb k d e A=>?_⟩
 .by_cases r:b=j
  .grind
  rw[s b w];exact g.ea b w
 by_cases r:b=j
 .grind
 have i:b<j:=w;have q:(V b)[d]?=f e:=M;have x:d<h:=by rw[<-g.ea b i];grind
 have:b*h+h<=j*h:=by rw[<-oW];exact g5 _ i
 rw[j3 w];exact g.b2 b i d e q
def pu(b:m (Nat×cp))(a:bJ):m ResultVar->Option (m y)
 |[]=>f []
 |.tmp i::h=>match pu b a h with
  |some g=>f (look a i::g)
  |none=>n
 |.cell d i::h=>match pu b a h with
  |some g=>match look a d with
   |.n (.Q (.c (.R e)))=>match bZ b i with
    |some k=>match hh k (e.map R.c)with
     |some j=>f (.n j::g)
     |none=>n
    |none=>n
   |_=>n
  |none=>n
def D3{P}{ac}(aY:b2 P ac){E}{k}{b}{I}{V}(ab:b0 E k b I V):∀{S:m ResultVar}{d:m y},pu ac I S=f d ->
  ∃z,b4 k b z d/\∀p,(∀i C T,b.D i C=f T->p.cell? ⟨i,C,n⟩=f T)->(S.mapM (ib V)).run P p=Result.ok z p/\∀q,∀A∈(S.mapM (ib V)).events P p q,A∈q∨∃i C T,A=⟨.cell ⟨i,C,n⟩,v,v⟩/\b.D i C=f T
 |[],d,o=>by cases o;exact⟨[],B,λp _=>⟨by simp,λq A r=>.inl (by simpa using r)⟩⟩
 |.tmp x::an,d,o=>by
  simp[pu]at o;cases W:pu ac I an with
  |none=>grind
  |some aJ=>
   simp[W]at o;subst o;obtain⟨z,af,aM⟩:=D3 aY ab W;refine⟨V.tmps.getD x J::z,⟨ab.aL x,af⟩,λp D=>?_⟩;obtain⟨k1,Q⟩:=aM p D;refine⟨by simp[oY,cJ,ib,dY,c8,k1],λq A r=>Q q A ?_⟩;simpa[oY,ib,k1]using r
 |.cell u x::an,d,o=>by
  simp[pu]at o;cases W:pu ac I an with
  |none=>grind
  |some aJ=>
   simp[W]at o;have Z:=ab.aL u;generalize look I u=aO at o Z;split at o
   case h_2=>cases o
   rename_i e;cases K:bZ ac x with
   |none=>grind
   |some t=>
    simp[K]at o;cases O:hh t (e.map R.c)with
    |none=>grind
    |some ag=>
     simp[O]at o;subst o;obtain⟨z,af,aM⟩:=D3 aY ab W;have G:=b7 Z;generalize aG:V.tmps.getD u J=aL at G;cases G;rename_i i h X N aq;let U:=(aB (c e)).map X;have H:bM k b U (e.map R.c):=by
      have key:∀j d,(∀g aa,d[g]?=f aa->Rd b.D (X (j+g)) aa)->bM k b ((aB (c d)).map λg=>X (j+g)) (d.map R.c):=by
       intro j d;induction d generalizing j with
       |nil=>intro _;trivial
       |cons aI d aj=>
        intro Y;rw[fh,wS];refine⟨Y 0 aI a,?_⟩;have:=aj (j+1) (λg aa w=>by have:=Y (g+1) aa M;grind);grind[Function.comp_def]
      have:=key 0 e M;grind
     have ax:∀g s,U[g]?=f s->b.D i (h+g)=f s:=λg s w=>by
      simp[U,m']at w;by_cases av:g<c e
      .simp[av]at w;subst w;exact N g e[g] (bH av)
      grind
     let aN:ar:={b.a with heap:=b.a.heap}
     have aw:∃s,ez k b s ag/\∀p,(∀i C T,b.D i C=f T->p.cell? ⟨i,C,n⟩=f T)->(loadVar x ⟨i,h,n⟩).run P p=.ok s p:=by
      have ae:=aY x t K;cases F:t.agg<;>simp[hh,F]at O
      .cases au:c_ 0 (e.map R.c)with
       |none=>grind
       |some aH=>
        simp[au]at O;subst O;obtain⟨s,ai,aC⟩:=H.get (et au);refine⟨s,aC,λp D=>?_⟩;have:=D _ _ _ (ax 0 s ai);simp[loadVar,cJ,ae.ew,c8,F];grind[run_load]
      cases au:mV t.size (e.map R.c)with
      |none=>grind
      |some r0=>
       simp[au]at O;subst O;obtain⟨al,aK⟩:=tJ au;have ao:=H.take t.size;rw[<-al]at ao;have ah:c (U.take t.size)=t.size:=M;refine⟨.agg (U.take t.size).toArray,⟨U.take t.size,a,ao⟩,λp D=>?_⟩;have L:=run_loadCells_list (P:=P) p ⟨i,h,n⟩ (U.take t.size) (λg s w=>by grind[g0]);rw[ah]at L;simp[loadVar,cJ,ae.ew,c8,F];simp[ae.ba,L]
     obtain⟨s,aA,aE⟩:=aw;refine⟨s::z,⟨aA,af⟩,λp D=>?_⟩;obtain⟨k1,Q⟩:=aM p D;have az:(ib V (.cell u x))=loadVar x ⟨i,h,n⟩:=by simp[ib,aG,asAddr]
     refine⟨by grind[Go.Sem.run_bind,Go.Sem.run_pure,Go.Result.andThen_ok],λq A r=>?_⟩;rw[oY,az]at r;simp[aD,aE p D,aF,k1,Sem.events_pure]at r;rcases Q _ A r with r|r
     .rcases Dp r with r|r
      .grind
      obtain⟨g,w,rfl⟩:=o8 (aY x t K) (p:=p) (j:=c e) (λg w=>⟨X g,D _ _ _ (N g e[g] (bH w))⟩) (by have:=r4 O;grind) A r;exact .inr ⟨i,h+g,X g,a,N g e[g] (bH w)⟩
     grind
theorem oQ.e'(aY:b2 P ac){fn}{bh}{o}(t:pu ac I fn.results.toList=f bh)(k:pf bh=f o):oQ P fn I o:=by
 intro A B x g r;obtain⟨z,i,j⟩:=D3 aY r t;refine⟨_,Kj k i,λe s=>?_⟩;obtain⟨k1,u⟩:=j e s;have h:(fn.results.mapM (ib g)).run P e=Result.ok z.toArray e:=Rt;have q:∀a,∀d∈(fn.results.mapM (ib g)).events P e a,d∈a∨∃m p y,d=⟨.cell ⟨m,p,n⟩,v,v⟩/\x.D m p=f y:=by rw[w7];intro a d b;exact u a d (by simpa using b)
 constructor
 .unfold results;rw[cJ];refine(eD (λw=>Result.andThen w _) (Eq.trans ?_ h)).trans ?_
  .congr 2
  simp
 intro d b;have C:d∈(fn.results.mapM (ib g)).events P e #[]:=by unfold results at b;rw[aD]at b;change d∈((fn.results.mapM (ib g)).run P e).evThen ((fn.results.mapM (ib g)).events P e #[]) _ at b;rw[h]at b;simpa using b
 grind
section
variable {q:af P}
def tp(h:m (Nat×cp))(e:m ResultVar)(b:m Nat)(g:bJ)(a:y):Option (m Prop):=
 match pu h g e with
 |some d=>match pf d with
  |some i=>match hO (c b) a with
   |true=>kj i (fc b a)
   |false=>n
  |none=>n
 |none=>n
def g.b8(aY:b2 P ac){fn}{d}{res}(aV)(e:tp ac fn.results.toList aV I res=f Z)(o:U Z)(m:dx aV k=f ap)(j:l3 ap=l)(i:fb aV=l)(h:∀b,b<d->aV[b]?=f b):
  g q E (k0 P fn d res ap) (.code .ret::au) .normal I k:=by refine g.ret ⟨.inl a,aV,?_⟩;unfold tp at e;grind[oQ.e']
def X.bA{i}{fn}{args}{res}(h:P.funcs[i]?=f fn)(e:(fn.name== "runtime.NumGoroutine")=v)(d:fn.body=f s)(m:ay args.length fn.ntmps=l)(o:kw args k->g q fn.ntmps (k0 P fn k.length res ap) [.code s] .normal (h2 0 args) k):X q i args k res ap:=by refine⟨⟨fn,h,e,by grind⟩,λj z b a=>?_⟩;have:=bk.jb (q:=q) (ι:=Unit) (ap:=λ_=>ap) (res:=λ_=>res) h e d (fs m) (b3.mono (g.aO (o ⟨j,z,b,a⟩)) λ_ _ _ p=>⟨(),p⟩);exact this.toX.2 j z b a
def bY.mk{fn}{d}{res}(aV)(e:pv fn.results.toList aV I res=f Z)(m:U Z)(j:dx aV k=f ap)(i:l3 ap=l)(h:fb aV=l)(g:∀b,b<d->aV[b]?=f b):bY fn d res ap .ret I k:=by refine⟨.inl a,aV,?_⟩;unfold pv at e;grind
end
def Gy{t:af P}{i:aG}{h}{x}{bq}{E}(I:i.kind≠.early)(o:aQ[e]?=f r)(W:aP r (yielded aQ x.tmps)=l)(F:bc k b)(S:∀u,(ab x.eval r).run P u=.ok (.enter E z.toArray) u)(Q:∀u,(ab x.eval r).events P u #[]=#[])(V:bk t E cQ k res aS)(K:b4 k b z cQ)(M:∀m q g,bx (aS m) g q (res m)->bc (aS m) g->df k b (aS m) g->cf t br (G (i.ab (x.put r.dst q) (.inRegion aQ bq::h)) ah) g):
  cf t br (G (i.ab x (.inRegion aQ (e::bq)::h)) ah) b:=by
 obtain⟨_,O⟩:=V;refine .next a λD U=>?_;have C:=t.bH U;have A:=F.rely C;have J:b4 k D z cQ:=K.mono C.aU.ext F.len;refine⟨_,D,_,tw o W I (S D.a),?_,O _ z J A br _ λm N q T y j d p=>?_⟩
 .refine⟨⟨k,k,A,A,.refl _ _⟩,du.seen ?_⟩;rw[Q];exact .nil
 refine uG (ah:=ah) (s:=i.ab x (.inRegion aQ (e::bq)::h)) d y λR w=>?_;have B:=qk (i:=i) (x:=x) (h:=h) aQ e bq q;rw[o]at B;simp only[nX]at B;rw[B];exact M m q R (j.mono w.aU.ext d.len) (d.rely w) (C.aU.trans (p.trans w.aU))
def g.cK{t:af P}{Y:a0}(ae:bk t Y cQ k res aS)(aH:r.guard=n)(o:r.op=.call {callee:=.value cP,args:=ag,argTypes:=dr})(s:g1 (bD I cP)=f (Y,cap))(aA:lY (ag.toList.map (bD I)++e' cap) cQ=f Z)(y:U Z)(H:fj E r.dst=l)(az:∀d,g t E bd (.aj all bq::au) .normal (ga r.dst (res d) I) (aS d)):g t E bd (.aj all (r::bq)::au) .normal I k:=by
 intro ai W q e aq O w ao idx i a C;cases idx with
 |nil=>exact a.elim
 |cons aJ idx=>
 obtain⟨D,a⟩:=a;have ah:=eF q cP;unfold g1 at s;split at s
 case h_2=>cases s
 case h_1 u7 uT he=>
  cases s;rw[he]at ah;have aa:=b7 ah;generalize V:W.eval cP=aw at aa;cases aa with
  |fn z b J m av x ax A aF Q=>
   have N:z=[]:=jC J;subst N;have aC:b4 k ai b (e' cap):=qc (λd ar F=>⟨x d,A d M,Q d ar F⟩) m;have aE:b4 k ai (ag.toList.map W.eval++b) cQ:=s5 aA y ((m6 (eF q) ag.toList).append aC);obtain⟨fn,aj,ab,X⟩:=ae.1;refine Gy i D (i6 aH) e (λT=>(mM o aj ab X V T).1) (λT=>(mM o aj ab X V T).2) ae aE λd aK S K j h=>?_;refine az d S _ ?_ j aq O w ao idx i a λan R G u aD f3 B p=>C an R G u aD f3 B (h.trans p);have al:=k9 H;cases aI:r.dst with
   |none=>exact q.mono h e.len
   |some aG=>exact(q.mono h e.len).put (al aG aI) K
def Mg{k:Type}{d}{F}:∀{a:m Nat}{e h:m k},dx a e=f h->d∉a->dx a (e.set d F)=f h
 |[],e,h,b,_=>b
 |o::a,e,h,b,i=>by
  simp[e9,not_or]at i;simp[dx,ld]at b⊢;rw[kA i.1];cases g:e[o]? with
  |none=>simp[g]at b
  |some q=>
   simp[g]at b⊢;cases j:dx a e with
   |none=>simp[j]at b
   |some p=>rw[Mg j i.2];simp only[j]at b;exact b
def KE{h}{d}(b:ek h d=v):h∉d:=λa=>by rw[vy a]at b;cases b
def yN:Option (Tmp×E1)->m ResultVar
 |none=>[]
 |some a=>[.tmp a.1]
def K2(a:m R):Option (Tmp×E1)->y
 |none=>.n (.agg a)
 |some b=>.S [.agg a,b.2]
def ui(w:m (Nat×cp))(fn:Func)(x:Nat)(b:y)(h:m aq):fw:=λs r d=>
 (s=.ret∨s=.normal)/\∃a o u e t j g i,∃p:Option (Tmp×E1),(∀q,p=f q->look r q.1=.n q.2)/\fn.results.toList=.cell t j::yN p/\bZ w j=f g/\g.agg=l/\c e=g.size/\look r t=aI o 0/\d[o]?=f (.cells u e)/\o∉a /\
  kj (K2 e p) (fc a b)=f i/\U i/\hO (c a) b=l/\dx a d=f h/\l3 h=l/\fb a=l/\(∀k,k<x->a[k]?=f k)
def bk.jC{q:af P}(aY:b2 P ac){a1}{fn}{args}{ap:ι->m aq}(rD:P.funcs[a1]?=f fn)(aL:(fn.name== "runtime.NumGoroutine")=v)(cT:fn.body=f s)(bO:args.length<=fn.ntmps)(a3:∀b b7,b0 fn.ntmps k b (h2 0 args) b7->bc k b->∀i b' S (aW:ai->a6->Prop),i.kind≠.early->i.roundOf=n ->
  (∀C ae K aA aZ,(∃t,ui ac fn (c k) (res t) (ap t) C ae K)->b0 fn.ntmps K aA ae aZ->bc K aA->df k b K aA->kG q aW i b' S C aZ aA)->cf q aW (G (i.ab b7 (.code s::b')) S) b):bk q a1 args k res ap:=by
 refine⟨⟨fn,rD,aL,by rw[cT];rfl⟩,λb z bQ bL aW S bI=>?_⟩;obtain⟨bN,bK⟩:=b4.get bQ;let i:aG:={fn:=a1,tmps:=#[],todo:=[],defers:=[],mode:=.run,kind:=.normal,roundOf:=n}
 have ca:Frame.enter P a1 z.toArray .normal=i.ab {tmps:=z.toArray++Array.replicate (fn.ntmps-z.toArray.size) J,defers:=[]} [.code s]:=NT;rw[ca];refine a3 b {tmps:=z.toArray++Array.replicate (fn.ntmps-z.toArray.size) J,defers:=[]} ⟨by simp;omega,⟨[],B⟩,λaI=>?_⟩ bL i [] S aW (by simp[i]) rfl ?_
 .rw[yB];simp only[gZ,dv,sm];have:=bK aI;rcases dT aI (c z) with b9|b8
  .have C:(z.toArray++Array.replicate (fn.ntmps-z.toArray.size) J).getD aI J=(z[aI]?).getD J:=FL;rw[C];exact this
  rw[wT w];trivial
 .rintro C ae aK e ky ⟨aj,V,aV,d,W,aF,aI,ty,it,Z,r,bS,aQ,aR,tj,DV,bT,bd,bU,bB,bD,bE,a4,a7,bF,cg⟩ f0 O bf;obtain⟨a5,a8⟩:=Lx a7;have R:=f0.aL aI;rw[bT]at R;obtain⟨_,L,d6,E,a_,aN⟩:=R;obtain⟨cc,A,a9,cb,b5,ck⟩:=O.box d _ L bd E;subst a9;cases a_;let cj:Mem:=λy r=>if y=d6 then A[r]? else e.D y r;have bo:∀r u,A[r]?=f u->e.a.cell? ⟨d6,r,n⟩=f u:=λr u bP=>by simpa[aH,cb]using bP
  have az:∀y r u,e.D y r=f u->cj y r=f u:=λy r u X=>by grind
  have ar:∀y r u,cj y r=f u->e.a.cell? ⟨y,r,n⟩=f u:=λy r u X=>by
   by_cases C:y=d6
   .grind
   simp[cj,C,dm]at X;exact O.mem y r u X
  obtain⟨U,H⟩:=O.b7 (cj:=cj) (bi:=e.a) (eb:=.M) (cv:=⟨.pointer (f ⟨d6,0,n⟩),[]⟩) bd E rfl (bC _) (λ_ _ _=>rfl) (λy _ aM r=>by grind) az ar D rfl rfl rfl B
  have al:e2 e ⟨e.t.set d ⟨.pointer (f ⟨d6,0,n⟩),[]⟩,cj,e.a,e.own⟩:=⟨rfl,az,λy aM r=>by
   have:y≠d6:=by rintro rfl;exact aM _ (b_ E) D
   simp[cj,this,dm],ar,λy aM=>by grind⟩
  have bz:b0 fn.ntmps (aK.set d .M) ⟨e.t.set d ⟨.pointer (f ⟨d6,0,n⟩),[]⟩,cj,e.a,e.own⟩ ae ky:=⟨f0.size,f0.defers.imp λ_ bA=>bA.mono H.ext,λI=>(f0.aL I).mono H.ext O.len⟩
  have ag:=Mg (F:=aq.M) a4 bU;have aO:bM (aK.set d .M) ⟨e.t.set d ⟨.pointer (f ⟨d6,0,n⟩),[]⟩,cj,e.a,e.own⟩ A aF:=b5.mono H.ext O.len;have bX:=bf.trans (H.tooV O);let bn:Y:=match r with|none=>.agg A.toArray|some bb=>.tuple #[.agg A.toArray,ky.tmps.getD bb.1 J]
  have b3:∀p,(∀i r I,cj i r=f I->p.cell? ⟨i,r,n⟩=f I)->(results fn ky.tmps).run P p=.ok bn p/\∀C∈(results fn ky.tmps).events P p #[],∃i r I,C=⟨.cell ⟨i,r,n⟩,v,v⟩/\cj i r=f I:=by
   intro p aP;have bp:=aY ty it aR;have aD:c A=it.size:=by rw[b5.cJ,DV]
   have ao:∀t u,A[t]?=f u->p.cell? ⟨d6,0+t,n⟩=f u:=λt u x=>aP _ _ _ M;have a:=run_loadCells_list (P:=P) p ⟨d6,0,n⟩ A (λt u x=>by rw[g0];exact ao t u x);rw[aD]at a;have ax:(loadVar ty ⟨d6,0,n⟩).run P p=.ok (.agg A.toArray) p:=by simp[loadVar,cJ,bp.ew,c8,tj];simp[bp.ba,a]
   have b6:fn.results=(ResultVar.cell aI ty::yN r).toArray:=by apply Array.ext';simpa using aQ
   have b1:asAddr (ky.tmps[aI]?.getD J)=(pure ⟨d6,0,n⟩:Sem Addr):=by rw[<-hu,aN];rfl
   refine⟨by cases r<;>simp[results,b6,b1,ax,bn,yN],λC V=>?_⟩;have a':C∈(loadVar ty ⟨d6,0,n⟩).events P p #[]:=by cases r<;>simpa[results,b6,b1,ax,yN]using V
   obtain⟨t,x,rfl⟩:=o8 bp (p:=p) (j:=c A) (λt x=>⟨_,ao t A[t] (bH x)⟩) (by rw[tj,aD];simp) C a';exact⟨d6,0+t,A[t],rfl,by grind⟩
  have fin:∀o g,cV (⟨e.t.set d ⟨.pointer (f ⟨d6,0,n⟩),[]⟩,cj,e.a,e.own⟩:a6) g->o.fn=a1->o.tmps=ky.tmps->o.defers=ky.defers->o.mode=.returning->o.kind=.normal->cf q aW (G o S) g:=by
   intro o g h bs bt bu a0 bw;have a2:=bz.rely h U;have aS:=U.rely h;have ab:=bX.trans h.aU;have bV:bx (aK.set d .M) g bn (K2 aF r):=by
    have aC:=aO.mono h.aU.ext U.len;cases r with
    |none=>exact⟨A,rfl,aC⟩
    |some bb=>
     have ba:=a2.aL bb.1;rw[bS bb rfl]at ba;exact⟨[.agg A.toArray,ky.tmps.getD bb.1 J],rfl,⟨A,rfl,aC⟩,ba,B⟩
   obtain⟨ah,bm⟩:=vW (kL:=g.t) ag aS.len;have bW:=(pj bB bD bV).sub ag bm bE;obtain⟨cd,br⟩:=l4 ag;obtain⟨d1,d2⟩:=l4 bm;have bq:∀L∈ah,L∈g.t:=D_ bm;have au:bc (ap aj) {g with t:=ah}:=by obtain⟨T,_⟩:=aS.sub ag bm a5 bF;refine⟨T.mem,T.len,λt bl L aJ E=>?_,T.a1,T.lt,λi cT=>⟨(aS.own i cT).1,λL E=>(aS.own i cT).2 L (bq L E)⟩⟩;exact ey.plain (k:=ap aj) (b:={g with t:=ah,own:=ox g ah}) (aA:={g with t:=ah}) rfl rfl (vO a5 bl (b_ aJ)) (T.box t bl L aJ E)
   have bg:df k b (ap aj) {g with t:=ah}:=by refine⟨ab.size,ab.a3,ab.mem,ab.bz,λL E i cT=>ab.bR _ (bq L E) i cT,λd bl L aJ E=>?_,ab.os,ab.tape,ab.output,ab.own⟩;have bN:d<c k:=(cO.1 aJ).1;obtain⟨eb,cv,cl,cm,cn⟩:=ab.box d bl L aJ E;grind
   obtain⟨bR,aw⟩:=a2.defers;refine A3 bR o g _ aS.dY M a0 (by rw[bu];exact aw.gD aS) λaa Q=>?_;have N:cV {g with t:=ah} {aa with t:=ah}:=by
    refine⟨rfl,Q.D,Q.own,Q.size,λi cT=>Q.a3 i (cT.imp id ?_),Q.mem,Q.os,Q.tape,Q.output⟩;rintro⟨L,E,cT⟩;obtain⟨t,x,rfl⟩:=g4 E;have av:t<c aV:=by rw[<-d1];exact x
    obtain⟨cp,bj,bZ⟩:=d2 t _ (bH av);obtain⟨F,bY,bh⟩:=br t _ (bH av);rw[bH x]at bj;cases bj;refine⟨_,_,bZ,λbJ=>?_,cT⟩;rw[aw.e5 _ bJ]at bh;cases bh;exact vA a8 _ (b_ bY) rfl
   have bG:e2 aa {aa with t:=ah}:=⟨rfl,λ_ _ _ a3=>a3,λ_ _ _=>rfl,λi r u X=>Q.mem i r u (by rw[<-Q.D];exact X),λi cT=>cT.imp id λ⟨L,E,cT⟩=>⟨L,by rw[Q.t];exact bq L E,cT⟩⟩
   have an:g.D=cj:=h.D;refine .aP bG (bI aj _ bn _ ⟨bs,a0,rfl,bw,fn,by grind,λp aP=>?_⟩ (bW.mono N.aU.ext au.len) (au.rely N) (bg.trans N.aU));show(results fn o.tmps).run P p=_/\∀C∈(results fn o.tmps).events P p #[],_;rw[bt];have aE:∀i r I,cj i r=f I->p.cell? ⟨i,r,n⟩=f I:=λi r I a3=>aP i r I (by show aa.D i r=f I;rw[Q.D,an];exact a3);refine⟨(b3 p aE).1,λC V=>?_⟩;obtain⟨i,r,I,aQ,aR⟩:=(b3 p aE).2 C V;exact⟨i,r,I,aQ,by show aa.D i r=f I;rw[Q.D,an];exact aR⟩
  rcases V with rfl|rfl
  .intro pre;exact .aP al (.ctl U rfl (λ_=>Ec rfl) λg h=>fin _ g h rfl rfl (h1 _) rfl rfl)
  exact .aP al (.ctl U rfl (λ_=>Ea rfl) λg h=>fin _ g h rfl rfl (h1 _) rfl rfl)
def bk.bA{q:af P}(aY:b2 P ac){i}{fn}{args}{ap:ι->m aq}(t:P.funcs[i]?=f fn)(r:(fn.name== "runtime.NumGoroutine")=v)(b:fn.body=f s)(C:ay args.length fn.ntmps=l)(D:kw args k->g q fn.ntmps (λB w h=>∃u,ui ac fn k.length (res u) (ap u) B w h) [.code s] .normal (h2 0 args) k):bk q i args k res ap:=by refine⟨⟨fn,t,r,by rw[b];rfl⟩,λe z d a=>?_⟩;have:=bk.jC (q:=q) (ap:=ap) (res:=res) aY t r b (fs C) λI y i o A E j x p _ F=>(show b3 q fn.ntmps s _ (h2 0 args) k from g.aO (D ⟨e,z,d,a⟩)) I y i o A E j x p F;exact this.2 e z d a
def bM.set{k}{b}{i}{aa}:∀{z:m Y}{a:m R}{h:Nat},bM k b z a->z[h]?=f aa->cA k b aa i->bM k b z (a.set h i)
 |[],[],_,_,d,_=>by grind
 |[],_::_,_,d,_,_=>d.elim
 |_::_,[],_,d,_,_=>d.elim
 |o::z,j::a,0,d,e,g=>by simp at e;subst e;exact⟨g,d.2⟩
 |o::z,j::a,h+1,d,e,g=>⟨d.1,bM.set d.2 M g⟩
section
variable {q:af P}
def g.cq(d u)(W h)(b:Nat->m N){eP}{ah}{gk}{ar:Nat->m N}(B:c_ d k=f (.cells eP ah))(A:c_ u ah=f (.c (.B l gk 0 ar)))(C:g q E bd (.code s::au) .normal I ((k++[aq.x W h 0 b]).set d (.cells eP (ah.set u (.x (c k) h 0 b))))):g q E bd (.code s::au) .normal I k:=by
 refine g.aP (λe az K bP=>?_) C;have aJ:=et B;have X:=et A;have G:d<c k:=(cO.1 aJ).1;have ai:d<c e.t:=hY;have F:=bH ai;generalize e.t[d]=L at F;obtain⟨t,z,av,Z,S,U⟩:=bP.box d _ L aJ F;obtain⟨i,Y,V⟩:=S.get X;have j:Rd e.D i (.B l h 0 b):=(Rd.fQ (h:=gk) (gk:=h) (.inr a) V).cA λR ae=>by omega
 have an:ey (k++[aq.x W h 0 b]) {e with t:=e.t++[⟨i,[]⟩]} (.x W h 0 b) ⟨i,[]⟩:=⟨j.ei,.inl ⟨⟨rfl,rfl⟩,j⟩⟩;obtain⟨H,O⟩:=bP.bY (.refl _ _) rfl bP an D
 have y:(k++[aq.x W h 0 b])[d]?=f (.cells eP ah):=M;have al:(e.t++[(⟨i,[]⟩:Loc)])[d]?=f L:=M;have ag:(e.t++[(⟨i,[]⟩:Loc)]).set d L=e.t++[⟨i,[]⟩]:=mY;have aw:fM (.cells eP ah) L (.cells eP (ah.set u (.x (c k) h 0 b))) L:=rfl;have ax:c k≠d:=w;have ab:ey ((k++[aq.x W h 0 b]).set d (.cells eP (ah.set u (.x (c k) h 0 b)))) ⟨(e.t++[(⟨i,[]⟩:Loc)]).set d L,e.D,e.a,e.own⟩ (.cells eP (ah.set u (.x (c k) h 0 b))) L:=by
  rw[ag];refine⟨t,z,av,Z,?_,U⟩;have x:fq (k++[aq.x W h 0 b]) {e with t:=e.t++[⟨i,[]⟩]} ((k++[aq.x W h 0 b]).set d (.cells eP (ah.set u (.x (c k) h 0 b)))) {e with t:=e.t++[⟨i,[]⟩]}:=by
   refine⟨λ_ _ _ p=>p,λR bS cv Q lQ=>?_⟩;by_cases aA:d=R
   .grind
   exact Fc
  have aa:bM (k++[aq.x W h 0 b]) {e with t:=e.t++[⟨i,[]⟩]} z ah:=S.mono O.ext bP.len;refine bM.set (aa.mono x H.len) Y ?_;refine⟨j.ei,by simp,λT af aj kH p=>?_⟩;rw[kA w,hl w,ss]at p;cases p;refine⟨bC _,λ_=>⟨⟨i,[]⟩,?_,a⟩⟩;exact tX
 obtain⟨aM,J⟩:=H.b7 (cj:=e.D) (bi:=e.a) (cv:=L) y al aw (bC _) (λ_ _ _=>rfl) (λ_ _ _ _=>rfl) (λ_ _ _ p=>p) bP.mem (λt r=>⟨.inl r,bP.lt L (b_ F) t r⟩) rfl rfl rfl ab;have o:=O.trans J;exact⟨⟨(e.t++[(⟨i,[]⟩:Loc)]).set d L,e.D,e.a,e.own⟩,a,⟨K.size,K.defers.imp λ_ j=>j.mono o.ext,λao=>(K.aL ao).mono o.ext bP.len⟩,aM,o⟩
end
section
variable {q:af P}
def g.e9(o)(W h)(dG:Nat->m N){e}{r:Nat->m N}(u:look I o=ax (.B l e 0 r))(i:g q E bd (.code s::au) .normal ((o,cC (c k) (.B 0 h 0 0))::I) (k++[.q W h 0 dG])):g q E bd (.code s::au) .normal I k:=by
 refine g.aP (λj w a bP=>?_) i;have C:=a.aL o;rw[u]at C;obtain⟨t,b⟩:=bP.bY (bS:=.q W h 0 dG) (L:=⟨.slice n 0 0,[]⟩) (.refl _ _) rfl bP (.inl ⟨rfl,rfl⟩) D;refine⟨{j with t:=j.t++[⟨.slice n 0 0,[]⟩]},rfl,⟨a.size,a.defers.imp λ_ d=>d.mono b.ext,λp=>?_⟩,t,b⟩;simp only[look];cases cT:ad o p with
 |false=>exact(a.aL p).mono b.ext bP.len
 |true=>
  exact Oq
def g.en(d u)(W h)(b:Nat->m N){eP}{ah}{B}{ai:Nat->m N}(A:c_ d k=f (.cells eP ah))(x:c_ u ah=f (.c (.B l B 0 ai)))(C:g q E bd (.code s::au) .normal I ((k++[aq.q W h 0 b]).set d (.cells eP (ah.set u (.O (c k) (.B 0 h 0 0)))))):g q E bd (.code s::au) .normal I k:=by
 refine g.aP (λe ao J bP=>?_) C;have aJ:=et A;have T:=et x;have H:d<c k:=(cO.1 aJ).1;have ae:d<c e.t:=hY;have F:=bH ae;generalize e.t[d]=L at F;obtain⟨p,z,al,X,O,R⟩:=bP.box d _ L aJ F;obtain⟨av,U,S⟩:=O.get T;let i:Loc:=⟨.slice n 0 0,[]⟩
 obtain⟨K,G⟩:=bP.bY (bS:=.q W h 0 b) (L:=i) (.refl _ _) rfl bP (.inl ⟨rfl,rfl⟩) M;have Q:(k++[aq.q W h 0 b])[d]?=f (.cells eP ah):=M;have af:(e.t++[i])[d]?=f L:=M;have ab:(e.t++[i]).set d L=e.t++[i]:=mY;have y:fM (.cells eP ah) L (.cells eP (ah.set u (.O (c k) (.B 0 h 0 0)))) L:=rfl;have aa:ey ((k++[aq.q W h 0 b]).set d (.cells eP (ah.set u (.O (c k) (.B 0 h 0 0))))) ⟨(e.t++[i]).set d L,e.D,e.a,e.own⟩ (.cells eP (ah.set u (.O (c k) (.B 0 h 0 0)))) L:=by
  rw[ab];refine⟨p,z,al,X,?_,R⟩;have r:fq (k++[aq.q W h 0 b]) {e with t:=e.t++[i]} ((k++[aq.q W h 0 b]).set d (.cells eP (ah.set u (.O (c k) (.B 0 h 0 0))))) {e with t:=e.t++[i]}:=by
   refine⟨λ_ _ _ t=>t,λZ bS L an aj=>?_⟩;by_cases ar:d=Z
   .grind
   exact⟨bS,L,by grind,aj,.refl _ _⟩
  have Y:bM (k++[aq.q W h 0 b]) {e with t:=e.t++[i]} z ah:=O.mono G.ext bP.len;exact bM.set (Y.mono r K.len) U (Dw (W:=W) (V:=b) S M (by simp[<-bP.len,i]))
 obtain⟨aM,D⟩:=K.b7 (cj:=e.D) (bi:=e.a) (cv:=L) Q af y (bC _) (λ_ _ _=>rfl) (λ_ _ _ _=>rfl) (λ_ _ _ t=>t) bP.mem (λp o=>⟨.inl o,bP.lt L (b_ F) p o⟩) rfl rfl rfl aa;have j:=G.trans D;exact⟨⟨(e.t++[i]).set d L,e.D,e.a,e.own⟩,a,⟨J.size,J.defers.imp λ_ w=>w.mono j.ext,λag=>(J.aL ag).mono j.ext bP.len⟩,aM,j⟩
end
def h_:Nat->(Nat->m N)->Nat->m N
 |0,a=>a
 |b+1,a=>fA (b+1) a
def yP(r)(a:Nat->m N)(e):h_ r a e=a (r+e):=by cases r<;>simp[h_,fA]
def xH(h g j:Nat)(b:Nat->m N)(a:R):Option (R×m Prop):=match lV h a with
 |true=>f (a,[])
 |false=>match a with
  |.O e (.B o d k i)=>match ad e h,ad d g with
   |true,l=>f (.c (.B v g i (h_ k b)),[o=j,k+i<=j])
   |_,_=>n
  |_=>n
def xJ(g e h:Nat)(a:Nat->m N):m R->Option (m R×m Prop)
 |[]=>f ([],[])
 |i::o=>match xH g e h a i with
  |some (b,j)=>match xJ g e h a o with
   |some (d,k)=>f (b::d,gM j k)
   |none=>n
  |none=>n
def uW(h g i:Nat)(b:Nat->m N):E1->Option (E1×m Prop)
 |.Q d=>match xH h g i b d with|some (d,e)=>f (.Q d,e)|none=>n
 |.agg a=>match xJ h g i b a with|some (a,e)=>f (.agg a,e)|none=>n
def xI(g e h:Nat)(a:Nat->m N):m E1->Option (m E1×m Prop)
 |[]=>f ([],[])
 |i::o=>match uW g e h a i with
  |some (b,j)=>match xI g e h a o with
   |some (d,k)=>f (b::d,gM j k)
   |none=>n
  |none=>n
def uV(h g i:Nat)(b:Nat->m N):y->Option (y×m Prop)
 |.n e=>match uW h g i b e with|some (e,d)=>f (.n e,d)|none=>n
 |.S a=>match xI h g i b a with|some (a,d)=>f (.S a,d)|none=>n
 |.any=>f (.any,[])
section
variable {aS:m aq}{b5:a6}{W h:Nat}
structure m0(aS:m aq)(W h j:Nat)(V:Nat->m N)(b b5:a6):Prop where
 a3:∀aa x,cA (aS++[.q W h j V]) b aa x->lV (c aS) x=l->cA aS b5 aa x
 eZ:∀aa gk r A,cA (aS++[.q W h j V]) b aa (.O (c aS) (.B j gk r A))->gk=h->r+A<=j->Rd b5.D aa (.B v h A (h_ r V))
def m0.cC(m:m0 aS W h j V b b5){aa}{x i}{Z}(g:xH (c aS) h j V x=f (i,Z))(p:U Z)(o:cA (aS++[.q W h j V]) b aa x):cA aS b5 aa i:=by
 unfold xH at g;split at g
 .rename_i s;cases g;exact m.a3 aa x o s
 split at g
 .rename_i t C q r A _;split at g
  .rename_i d e;cases g;have d:=dn d;have e:=dn e;subst d e;obtain⟨rfl,k⟩:C=j/\r+A<=j:=p;exact m.eZ aa _ _ _ o a k
  grind
 grind
def m0.fp(o:m0 aS W h j V b b5):∀{z:m Y}{d a:m R}{e:m Prop},xJ (c aS) h j V d=f (a,e)->U e->bM (aS++[.q W h j V]) b z d->bM aS b5 z a
 |[],[],_,_,g,_,_=>by cases g;trivial
 |[],_::_,_,_,_,_,i=>i.elim
 |_::_,[],_,_,_,_,i=>i.elim
 |u::z,r::d,a,e,g,k,i=>by
  simp[xJ]at g;split at g
  .rename_i p s c5;split at g
   .rename_i q t dE;cases g;rw[U.X]at k;exact⟨o.cC c5 k.1 i.1,o.fp dE k.2 i.2⟩
   grind
  grind
def m0.n(k:m0 aS W h j V b b5){e i}(a:uW (c aS) h j V e=f (i,Z))(g:U Z)(m:ez (aS++[.q W h j V]) b aa e):ez aS b5 aa i:=by
 cases e with
 |Q s=>
  simp[uW]at a;split at a
  .rename_i d r c5;cases a;exact k.cC c5 g m
  grind
 |agg o=>
  simp[uW]at a;split at a
  .rename_i d r c5;cases a;obtain⟨z,q,p⟩:=m;exact⟨z,q,k.fp c5 g p⟩
  grind
def m0.gY(o:m0 aS W h j V b b5):∀{z:m Y}{d a:m E1}{e:m Prop},xI (c aS) h j V d=f (a,e)->U e->eY (aS++[.q W h j V]) b z d->eY aS b5 z a
 |[],[],_,_,g,_,_=>by cases g;trivial
 |[],_::_,_,_,_,_,i=>i.elim
 |_::_,[],_,_,_,_,i=>i.elim
 |u::z,r::d,a,e,g,k,i=>by
  simp[xI]at g;split at g
  .rename_i p s c5;split at g
   .rename_i q t dE;cases g;rw[U.X]at k;exact⟨o.n c5 k.1 i.1,o.gY dE k.2 i.2⟩
   grind
  grind
def m0.c'(i:m0 aS W h j V b b5){d s}(a:uV (c aS) h j V d=f (s,Z))(g:U Z)(k:bx (aS++[.q W h j V]) b aa d):bx aS b5 aa s:=by
 cases d with
 |n d=>
  simp[uV]at a;split at a
  .rename_i e p c5;cases a;exact i.n c5 g k
  grind
 |S q=>
  simp[uV]at a;split at a
  .rename_i e p c5;cases a;obtain⟨z,o,m⟩:=k;exact⟨z,o,i.gY c5 g m⟩
  grind
 |any=>cases a;trivial
def bc.eZ(o:bc (aS++[.q W h j V]) b)(av:kh (c aS) aS=l):
  ∃x:a6,bc aS x/\e2 b x/\m0 aS W h j V b x/\∀{s:m aq} {Q:a6},df s Q (aS++[.q W h j V]) b->s.length<=c aS->df s Q aS x:=by
 have aJ:(aS++[aq.q W h j V])[c aS]?=f (.q W h j V):=D;have G:c b.t=c aS+1:=by rw[o.len];simp
 have X:b.t[c aS]?=f b.t[c aS]:=bH w;generalize b.t[c aS]=L at X;have aI:=o.box _ _ L aJ X;obtain⟨cj,aj,N,y,aA⟩:∃cj:Mem,(∀i d g,b.D i d=f g->cj i d=f g)/\(∀i,i∉L.ak->∀d,cj i d=b.D i d)/\(∀i d g,cj i d=f g->b.a.cell? ⟨i,d,n⟩=f g) /\
   (∀g e d A,cA (aS++[.q W h j V]) b g (.O (c aS) (.B j e d A))->e=h->d+A<=j->Rd cj g (.B v h A (h_ d V))):=by
  rcases aI with⟨rfl,rfl⟩|⟨i,aC,z,aN,rfl,br,aP,ac,E,H,aF⟩
  .refine⟨b.D,λ_ _ _ aE=>aE,λ_ _ _=>rfl,o.mem,λg e d A O F aa=>?_⟩;obtain⟨ae,⟨ao,Z,S,aC,I,T,ab,az,au,aw⟩,_,al⟩:=O;grind[Rd.dJ]
  let cj:Mem:=λr d=>if r=i then z[d]? else b.D r d;have an:∀r d g,b.D r d=f g->cj r d=f g:=λr d g I=>by grind
  refine⟨cj,an,λr aO d=>M,λr d g I=>?_,λg e d A O F aa=>?_⟩
  .by_cases F:r=i
   .subst F;simp[cj,dv]at I;simp[aH,br];grind
   simp[cj,F,dm]at I;exact o.mem r d g I
  subst F;obtain⟨ae,⟨ao,Z,S,aD,I,T,ab,az,au,aw⟩,_,al⟩:=O;obtain⟨cv,Y,ar⟩:=(al _ _ _ _ aJ).2 rfl;rw[X]at Y;cases Y;rw[au]at ar;cases ar;rw[I];have R:∀q,q<A->∀u C,(h_ d V q)[u]?=f C->∃ah,z[(d+q)*e+u]?=f ah/\Rd b.D ah C:=λq t u C p=>by rw[yP]at p;exact H.rd (d+q) w u C p
  refine .B i (d*e) (λq u=>(z[(d+q)*e+u]?).getD J) T w D (λq t=>by rw[yP];exact H.bF _ w) (λaG=>M) (λq t u C p=>M) (λq t u C p=>?_);obtain⟨ah,ax,aM⟩:=R q t u C p;rw[ax];exact aM.mono an
 have aK:(aS++[aq.q W h j V]).set (c aS) .M=aS++[.M]:=D;obtain⟨ai,K⟩:=o.b7 (cj:=cj) (bi:=b.a) (eb:=.M) (cv:=⟨L.v,[]⟩) aJ X B (bC _) (λ_ _ _=>rfl) (λi _ k d=>N i k d) aj y D rfl rfl rfl B;rw[aK]at ai K;have af:=ai.drop (bq:=[.M]) av;refine⟨_,af,⟨a,aj,λi k d=>N i (k L (b_ X)) d,y,λi k=>?_⟩,⟨λg ao O aL=>?_,λg e d A O F aa=>aA g e d A O F aa⟩,λ{s Q} ag U=>(ag.trans (K.tooV o)).drop (bq:=[.M]) U⟩
 .rcases k with k|⟨cv,Y,k⟩
  .exact .inl k
  have:=gY Y;grind
 exact(O.mono K.ext o.len).drop (bq:=[.M]) aL
end
def bk.bL{C:af P}{D}{args}{b:ι->y}{aS:ι->m aq}{W h}{j:ι->Nat}{V:ι->Nat->m N}(E:bk C D args k res (λa=>aS a++[.q W h (j a) (V a)])){i:ι->m Prop}(M:∀a,uV (c (aS a)) h (j a) (V a) (res a)=f (b a,i a))(K:∀a,U (i a))(J:∀a,kh (c (aS a)) (aS a)=l)(I:∀a,c k<=c (aS a)):bk C D args k b aS:=by refine⟨E.1,λO z x u F r t=>E.2 O z x u F r λa s R Q w d g B=>?_⟩;obtain⟨A,o,e,p,q⟩:=g.eZ (J a);exact .aP e (t a s R A (w.mono e.mem) (p.c' (M a) (K a) d) o (q B (I a)))
def X.bL{P:aE}{b:af P}{d}{args}{k}{res a}{aS}{W h j}{V:Nat->m N}(p:X b d args k res (aS++[.q W h j V])){Z}(o:uV (c aS) h j V res=f (a,Z))(i:U Z)(g:kh (c aS) aS=l)(e:c k<=c aS):X b d args k a aS:=
 (bk.bL (ι:=Unit) p.tocH (λ_=>o) (λ_=>i) (λ_=>g) (λ_=>e)).toX
section
def Yu{b:ae}(t:r.op=.call {callee:=.builtin .clear,args:=#[b],argTypes:=#[o]})(a:ae->Y):
  ab a r=(do pure (.value (<-Builtin.clear_ #[o] r.type #[a b]))):=RH
def NK{a:Y}{b}{h}(k:a.cells.toList.map k2=b.map f)(e:c b=h):eX bB h A (λ_=>b) (Builtin.zeroCells a.cells A).toList:=by
 have j:a.cells.size=h:=by have:=eD List.length k;grind
 have r:bM [] ⟨[],bB,default,λ_=>False⟩ a.cells.toList (b.map R.c):=ug k;refine⟨by simp[Builtin.zeroCells,j],λ_ _=>e,λg d u o B=>?_⟩;have y:u<h:=M;obtain⟨i,t,s⟩:=r.get (u:=u) (x:=R.c o) M;refine⟨i,?_,s⟩;have q:g*h+u<A*h:=by
  have:g*h+h<=A*h:=by rw[<-oW];exact g5 h d
  omega
 have m:(g*h+u) % h=u:=by grind[Nat.add_mul_mod_self_right,Nat.mod_eq_of_lt]
 have z:u<a.cells.size:=w;have C:a.cells[u]=i:=M;have p:a.cells[u]! = i:=M;simp[Builtin.zeroCells,j,q,m,p]
def a1.eY(aY:b2 P ac){I:ae}(aQ:r.op=.call {callee:=.builtin .clear,args:=#[I],argTypes:=#[o]}){e}(T:bZ ac o=f e)(aL:e.desc=.slice W)(Q:bZ ac W=f a4){b}{y}(aa:η I=cC d (.B j a4.size b A))(q:k[d]?=f (.q y a4.size j V))(al:b+A<=j):
  a1 P r η k .any (k.set d (.q y a4.size j (nM b (b+A) a4.zero V))):=by
 intro s aj p X;have m:=X I;rw[aa]at m;change cA k s (aj I) (.O d _)at m;obtain⟨aS,⟨av,aN,ax,aP,Z,aA,aC,aE,aM,aJ⟩,_,G⟩:=m;obtain⟨L,J,ag⟩:=(G _ _ _ _ q).2 rfl;rw[aM]at ag;have x:=(aY o e T).eb;rw[aL]at x;rw[Yu aQ,Z];by_cases U:A=0
 .subst U;have ab:nM b (b+0) a4.zero V=V:=by funext u;simp only[nM];grind
  have Y:k.set d (.q y a4.size j V)=k:=mY;rw[ab,Y];refine⟨.value (.tuple #[]),s,?_,B,p,.refl _ _,?_⟩
  .cases av<;>simp[Builtin.clear_,run_underlying x]
  intro i g;cases av<;>simp[Builtin.clear_,run_underlying x,aD]at g
 obtain⟨aw,rfl,rfl⟩:=aJ w;rcases p.box d _ L q J with⟨_,rfl⟩|⟨aO,g7,z,E,rfl,K,aI,au,aK,ar,an⟩
 .cases ag
 cases ag;obtain⟨aH,h,aq,aV,aW,ao,ai,aZ,a⟩:=(aY W a4 Q).cX;have af:=NK (bB:=s.D) (A:=A) ai a;have a0:=af.len;have aG:=ar.len;have aR:b*a4.size+A*a4.size<=j*a4.size:=by rw[<-jE];exact g5 _ al
 have C:=ar.hH af al;have S:(λe=>if b<=e/\e<b+A then(λ_=>a4.zero) (e-b)else V e)=nM b (b+A) a4.zero V:=rfl;rw[S]at C;obtain⟨ah,t2⟩:=p.gx q J aI au aK K C M an;have az:=af.cell;have O:=run_storeCells_at P aw (b*a4.size) y (Builtin.zeroCells h.cells A).toList 0 (z++E).toArray s.a K M az;have N:((z++E).toArray.toList.take (b*a4.size+0)++(Builtin.zeroCells h.cells A).toList++(z++E).toArray.toList.drop (b*a4.size+0+(Builtin.zeroCells h.cells A).toList.length))=z.take (b*a4.size)++(Builtin.zeroCells h.cells A).toList++z.drop (b*a4.size+(Builtin.zeroCells h.cells A).toList.length)++E:=M;rw[N]at O;have R:∀t,(zeroValue W).run P t=.ok h t:=λt=>by simp[zeroValue,typeInfo,aq,ao]
 have H:∀t V,(zeroValue W).events P t V=V:=λt V=>by simp[zeroValue,typeInfo,aq,ao,aD]
 obtain⟨F,rfl⟩:∃F,A=F+1:=⟨A-1,by omega⟩
 refine⟨.value (.tuple #[]),_,?_,B,ah,t2,?_⟩
 .simp[Builtin.clear_,run_underlying x,R,O]
 intro i g;have aT:i∈(storeCells ⟨aw,b*a4.size,n⟩ (Builtin.zeroCells h.cells (F+1)).toList).events P s.a #[]:=by simp only[Builtin.clear_,aD,j4,mg]at g;simpa[run_underlying x,R,H,O]using g
 rcases nj (Builtin.zeroCells h.cells (F+1)).toList 0 (z++E).toArray s.a #[] K M az i aT with aF|⟨u,_,_,rfl⟩
 .grind
 exact oa (b_ J) D (an _)
end
section
variable {q:af P}
theorem g.g_{h}(K:∀e i,b0 E k e I i->bc k e->∃a:a6,a.a=e.a/\b0 E ap a h i/\bc ap a/\cN k e ap a)(N:g q E bd (.aj all bq::au) .normal h ap):g q E bd (.aj all bq::au) .normal I k:=by intro e i M b C w p B idx u d t;obtain⟨a,J,D,z,y⟩:=K e i M b;have A:=y.tooV b;refine .aP (.of b z J A) ?_;exact N a i D z C w p B idx u d λF m x o O r s j=>t F m x o O r s (A.trans j)
def g.dH(o)(W h)(dG:Nat->m N){e}{r:Nat->m N}(t:look I o=ax (.B l e 0 r))(i:g q E bd (.aj all bq::au) .normal ((o,cC (c k) (.B 0 h 0 0))::I) (k++[.q W h 0 dG])):g q E bd (.aj all bq::au) .normal I k:=by
 refine g.g_ (λj u a bP=>?_) i;have C:=a.aL o;rw[t]at C;obtain⟨s,b⟩:=bP.bY (bS:=.q W h 0 dG) (L:=⟨.slice n 0 0,[]⟩) (.refl _ _) rfl bP (.inl ⟨rfl,rfl⟩) D;refine⟨{j with t:=j.t++[⟨.slice n 0 0,[]⟩]},rfl,⟨a.size,a.defers.imp λ_ d=>d.mono b.ext,λp=>?_⟩,s,b⟩;simp only[look];cases cT:ad o p with
 |false=>exact(a.aL p).mono b.ext bP.len
 |true=>
  exact Oq
def g.ep(aY:b2 P ac){x:ae}{C u}(O:r.op=.binOp .eql o x (.const (.slice n C u)) ty){e}(D:bZ ac o=f e)(aj:e.desc=.slice W){eO}{h}(U:bD I x=ax (.B eO h j V))(X:r.guard=n)(N:fj E r.dst=l)(J:∀i:Bool,(i=l->j=0)->g q E bd (.aj all bq::au) .normal (ga r.dst (ax (.bool i)) I) k):g q E bd (.aj all (r::bq)::au) .normal I k:=by
 refine g.cD (ι:={i:Bool // i=l->j=0}) (λi=>ax (.bool i.1)) (λ_=>k) X N (λp M T B=>?_) λi=>J i.1 i.2;have w:=eF T x;rw[U]at w;obtain⟨b,d,z,w,_,_,_,_,F⟩:=(b7 w).bZ;have A:=(aY o e D).eb;rw[aj]at A;have S:=b7 (by have:=eF T x;rw[U]at this;exact this);have ai:b.isNone=l->j=0:=by
  intro ag;rw[w]at S;cases S with
  |B i Q al an aa ah af Z F m=>
   grind
 refine⟨⟨b.isNone,ai⟩,.value (.bool b.isNone),p,.bool b.isNone,?_,.inl a,Rd.bool,B,.refl _ _,?_⟩
 .have m:(binOp .eql o (.slice b j d) (.slice n C u)).run P p.a=.ok (.bool b.isNone) p.a:=Go.Lib.run_eql_slice_nil p.a o W b j d C u A;have K:∀y,eqGuard .eql o x y (.slice b j d) (.slice n C u)=pure ():=λy=>by simp[eqGuard]
  have t:M.eval (.const (.slice n C u))=.slice n C u:=rfl;simp[ab,O,w,t,K];simp[m]
 have R:∀V,(Op.equal o (.slice b j d) (.slice n C u)).events P p.a V=V:=λV=>by show(aL (9999+1) o _ _).events P p.a V=V;unfold aL;cases b<;>simp[underlying,A]
 have m:(Op.equal o (.slice b j d) (.slice n C u)).run P p.a=.ok b.isNone p.a:=by show(aL (9999+1) o _ _).run P p.a=_;grind[Go.Lib.run_equalIn_slice_nil]
 have K:∀y,eqGuard .eql o x y (.slice b j d) (.slice n C u)=pure ():=λy=>by simp[eqGuard]
 have t:M.eval (.const (.slice n C u))=.slice n C u:=rfl;intro Y s;exfalso;simp[ab,O,w,t,K,binOp]at s;simp[m,R,aD]at s
end
def fY(a:m UInt8):m Y:=a.map λb=>.int .u8 b.toNat
theorem Ng{ag}:c (fY ag)=c ag:=by simp[fY]
def ad8{ag i}:fY (ag++i)=fY ag++fY i:=by simp[fY]
def jH(b:Option (Nat×Nat))(e:Nat):Y:=match b with|none=>.slice n 0 0|some (d,a)=>.slice (f ⟨d,0,n⟩) e a
def eI(r q:al)(s:Bool)(h:Y)(i:Option (Nat×Nat))(b:m UInt8)(o:Nat):Y->(Nat->Option Obj)->Prop:=λp d=>
 ∃g,p=.pointer (f ⟨g,0,n⟩)/\dQ h=l/\d g=f (.cells #[if s then p else .pointer n,h] r (0,0)) /\
 match i with
 |none=>b=[]/\∀e,(d e).isSome=l↔e=g
 |some (j,a)=>j≠g/\c b<=a/\0<a/\a<=9223372036854775807/\o<=c b/\(∃k,c (fY b++k)=a/\d j=f (.cells (fY b++k).toArray q (0,o)))/\∀e,(d e).isSome=l↔e=g∨e=j
section
variable {q:af P}{h:m (Nat×cp)}{ac:al}{x:Bool}{v1:Y}{bO:Option (Nat×Nat)}{ag:m UInt8}{aj:Nat}
structure mZ(P:aE)(k:m aq)(b:a6)(d:Nat)(ac W:al)(x:Bool)(v1:Y)(bO:Option (Nat×Nat))(ag:m UInt8)(aj:Nat)(L:Loc)(i:Nat)(cS:Nat->Option Obj):Prop where
 t:b.t[d]?=f L
 v:L.v=.pointer (f ⟨i,0,n⟩)
 f_:eI ac W x v1 bO ag aj L.v cS
 heap:∀(i:Nat) (r:Obj),cS i=f r->b.a.heap[i]?=f r
 ak:∀i,i∈L.ak↔(cS i).isSome=l
 D:∀i∈L.ak,∀r,b.D i r=n
 cS:cS i=f (.cells #[if x then L.v else .pointer n,v1] ac (0,0))
 cell:dQ v1=l
def eI.row(bP:bc k b)(m:k[d]?=f (.K (eI ac W x v1 bO ag aj))):∃L e a,mZ P k b d ac W x v1 bO ag aj L e a:=by have p:d<c b.t:=hY;have g:=bH p;generalize b.t[d]=L at g;obtain⟨a,o,h,i,s⟩:=bP.box d _ L m g;have q:=o;obtain⟨e,r,t,j,_⟩:=q;exact⟨L,e,a,g,r,o,h,i,s,j,t⟩
def mZ.mem{L}(a:mZ P k b d ac W x v1 bO ag aj L i k6):i∈L.ak:=(a.ak i).2 (by rw[a.cS];rfl)
def mZ.ptr{L}(g:mZ P k b d ac W x v1 bO ag aj L i k6)(h:bx k b aa (aI d off)):aa=.pointer (f ⟨i,off,n⟩):=by obtain⟨_,j,m,a,e,rfl⟩:=(h:cA k b aa (.ptr d off));rw[g.t]at a;cases a;rw[g.v]at e;grind
def A9(aY:b2 P h){q:ae}{e}(w:r.op=.load o q)(p:bZ h o=f e)(C:e.agg=v)(N:k[d]?=f (.K (eI ac W x v1 bO ag aj))){u}(E:η q=aI d off)(R:∀a L b g,bc k a->mZ P k a d ac W x v1 bO ag aj L b g->∃m,(#[if x then L.v else .pointer n,v1]:Array Y)[off]?=f m/\bx k a m u):a1 P r η k u k:=by
 refine .dt λa s B G=>?_;obtain⟨L,b,g,i⟩:=eI.row (P:=P) B N;have A:=i.ptr (by have:=G q;rwa [E]at this);obtain⟨m,H,O⟩:=R a L b g B i;have I:a.a.cell? ⟨b,off,n⟩=f m:=by simp only[aH,i.heap _ _ i.cS];grind
 have t:(loadVar o ⟨b,off,n⟩).run P a.a=.ok m a.a:=by simp[loadVar,(aY o e p).ew,C,run_load,I]
 refine⟨m,by simp[ab,w,A,Instr.loadAt,Instr.sureAddr,t],O,λz y=>?_⟩;have K:z∈(loadVar o ⟨b,off,n⟩).events P a.a #[]:=by
  have F:ab s r=(do pure (.value (<-loadVar o ⟨b,off,n⟩))):=by simp[ab,w,A,Instr.loadAt,Instr.sureAddr]
  rw[F]at y;simpa[t]using y
 obtain⟨J,D,rfl⟩:=o8 (aY o e p) (j:=1) (λJ D=>by grind) M z K;exact qh (b_ i.t) i.mem
def a1.eQ(aY:b2 P h){g:ae}{e}(p:r.op=.load o g)(a:bZ h o=f e)(i:e.agg=v)(b:k[d]?=f (.K (eI ac W x v1 bO ag aj)))(m:η g=aI d 1):a1 P r η k (cL v1) k:=
 A9 aY p a i b m λu L t j q s=>⟨v1,by simp,Rd.val s.cell⟩
def aag(e:k[d]?=f (.K H)):∀a,k[d]?=f a->a.dP=v:=by intro a b;rw[e]at b;cases b;rfl
def a1.gH(aY:b2 P h){i:ae}{e}(s:r.op=.load o i)(b:bZ h o=f e)(m:e.agg=v)(a:k[d]?=f (.K (eI ac W l v1 bO ag aj)))(q:η i=aI d 0):a1 P r η k (aI d 0) k:=
 A9 aY s b m a q λu L j p t g=>⟨L.v,by simp,aag a,L,j,g.t,g.v,g.v⟩
def a1.ih(aY:b2 P h){g:ae}{e}(p:r.op=.load o g)(a:bZ h o=f e)(j:e.agg=v)(b:k[d]?=f (.K (eI ac W v v1 bO ag aj)))(m:η g=aI d 0):a1 P r η k (ax .bo) k:=
 A9 aY p a j b m λu L s i q t=>⟨.pointer n,by simp,Rd.bo⟩
def setRow_size(a:ar)(i)(row):(a.setRow i row).heap.size=a.heap.size:=by simp[World.setRow]
def GS(aY:b2 P h){D p:ae}{e}(Z:r.op=.store o D p)(A:bZ h o=f e)(y:e.size=1)(V:k[d]?=f (.K (eI ac W x v1 bO ag aj))){s}{t}(Q:η D=aI d off)(O:off<2)(J:dQ t=l)(ao:∀m L i q z,bc k m->mZ P k m d ac W x v1 bO ag aj L i q->bx k m z (η p)->dQ z=l/\(#[if x then L.v else .pointer n,v1]:Array Y).setIfInBounds off z=#[if s then L.v else .pointer n,t]):a1 P r η k .any (k.set d (.K (eI ac W s t bO ag aj))):=by
 intro m b I X;obtain⟨L,i,q,j⟩:=eI.row (P:=P) I V;have G:=j.ptr (by have:=X D;rwa [Q]at this);obtain⟨N,H⟩:=ao m L i q (b p) I j (X p);have af:(b p).cells=#[b p]:=by cases F:b p<;>simp[F,dQ,Value.cells]at N⊢
 have ai:∀z∈[b p],z.oneCell'=l:=by intro z G;simp at G;subst G;cases F:b p<;>simp[F,dQ,Value.oneCell']at N⊢
 have S:=j.heap _ _ j.cS;have T:=run_storeCells_at P i off ac [b p] 0 _ m.a S M ai;have R:((#[if x then L.v else .pointer n,v1]:Array Y).toList.take (off+0)++[b p]++(#[if x then L.v else .pointer n,v1]:Array Y).toList.drop (off+0+[b p].length)).toArray=#[if s then L.v else .pointer n,t]:=by
  rw[<-H]
  match off,O with
  |0,_=>grind
  |1,_=>grind
 rw[R]at T;have ax:(m.a.setRow i #[if s then L.v else .pointer n,t]).heap[i]?=f (.cells #[if s then L.v else .pointer n,t] ac (0,0)):=setRow_heap m.a i _ _ ac _ S;have ah:∀g,g≠i->(m.a.setRow i #[if s then L.v else .pointer n,t]).heap[g]?=m.a.heap[g]?:=λg w=>setRow_other m.a i g _ w;obtain⟨C,t2⟩:=I.ca (d:=d) (jZ:=eI ac W s t bO ag aj) (cv:=L) (bi:=m.a.setRow i #[if s then L.v else .pointer n,t]) V j.t rfl (by rw[setRow_size];grind)
  (λg w K=>ah g (by rintro rfl;exact K j.mem)) (λg w=>.inl w)
  ⟨λg=>if g=i then f (.cells #[if s then L.v else .pointer n,t] ac (0,0))else q g,by
   obtain⟨E,U,ar,au,av⟩:=j.f_;have:E=i:=by rw[j.v]at U;grind
   subst this;have aw:∀g,(if g=E then f (Obj.cells #[if s then L.v else .pointer n,t] ac (0,0))else q g).isSome=l↔(q g).isSome=l:=M;refine⟨E,U,J,by simp,?_⟩;grind,λg aq w=>by
   by_cases u:g=i
   .grind
   .simp only[u,dm]at w;rw[ah g u];exact j.heap _ _ w,λg=>by
   rw[j.ak g];by_cases u:g=i
   .subst u;simp[j.cS]
   grind⟩ a a a
 have al:m.t.set d L=m.t:=by
  apply p4;intro aa;by_cases u:d=aa
  .subst u;rw[io (cO.1 j.t).1,j.t]
  grind
 rw[al]at C t2;refine⟨.skip,{m with a:=m.a.setRow i #[if s then L.v else .pointer n,t]},?_,rfl,C,t2,?_⟩
 .simp[ab,Z,G,Instr.storeAt,Instr.sureAddr,storeVar,(aY o e A).ba,y,af,T]
 intro aM B;have u:ab b r=(do storeVar o ⟨i,off,n⟩ (b p);pure .skip):=by simp[ab,Z,G,Instr.storeAt,Instr.sureAddr]
 rw[u]at B;have an:aM∈(storeCells ⟨i,off,n⟩ [b p]).events P m.a #[]:=by
  simp only[storeVar,aD,(aY o e A).ba,af,y,aF,events_sizeOf,dZ,hv,dm,cJ,c8,Sem.events_pure,List.size_toArray,gx]at B;generalize(storeCells ⟨i,off,n⟩ [b p]).run P m.a=j at B;cases j with
  |ok z bi=>simpa using B
  |halt D bi=>simpa using B
 rcases nj [b p] 0 _ m.a #[] S M ai aM an with az|⟨aa,_,_,rfl⟩
 .grind
 exact oa (b_ j.t) j.mem (j.D _ j.mem _)
def a1.ga(aY:b2 P h){i j:ae}{e}(q:r.op=.store o i j)(a:bZ h o=f e)(p:e.size=1)(b:k[d]?=f (.K (eI ac W x v1 bO ag aj))){s}(z:η i=aI d 1)(u:η j=cL s)(y:dQ s=l):a1 P r η k .any (k.set d (.K (eI ac W x s bO ag aj))):=
 GS aY q a p b z w y λC L A m D t B g=>by rw[u]at g;have:=Rd.bc g;grind
def a1.ij(aY:b2 P h){m p:ae}{e}(u:r.op=.store o m p)(b:bZ h o=f e)(q:e.size=1)(g:k[d]?=f (.K (eI ac W x v1 bO ag aj)))(A:η m=aI d 0)(t:η p=aI d 0)(z:dQ v1=l):a1 P r η k .any (k.set d (.K (eI ac W l v1 bO ag aj))):=
 GS aY u b q g A w z λC L B s D y j i=>by rw[t]at i;have:=j.ptr i;subst this;refine⟨a,?_⟩;rw[<-j.v];rfl
def a1.ib{ac}(p:r.op=.alloc ac)(q:∀j,(zeroValue ac).run P j=.ok (.agg #[.pointer n,.slice n 0 0]) j)(u:∀j g,(zeroValue ac).events P j g=g):a1 P r η k (aI (c k) 0) (k++[.K (eI ac W v (.slice n 0 0) n [] 0)]):=by
 intro b A bP w;let bi:=b.a.alloc (.cells #[.pointer n,.slice n 0 0] ac);obtain⟨y,x⟩:=bP.cW (cj:=b.D) (bi:=bi) (by simp[bi]) (λt h=>iV b.a _ h) (λ_ _ _=>rfl) (λt h r z e=>by have:=bP.block e;omega) rfl rfl rfl;have C:bi.heap.size=b.a.heap.size+1:=by simp[bi]
 have B:bi.heap[b.a.heap.size]?=f (.cells #[.pointer n,.slice n 0 0] ac (0,0)):=lT b.a _;obtain⟨o,t2⟩:=y.bY x rfl bP (bS:=.K (eI ac W v (.slice n 0 0) n [] 0)) (L:=⟨.pointer (f ⟨b.a.heap.size,0,n⟩),[b.a.heap.size]⟩)
  ⟨λd=>if d=b.a.heap.size then f (.cells #[.pointer n,.slice n 0 0] ac (0,0))else n,⟨b.a.heap.size,rfl,rfl,by simp,rfl,λd=>by by_cases m:d=b.a.heap.size<;>simp[m]⟩,λd s i=>by
   grind,λd=>by by_cases m:d=b.a.heap.size<;>simp[m],λd i s=>by
   simp at i;subst i;show b.D _ _=n;cases e:b.D b.a.heap.size s with
   |none=>rfl
   |some z=>have:=bP.block e;omega⟩ (λd i=>by grind)
 refine⟨.value (.pointer (f ⟨b.a.heap.size,0,n⟩)),_,?_,⟨by simp,⟨.pointer (f ⟨b.a.heap.size,0,n⟩),[b.a.heap.size]⟩,b.a.heap.size,?_,a,a⟩,o,t2,?_⟩
 .simp[ab,p,Instr.alloc,q,Go.newVar,newRow,Value.cells,bi]
 .exact tX
 simp[ab,p,Instr.alloc,q,u,Go.newVar,newRow];exact .nil
end
section
variable {q:af P}{bl:m (Nat×cp)}{ac:al}{O:Bool}{v1:Y}{bO:Option (Nat×Nat)}{ag:m UInt8}{h:Nat}
def Jl{P}{i r}{o}{h}:∀(z:m Y)a(g:Array Y)d(b:Array aO),d.heap[i]?=f (.cells g o h)->h.2<=r+a->r+a+c z<=g.size->(∀e∈z,e.oneCell'=l) ->
  ∀k∈(storeCells ⟨i,r,n⟩ z a).events P d b,k∈b∨∃p,a<=p/\p<a+c z/\k=tP i (r+p)
 |[],_,_,_,_,_,_,_,_=>λk q=>.inl cS
 |e::j,a,g,d,b,C,F,I,s=>λk q=>by
  have bp:r+a<g.size:=M;have t:d.cell? ⟨i,r+a,n⟩=f g[r+a]:=N7;have B:d.frozen? ⟨i,r+a,n⟩=v:=by obtain⟨y,E⟩:=h;simp[World.frozen?,C,Ay,dp];grind
  have u:(store (⟨i,r+a,n⟩:Addr) e).run P d=.ok () (d.setRow i (g.setIfInBounds (r+a) e)):=NV;have x:(store (⟨i,r+a,n⟩:Addr) e).events P d b=b.push (tP i (r+a)):=by rw[events_store P d b _ e _ (s e D),t];exact hy
  simp[storeCells,aD,g0,u,x,aF]at q;rcases Jl j (a+1) (g.setIfInBounds (r+a) e) _ _ (setRow_heap _ _ _ _ _ _ C) w M (λA N=>s A M) k q with J|⟨p,R,K,rfl⟩
  .grind
  grind
def mZ.at{L}{i C cap}{e:Nat->Option Obj}(s:mZ P k b d ac W O v1 (f (C,cap)) ag h L i e):
  C≠i/\c ag<=cap/\0<cap/\cap<=9223372036854775807/\h<=c ag/\(∃g,c (fY ag++g)=cap/\e C=f (.cells (fY ag++g).toArray W (0,h)))/\(∀r,(e r).isSome=l↔r=i∨r=C)/\C∈L.ak:=by
 obtain⟨u,w,_,_,j,m,o,p,q,a,t⟩:=s.f_;have:u=i:=by rw[s.v]at w;grind
 subst this;obtain⟨g,a,x⟩:=a;exact⟨j,m,o,p,q,⟨g,a,x⟩,t,(s.ak C).2 M⟩
def abK{L}(a:b.t[d]?=f L):b.t.set d L=b.t:=mY
def mZ.ca{L}{i C cap}{g:Nat->Option Obj}(s:bc k b)(t:k[d]?=f (.K (eI ac W O v1 (f (C,cap)) ag h)))(e:mZ P k b d ac W O v1 (f (C,cap)) ag h L i g){oK}{pa}{t1}{bi}(B:c (fY oK++t1)=cap)(J:c oK<=cap)(F:pa<=c oK)(N:bi.heap.size=b.a.heap.size)(o:∀a,a≠C->bi.heap[a]?=b.a.heap[a]?)(S:bi.heap[C]?=f (.cells (fY oK++t1).toArray W (0,pa)))(u:bi.os=b.a.os)(I:bi.tape=b.a.tape)(D:bi.output=b.a.output):
  bc (k.set d (.K (eI ac W O v1 (f (C,cap)) oK pa))) {b with a:=bi}/\cN k b (k.set d (.K (eI ac W O v1 (f (C,cap)) oK pa))) {b with a:=bi}:=by
 obtain⟨j,y,q,r,z,⟨bz,A,R⟩,Q,K⟩:=e.at;obtain⟨x,t2⟩:=s.ca (d:=d) (jZ:=eI ac W O v1 (f (C,cap)) oK pa) (cv:=L) (bi:=bi) t e.t rfl w
  (λa m E=>o a M) (λa m=>.inl m)
  ⟨λa=>if a=C then f (.cells (fY oK++t1).toArray W (0,pa))else g a,⟨i,e.v,e.cell,(show(if i=C then _ else g i)=_ from(bj λp=>j p.symm).trans e.cS),j,J,q,r,F,⟨t1,B,by simp⟩,λa=>by
   grind⟩,λa T m=>by
   by_cases p:a=C
   .grind
   .simp only[p,dm]at m;rw[o a p];exact e.heap _ _ m,λa=>by
   rw[e.ak a]
   grind⟩ u I D
 rw[abK e.t]at x t2;grind
def a1.ic{t2:al}{T x:ae}(q:r.op=.call {callee:=.builtin .append,args:=#[T,x],argTypes:=#[o,t2]}){a4}(aM:P.underlying o=f (.slice W))(N:P.underlying t2=f .string)(Y:P.info? W=f a4)(X:a4.size=1){C cap}(p:k[d]?=f (.K (eI ac W O v1 (f (C,cap)) ag h)))(K:η T=cL (jH (f (C,cap)) j))(J:c ag=j){b}(Q:η x=ax (.T b))(aN:j+c b<=cap):
  a1 P r η k (cL (jH (f (C,cap)) (j+c b))) (k.set d (.K (eI ac W O v1 (f (C,cap)) (ag++b) h))):=by
 intro i V m s;subst J;obtain⟨L,aP,aC,t⟩:=eI.row (P:=P) m p;obtain⟨ar,au,av,aw,z,⟨g,az,A⟩,aA,ah⟩:=t.at;have y:=s T;rw[K]at y;have y:=Rd.bc y;have R:=s x;rw[Q]at R;have R:=b7 R;generalize H:V x=aJ at R;cases R with
 |@T e _ Z aL=>
 have ai:e.size=c b:=by rw[<-Z,m9];rfl
 have u:=t.heap _ _ A;have aK:(fY ag++g).toArray.size=cap:=M;have af:=Lib.run_append_room_stringF (P:=P) i.a o t2 r.type W a4 aM N Y X C (c ag) cap _ _ u z e w M;have G:((fY ag++g).toArray.toList.take (c ag)++Lib.strCells e++(fY ag++g).toArray.toList.drop (c ag+e.size))=fY (ag++b)++g.drop (c b):=by
  have D:(fY ag++g).take (c ag)=fY ag:=E4;have E:(fY ag++g).drop (c ag+e.size)=g.drop (c b):=by rw[List.drop_append,Ng,Ge M,ai];simp
  have F:Lib.strCells e=fY b:=by simp[Lib.strCells,fY,Z]
  rw[List.toList_toArray,D,E,F,ad8]
 rw[G,ai]at af;have ab:c g=cap-c ag:=E4;have aH:c (fY (ag++b)++g.drop (c b))=cap:=E4;have aI:(i.a.setRow C (fY (ag++b)++g.drop (c b)).toArray).heap[C]?=f (.cells (fY (ag++b)++g.drop (c b)).toArray W (0,h)):=setRow_heap i.a C _ _ W _ u;obtain⟨S,aj⟩:=t.ca (pa:=h) (bi:=i.a.setRow C (fY (ag++b)++g.drop (c b)).toArray) m p aH M M (setRow_size _ _ _) (λB ao=>setRow_other i.a C B _ ao) aI rfl rfl rfl;refine⟨.value (.slice (f ⟨C,0,n⟩) (c ag+c b) cap),_,?_,Rd.val a,S,aj,?_⟩
 .rw[lb q,y,H];simp[cJ,dY];have aO:(Builtin.append_ #[o,t2] r.type #[jH (f (C,cap)) (c ag),.string e]).run P i.a=_:=af;exact hy
 rw[lb q,y,H];refine iS λaD aa=>?_;have I:=Lib.run_firstCells_string (P:=P) i.a 1 e;have an:=run_storeCells_atF P C (c ag) W (0,h) (Lib.strCells e) 0 _ i.a u M M (Lib.strCells_oneCell e);have aE:c ag+e.size<=cap:=w;have aq:(Builtin.firstCells 1 e.size (.string e)).events P i.a #[]=#[]:=rfl;simp[jH,Builtin.append_,run_underlying aM,run_underlying N,sizeOf,typeInfo,Y,X,Builtin.lenOf,aE,I,aq,g0,an]at aa;rcases Jl (Lib.strCells e) 0 _ i.a _ u M M (Lib.strCells_oneCell e) aD aa with aQ|⟨aR,aF,aG,rfl⟩
 .grind
 exact oa (b_ t.t) ah (t.D _ ah _)
def a1.ie{t2:al}{p i:ae}(g:r.op=.call {callee:=.builtin .append,args:=#[p,i],argTypes:=#[o,t2]}){a4}(w:P.underlying o=f (.slice W))(t:P.underlying t2=f .string)(s:P.info? W=f a4)(B:η p=cL (jH n 0))(A:η i=ax (.T [])):a1 P r η k (cL (jH n 0)) k:=by
 refine .aR λx q y h=>?_;have e:=h p;rw[B]at e;have e:=Rd.bc e;have d:=h i;rw[A]at d;have d:=b7 d;generalize u:q i=C at d;cases d with
 |@T b _ E D=>
 have j:b.size=0:=by have:c b.data.toList=0:=M;rw[m9]at this;exact this
 have m:=Lib.run_firstCells_string (P:=P) x.a a4.size b;rw[j]at m;have z:(Builtin.firstCells a4.size 0 (.string b)).events P x.a #[]=#[]:=rfl;refine⟨.slice n 0 0,?_,Rd.val a,?_⟩
 .rw[lb g,e,u];simp[jH,Builtin.append_,run_underlying w,run_underlying t,sizeOf,typeInfo,s,Builtin.lenOf,j,m]
 rw[lb g,e,u];simp[jH,Builtin.append_,run_underlying w,run_underlying t,sizeOf,typeInfo,s,Builtin.lenOf,j,m,z]
def Sx{s}{fn}{Z}(aj:P.underlying o=f (.slice W))(A:P.funcs[s]?=f fn)(R:(fn.name== "runtime.NumGoroutine")=v)(al:fn.body.isNone=l)(Q:Extern.findNext fn=n)(G:Extern.find fn=f (Extern.BytealgMakeNoZero.makeNoZero Z #[o])){E:ae}(C:r.op=.call {callee:=.value cP,args:=#[E],argTypes:=dr})(aC:η cP=.n (.Q (.c (.fn (.func s) [] []))))(X:η E=.n (.Q (.c (.int .i64 j))))(aL:0<j)(T:j<=140737488355328)(B:k[d]?=f (.K (eI ac W O v1 n ag h))):
  ∀b g,bc k b->(∀av,bx k b (g av) (η av))->∃(F:{aP:Nat×Nat // j<=aP.2}) (t:a6) (I:Y),(ab g r).run P b.a=.ok (.value I) t.a/\bx (k.set d (.K (eI ac W O v1 (f F.1) [] 0))) t I (cL (jH (f F.1) j)) /\
   bc (k.set d (.K (eI ac W O v1 (f F.1) [] 0))) t/\cN k b (k.set d (.K (eI ac W O v1 (f F.1) [] 0))) t/\du b ((ab g r).events P b.a #[]):=by
 intro b g aM D;obtain⟨L,an,aH,m⟩:=eI.row (P:=P) aM B;have y:g cP=.func (.func s) #[] #[]:=by
  have i:=D cP;rw[aC]at i;have i:=b7 i;generalize g cP=I at i;cases i with
  |fn aK e aT an aI aJ aF aG d1 d2=>
   grind
 have ai:g E=.int .i64 j:=by have i:=D E;rw[X]at i;have i:=b7 i;generalize g E=I at i;cases i;rfl
 obtain⟨e,i,J,K⟩:=Lib.run_makeNoZero (P:=P) b.a Z o W aj j w;have K:=K (by simp[maxLen];omega);have aw:(callFunc s #[.int .i64 j]).run P b.a=.ok (.value (.slice (f ⟨b.a.heap.size,0,n⟩) j e.size)) (b.a.drew.drew.alloc (.cells e W)):=by rw[run_callFunc_extern A R al Q G,i];rfl
 let bi:ar:=b.a.drew.drew.alloc (.cells e W);have V:bi.heap[b.a.heap.size]?=f (.cells e W (0,0)):=lT b.a.drew.drew _;have au:bi.heap.size=b.a.heap.size+1:=by show(b.a.drew.drew.heap.push _).size=_;simp
 obtain⟨z,af,aQ,aR,aS⟩:=m.f_;have aD:z=an:=by rw[m.v]at af;grind
 subst aD;have N:=aM.lt L (b_ m.t) z m.mem;have ax:b.a.heap.size≠z:=w;obtain⟨ah,t2⟩:=aM.ca (d:=d) (jZ:=eI ac W O v1 (f (b.a.heap.size,e.size)) [] 0) (cv:=⟨L.v,[z,b.a.heap.size]⟩) (bi:=bi) B m.t rfl w
  (λp x Q=>iV b.a.drew.drew _ x) (λp x=>by
   simp at x;rcases x with rfl|rfl
   .exact .inl m.mem
   grind)
  ⟨λp=>if p=z then f (.cells #[if O then L.v else .pointer n,v1] ac (0,0))else if p=b.a.heap.size then f (.cells e W (0,0))else n,⟨z,m.v,m.cell,by simp,ax,by simp,by omega,by simp[maxLen]at K;omega,by simp,⟨e.toList,by simp[fY],by exact hy⟩,λp=>by
   grind⟩,λp aN x=>by
   by_cases u:p=z
   .subst u;simp[dv]at x;have:bi.heap[p]?=b.a.heap[p]?:=iV b.a.drew.drew _ N;rw[this,<-x];exact m.heap _ _ m.cS
   grind,λp=>by grind⟩ rfl rfl rfl
 refine⟨⟨(b.a.heap.size,e.size),J⟩,_,_,?_,Rd.val rfl,ah,t2,?_⟩
 .simp[ab,C,resolve,Deferred.ofValue,invoke,y,ai,aw,bi,jH]
 intro a aA;simp[ab,C,resolve,Deferred.ofValue,invoke,y,ai]at aA;have H:a∈(callFunc s #[.int .i64 j]).events P b.a #[]:=M;have az:fn.name≠ "runtime.NumGoroutine":=M;have aE:fn.body=n:=by simpa using al
 have key:∀q:Array aO,∀u∈(Extern.BytealgMakeNoZero.makeNoZero Z #[o] #[.int .i64 j]).events P b.a q,u∈q∨∃aa,u=⟨.mark aa,v,l⟩/\Go.Conc.Neutral aa:=by
  intro q u G;change u∈Sem.events P (underlying _ >>= _) _ _ at G;have i:¬(j:Int)<0:=w;have J:¬(281474976710656:Int)<(j:Int):=w;have aq:u∈(askRoom (grownCap b.a j 0 W)).events P b.a.drew q:=by simpa[run_underlying aj,i,J,Question.forced,newRow,grownCap]using G
  grind[Go.Conc.events_askRoom]
 have:a∈(Extern.BytealgMakeNoZero.makeNoZero Z #[o] #[.int .i64 j]).events P b.a ((#[]:Array aO).push ⟨.mark (.extern s),v,l⟩):=by have u:callFunc s #[.int .i64 j]=callFunc s #[.int .i64 j]:=rfl;simpa[callFunc,A,az,aE,Q,G,i]using H
 rcases key _ _ this with ao|⟨aa,rfl,S⟩
 .simp at ao;subst ao;exact .inr ⟨s,rfl⟩
 exact .inl S
def Sy{N au}{i s:ae}(cl:r.op=.call {callee:=.builtin .unsafeString,args:=#[i,s],argTypes:=#[N,au]})(J:P.underlying N=f (.pointer W))(H:P.cellsOf W=1){C cap}(V:k[d]?=f (.K (eI ac W O v1 (f (C,cap)) ag h)))(Z:η i=cL (.pointer (f ⟨C,0,n⟩)))(aa:η s=ax (.int .i64 (c ag))):
  a1 P r η k (ax (.T ag)) (k.set d (.K (eI ac W O v1 (f (C,cap)) ag (c ag)))):=by
 intro b p u K;obtain⟨L,aW,aV,Q⟩:=eI.row (P:=P) u V;obtain⟨aN,t,aP,aQ,aR,⟨S,B,X⟩,aS,aI⟩:=Q.at;have R:=K i;rw[Z]at R;have R:=Rd.bc R;have ah:p s=.int .i64 (c ag):=by have y:=K s;rw[aa]at y;have y:=b7 y;generalize p s=aY at y;cases y;rfl
 have aM:=Q.heap _ _ X;have ai:ab p r=(do pure (.value (<-Builtin.unsafeString_ #[N,au] r.type #[p i,p s]))):=RC;have Y:(fY ag++S).toArray.size=cap:=M;by_cases E:ag=[]
 .subst E;have aw:=Lib.run_unsafeString_none (P:=P) b.a N au r.type (f ⟨C,0,n⟩);obtain⟨x,t2⟩:=Q.ca (oK:=[]) (pa:=0) (t1:=S) (bi:=b.a) u V B t D rfl (λ_ _=>rfl) M rfl rfl rfl;refine⟨.value (.string .empty),_,hy,Rd.T a D,x,t2,?_⟩;rw[ai,R,ah];exact Pq
 .have e:∀j i,ag[j]?=f i->b.a.cell? ((⟨C,0,n⟩:Addr).add j)=f (.int .u8 i.toNat):=by
   intro j i T;rw[g0];simp[aH,aM,cX];have ar:=(cO.1 T).1;have:(fY ag)[j]?=f (.int .u8 i.toNat):=by simp[fY,T]
   grind
  have al:b.a.shape? C=f (W,cap):=by simp[World.shape?,aM];grind
  have aw:=Lib.run_unsafeString_row (P:=P) b.a N au r.type W J H C cap al ag E t w e;have aj:c ag≠0:=M;have F:(b.a.freeze ⟨C,0,n⟩ (c ag)).heap[C]?=f (.cells (fY ag++S).toArray W (0,c ag)):=by simp[World.freeze,aj,dm,AJ,dv,aM,lE];grind
  obtain⟨x,t2⟩:=Q.ca (oK:=ag) (pa:=c ag) (t1:=S) (bi:=b.a.freeze ⟨C,0,n⟩ (c ag)) u V B t (bC _) z7 (λaT aq=>by
   simp only[World.freeze,aj,dm,AJ]
   grind) F z7 z7 z7
  refine⟨.value (.string ⟨ag.toArray⟩),_,?_,Rd.T D w,x,t2,?_⟩
  .rw[ai,R,ah];simp only[cJ,dY,aw];rfl
  rw[ai,R,ah];refine iS λq z=>?_;have aA:¬(c ag:Int)<0:=w;have aJ:¬(9223372036854775807:Int)<(c ag:Int):=w;have av:=Lib.liesAt_bytes (P:=P) H (cap / P.cellsOf W) (c ag) M;have az:IntKind.i64.max=9223372036854775807:=rfl;have I:=Lib.run_loadBytes (P:=P) b.a ag ⟨C,0,n⟩ .empty e;have aG:∀(G:m UInt8) (A:Nat) (o:ByteArray) (g:Array aO),(∀j i,G[j]?=f i->b.a.cell? ⟨C,A+j,n⟩=f (.int .u8 i.toNat))->∀q∈(loadBytes ⟨C,A,n⟩ o (c G)).events P b.a g,q∈g∨∃j,q=ps C j:=by
   intro G;induction G with
   |nil=>intro A o g _ q z;exact .inl (by simpa[loadBytes]using z)
   |cons s G af=>
    intro A o g H q z;have an:=H 0 s a;simp only[j6]at an;have aE:(load ⟨C,A,n⟩).run P b.a=.ok (.int .u8 s.toNat) b.a:=by grind[run_load]
    simp only[fh,loadBytes,aD,aE,aF,Cm an,g0]at z;rcases af (A+1) _ _ (λj i T=>by have:=H (j+1) i M;grind) q z with ao|ao
    .grind
    grind
  have aK:(variablesAt ⟨C,0,n⟩ W (c ag)).run P b.a=.ok l b.a:=by simp[variablesAt,al,av]
  have aC:∀g,(variablesAt ⟨C,0,n⟩ W (c ag)).events P b.a g=g:=λg=>by simp[variablesAt,al,av]
  have aL:q∈(loadBytes ⟨C,0,n⟩ .empty (c ag)).events P b.a #[]:=by change q∈Sem.events P (asInt (.int .i64 (c ag:Int)) >>= _) _ _ at z;simpa[asInt,asIntOf,az,aA,aJ,aj,elemOf,run_underlying J,aK,aC,I]using z
  rcases aG ag 0 .empty #[] (λj i T=>by grind[g0]) q aL with ao|⟨j,rfl⟩
  .grind
  exact qh (b_ Q.t) aI
end
section
variable {q:af P}{S:m (Nat×cp)}{ac:al}{C:Bool}{v1:Y}{bO:Option (Nat×Nat)}{ag:m UInt8}{e:Nat}
def a1.exact{h:ae}{j}{i}(m:η h=cL aa)(o:∀(a:ae->Y) g,a h=aa->(ab a r).run P g=.ok (.value j) g/\(ab a r).events P g #[]=#[])(t:∀k e,bx k e j i):a1 P r η k i k:=by refine .aR λe a s d=>?_;have b:=d h;rw[m]at b;have b:=Rd.bc b;obtain⟨p,q⟩:=o a e.a b;grind
def a1.fE{a:ae}(h:r.op=.call {callee:=.builtin .len,args:=#[a],argTypes:=dr})(g:dr[0]?=f o)(e:P.underlying o=f (.slice W)){b}{s}(m:η a=cL (.slice b j s))(i:j<=9223372036854775807):a1 P r η k (ax (.int .i64 j)) k:=
 .exact m (λp q d=>by constructor<;>simp[ab,h,resolve,invoke,builtin,Builtin.len_,d,run_underlying e,goInt,g]) (λ_ _=>Rd.int mX)
def a1.gT{a:ae}(h:r.op=.call {callee:=.builtin .cap,args:=#[a],argTypes:=dr})(g:dr[0]?=f o)(e:P.underlying o=f (.slice W)){b}{s}(m:η a=cL (.slice b j s))(i:s<=9223372036854775807):a1 P r η k (ax (.int .i64 s)) k:=
 .exact m (λp q d=>by constructor<;>simp[ab,h,resolve,invoke,builtin,Builtin.cap_,d,run_underlying e,goInt,g]) (λ_ _=>Rd.int mX)
def a1.h2{b:ae}(h:r.op=.call {callee:=.builtin .unsafeSliceData,args:=#[b],argTypes:=dr}){s}(e:η b=cL (.slice n j s)):a1 P r η k (cL (.pointer n)) k:=
 .exact e (λi m d=>by
  have g:Builtin.unsafeSliceData_ dr r.type #[.slice n j s]=pure (.pointer n):=rfl
  constructor<;>simp[ab,h,resolve,invoke,builtin,d,g]) (λ_ _=>Rd.val a)
def a1.h5{d:ae}(m:r.op=.call {callee:=.builtin .unsafeSliceData,args:=#[d],argTypes:=dr}){b}{s}(i:η d=cL (.slice (f b) j s))(g:s≠0):a1 P r η k (cL (.pointer (f b))) k:=
 .exact i (λp q e=>by
  obtain⟨o,rfl⟩:=Nat.exists_eq_succ_of_ne_zero g;have h:Builtin.unsafeSliceData_ dr r.type #[.slice (f b) j (o+1)]=pure (.pointer (f b)):=rfl
  constructor<;>simp[ab,m,resolve,invoke,builtin,e,h]) (λ_ _=>Rd.val a)
def a1.i_{B x:ae}(D:r.op=.slice o B n (f x) n)(E:P.underlying o=f (.slice W)){a4}(p:P.info? W=f a4){g}{m h:Nat}(N:η B=cL (.slice (f g) j m))(M:η x=ax (.int .i64 h))(z:h<=j)(s:j<=m)(F:m≠0)(K:g.add 0=g):a1 P r η k (cL (.slice (f g) h m)) k:=by
 refine .aR λI y e u=>?_;have i:=u B;rw[N]at i;have i:=Rd.bc i;have C:y x=.int .i64 h:=by have b:=u x;rw[M]at b;have b:=b7 b;generalize y x=O at b;cases b;rfl
 have q:((n:Option Y)=n/\(n:Option Int)=n)∨∃h w,(n:Option Y)=f (.int h w)/\(n:Option Int)=f w:=.inl ⟨rfl,rfl⟩;have e:(f (Value.int .i64 h)=n/\(f (h:Int))=n)∨∃A w,f (Value.int .i64 h)=f (.int A w)/\(f (h:Int))=f w:=.inr ⟨_,_,rfl,rfl⟩;have t:U (jh j n (f (h:Int))):=by simp[jh,z]
 obtain⟨d,_,_⟩:=vT (P:=P) (ki:=l) s q e t I.a;have J:=u5 (P:=P) (ki:=l) s q e t I.a;simp only[bV,cY]at d;refine⟨.slice (f g) h m,?_,Rd.val a,?_⟩
 .simp[ab,D,i,C,Instr.sliceAt,run_underlying E,Instr.slice,d,sizeOf,typeInfo,p,F,K]
 simp[ab,D,i,C,Instr.sliceAt,run_underlying E,Instr.slice,d,J,sizeOf,typeInfo,p,F]
def a1.iE{t2:al}{g h:ae}(m:r.op=.call {callee:=.builtin .copy,args:=#[g,h],argTypes:=#[o,t2]})(q:P.underlying o=f (.slice W)){a4}(e:P.info? W=f a4){i}{s}(t:η g=cL (.slice (f i) 0 s))(j:η h=cL (.slice n 0 0)):a1 P r η k (ax (.int .i64 0)) k:=by
 refine .aR λw u p a=>?_;have d:=a g;rw[t]at d;have d:=Rd.bc d;have b:=a h;rw[j]at b;have b:=Rd.bc b;refine⟨.int .i64 0,?_,Rd.int lx,?_⟩<;>
 simp[ab,m,resolve,invoke,builtin,Builtin.copy_,d,b,run_underlying q,sizeOf,typeInfo,e,Builtin.lenOf,Builtin.firstCells,storeCells,goInt]
def a1.jQ{u m}{j g:ae}(cl:r.op=.call {callee:=.builtin .unsafeString,args:=#[j,g],argTypes:=#[u,m]})(w:η j=cL (.pointer n))(t:η g=ax (.int .i64 ((0:Nat):Int))):a1 P r η k (ax (.T [])) k:=by
 refine .dt λb e s i=>?_;have h:=i j;rw[w]at h;have h:=Rd.bc h;have o:e g=.int .i64 0:=by have d:=i g;rw[t]at d;have d:=b7 d;generalize e g=x at d;cases d;rfl
 have p:ab e r=(do pure (.value (<-Builtin.unsafeString_ #[u,m] r.type #[e j,e g]))):=RC;have q:=Lib.run_unsafeString_none (P:=P) b.a u m r.type n;refine⟨.string .empty,?_,Rd.T a D,?_⟩
 .rw[p,h,o];simp only[cJ,dY,q];rfl
 rw[p,h,o];exact Pq
def a1.il(A:k[d]?=f (.K (eI ac W C v1 bO ag e))){a dst:al}{g:ae}(w:r.op=.convert a dst g)(z:P.underlying a=f (.pointer ac))(x:P.underlying dst=f .unsafePointer){u}(b:P.info? ac=f u)(t:u.size≠0)(B:η g=aI d 0):a1 P r η k (aI d 0) k:=by
 refine .aR λo p j m=>?_;obtain⟨L,h,k6,a'⟩:=eI.row (P:=P) j A;have i:=m g;rw[B]at i;have y:=a'.ptr i;have s:o.a.shape? h=f (ac,2):=NS;have q:=Lib.run_to_unsafe (P:=P) o.a ⟨h,0,n⟩ z x b t s D;refine⟨p g,by simp[ab,w,y,q],i,?_⟩;have:(convert a dst (.pointer (f ⟨h,0,n⟩))).events P o.a #[]=#[]:=by simp[convert,run_underlying z,run_underlying x,Conv.unsafePointer,Conv.seenAt,viewAt,cellsIn,s,sizeOf,typeInfo,b,t]
 simp[ab,w,y,q,this]
def a1.ig(A:k[d]?=f (.K (eI ac W C v1 bO ag e))){a dst:al}{g:ae}(w:r.op=.convert a dst g)(z:P.underlying a=f .unsafePointer)(x:P.underlying dst=f (.pointer ac)){u}(b:P.info? ac=f u)(B:u.size≠0)(q:liesAt P P.depth ac (2 / P.cellsOf ac) 0 ac 1=l)(D:η g=aI d 0):a1 P r η k (aI d 0) k:=by
 refine .aR λo p j m=>?_;obtain⟨L,h,k6,a'⟩:=eI.row (P:=P) j A;have i:=m g;rw[D]at i;have y:=a'.ptr i;have t:o.a.shape? h=f (ac,2):=NS;have s:=Lib.run_from_unsafe (P:=P) o.a ⟨h,0,n⟩ z x b t q;refine⟨p g,by simp[ab,w,y,s],i,?_⟩;have:(convert a dst (.pointer (f ⟨h,0,n⟩))).events P o.a #[]=#[]:=by simp[convert,run_underlying z,run_underlying x,Conv.unsafePointer,Conv.seenAt,viewAt,variablesAt,t,sizeOf,typeInfo,b,B,q]
 simp[ab,w,y,s,this]
def a1.jA{i}{fn}(t:P.funcs[i]?=f fn)(q:(fn.name== "runtime.NumGoroutine")=v)(e:fn.body.isNone=l)(g:Extern.findNext fn=n)(u:Extern.find fn=f Extern.AbiNoEscape.same){d:ae}(h:r.op=.call {callee:=.value cP,args:=#[d],argTypes:=dr})(F:η cP=.n (.Q (.c (.fn (.func i) [] [])))){o}(M:η d=o):a1 P r η k o k:=by
 refine .dt λm a D j=>?_;have s:a cP=.func (.func i) #[] #[]:=by
  have b:=j cP;rw[F]at b;have b:=b7 b;generalize a cP=N at b;cases b with
  |fn C y J K A B w x d1 d2=>
   grind
 have E:(callFunc i #[a d]).run P m.a=.ok (.value (a d)) m.a:=by rw[run_callFunc_extern t q e g u];rfl
 have I:=II (P:=P) t q e g u #[a d] (λ_ _=>rfl) m.a #[];refine⟨a d,?_,by grind,λz p=>?_⟩
 .simp[ab,h,resolve,Deferred.ofValue,invoke,s,E]
 simp[ab,h,resolve,Deferred.ofValue,invoke,s,I]at p;subst p;exact .inr ⟨_,rfl⟩
end
def Dy{a o:Type}{e:a->o}:∀{g:m a},(g.map e).Nodup->∀{b d:a},b∈g->d∈g->e b=e d->b=d
 |[],_,_,_,r,_,_=>by grind
 |t::s,j,b,d,p,q,k=>by
  simp only[mf,List.nodup_cons]at j;rcases e9.1 p with i|i<;>rcases e9.1 q with h|h
  .grind
  .grind
  .grind
  exact Dy j.2 i h k
def qE{bS}{a}(d:bS≠.bl)(b:jO a=l):jO (bS::a)=l:=by cases bS<;>first|exact b|grind
section
variable {q:af P}
def g.bU{aM o}(h:∀j b d,aM j b d->o j b d):∀{au:m ik}{j:Exit}{b:bJ}{d:m aq},g q E aM au j b d->g q E o au j b d
 |[],j,b,d,a=>h j b d a
 |.code k::au,.normal,b,d,a=>b3.mono a λ_ _ _ a=>g.bU h a
 |.code k::au,.exit _,b,d,a=>g.bU (au:=au) h a
 |.code k::au,.ret,b,d,a=>g.bU (au:=au) h a
 |.code k::au,.panic _,b,d,a=>g.bU (au:=au) h a
 |.code k::au,.goto _,b,d,a=>g.bU (au:=au) h a
 |.code k::au,.outgrown,b,d,a=>g.bU (au:=au) h a
 |.blk id::au,.exit p,b,d,a=>by
  simp only[g]at a⊢;split
  .rename_i j;rw[bo j]at a;exact g.bU (au:=au) h a
  rename_i j;rw[bj j]at a;exact g.bU (au:=au) h a
 |.blk id::au,.normal,b,d,a=>g.bU (au:=au) h a
 |.blk id::au,.ret,b,d,a=>g.bU (au:=au) h a
 |.blk id::au,.panic _,b,d,a=>g.bU (au:=au) h a
 |.blk id::au,.goto _,b,d,a=>g.bU (au:=au) h a
 |.blk id::au,.outgrown,b,d,a=>g.bU (au:=au) h a
 |.aj i e::au,.normal,b,d,a=>ff.mono a λ_ _ a=>g.bU h a
 |.aj i e::au,.exit _,b,d,a=>g.bU (au:=au) h a
 |.aj i e::au,.ret,b,d,a=>g.bU (au:=au) h a
 |.aj i e::au,.panic _,b,d,a=>g.bU (au:=au) h a
 |.aj i e::au,.goto _,b,d,a=>g.bU (au:=au) h a
 |.aj i e::au,.outgrown,b,d,a=>g.bU (au:=au) h a
def g.fD{id}{R:bJ->m aq->Prop}{d s i}(a:iT id d=n)(b:iT id s=f i)(o:g q E bd i .normal I k):
  g q E (v8 R (g q E bd s)) (.code (.exit id)::d) .normal I k:=
 g.bU (λj e h p=>by cases j<;>exact p) (g.bs (q:=q) (E:=E) (As:=bd) (R:=R) (I:=I) (k:=k) a b o)
end
section
variable {q:af P}
def g.bf{fn}{t}{ap:ι->m aq}(e)(aV){ah}{o}{i}(h:U Z)(bX:∀u,u<t->aV[u]?=f u)(j:fn.results.toList=[.cell o ty]:=by exact rfl)(bp:bZ ac ty=f i:=by exact rfl)(A:i.agg=l:=by exact rfl)(r:look I o=aI d 0:=by exact rfl)(gQ:c_ d k=f (.cells W ah):=by exact rfl)(x:ad (c ah) i.size=l:=by exact rfl)(s:ek d aV=v:=by exact rfl)(aj:kj (.n (.agg ah)) (fc aV (res e))=f Z:=by exact rfl)(O:hO (c aV) (res e)=l:=by exact rfl)(S:dx aV k=f (ap e):=by exact rfl)(C:l3 (ap e)=l:=by exact rfl)(jm:fb aV=l:=by exact rfl):
  g q E (λaw I aS=>∃u,ui ac fn t (res u) (ap u) aw I aS) (.code .ret::au) .normal I k:=
 g.ret ⟨e,.inl a,aV,d,W,ah,o,ty,i,Z,n,nofun,j,bp,A,dn x,r,et gQ,KE s,aj,h,O,S,C,jm,bX⟩
def g.b'{fn}{h}{ap:ι->m aq}(e)(aV){ah}{o bz}{i}{F}(A:U Z)(bX:∀u,u<h->aV[u]?=f u)(r:fn.results.toList=[.cell o ty,.tmp bz]:=by exact rfl)(bp:bZ ac ty=f i:=by exact rfl)(j:i.agg=l:=by exact rfl)(bl:look I o=aI d 0:=by exact rfl)(S:look I bz=.n F:=by exact rfl)(gQ:c_ d k=f (.cells W ah):=by exact rfl)(x:ad (c ah) i.size=l:=by exact rfl)(s:ek d aV=v:=by exact rfl)(aj:kj (.S [.agg ah,F]) (fc aV (res e))=f Z:=by exact rfl)(O:hO (c aV) (res e)=l:=by exact rfl)(a':dx aV k=f (ap e):=by exact rfl)(C:l3 (ap e)=l:=by exact rfl)(jm:fb aV=l:=by exact rfl):
  g q E (λaw I aS=>∃u,ui ac fn h (res u) (ap u) aw I aS) (.code .ret::au) .normal I k:=
 g.ret ⟨e,.inl a,aV,d,W,ah,o,ty,i,Z,f (bz,F),λ_ t=>by cases t;exact S,r,bp,j,dn x,bl,et gQ,KE s,aj,A,O,a',C,jm,bX⟩
def X.bg(aY:b2 P ac){d}{fn}{args}{res}(j:P.funcs[d]?=f fn)(i:(fn.name== "runtime.NumGoroutine")=v)(b:fn.body=f s)(h:ay args.length fn.ntmps=l)(o:kw args k->g q fn.ntmps (λm e a=>∃_:Unit,ui ac fn k.length res ap m e a) [.code s] .normal (h2 0 args) k):X q d args k res ap:=
 (bk.bA (ι:=Unit) (ap:=λ_=>ap) (res:=λ_=>res) aY j i b h o).toX
end
end Go.AM
