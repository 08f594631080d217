/- Part 2. No condition. -/
import Derived.Test.YtiiglbogpodloaaGreatDoorA1
import Derived.KernelRfl
import Derived.Test.YtiiglbogpodloaaGreatDoorProg
import Derived.MapKept
import Derived.Maps.RangeRun
import Derived.Laws.MakeOwn
import Derived.Lib.SliceRun
import Derived.Lib.FrozenHead
import Derived.Lib.UnsafeStr
import Derived.Lib.MakeNoZero
set_option linter.all false
set_option maxHeartbeats 8000000
open Go.Proofs
open Go.Proofs.Tryz
open Go.Conc (G)
open List renaming length → c, range → aA, getD_eq_getElem?_getD → al, all_eq_true → aW
open Go renaming Value → X, TypeId → an, Event → aN, undef → I, World → au, Frame → aG, FuncId → aZ, execOp → ab, Operand → ae, Program → aD, Goroutine → ag, stepG → ap, Oper → ao
open Option renaming some → f, none → n
open Bool renaming true → l, false → v
open Nat renaming beq → ad, ble → ay
open Go.Region renaming wanted → aO, ready → aL
open Go.World renaming cell? → aH
open Go.Sem renaming events_bind → aC
open Go.Result renaming evThen_ok → aE
open Go.Instr renaming sliceBounds → aS
open Go.Op renaming equalIn → aK
open Go.Proofs.Tryz renaming prog → S
namespace Go.AM
variable {j A:Nat}{h:Int}{d i e u:Nat}{W:an}{H:X->(Nat->Option Obj)->Prop}{L:Array Bool}{bB:Mem}{F:Nat}{P:aD}{br:ag->a6->Prop}{s:Code}{C:ag}{r:ao}{b:a6}{o:an}{aa:X}{p:au}{α:Type}{η:ae->y}{ι:Type}{k:m ar}{J:bM}{all:m ao}{dt:Array an}{cap:m M}{cS:m y}{lc:Nat->Option Obj}{ai:m aG}{bf:m (Nat×Bool)}{V:Nat->m M}{cQ:ae}{gs:Array ag}{aY:m Nat}{cp:m Prop}{off:Nat}{op:BinOp}{aV:Array ao}{Z:m Prop}{bq:m ao}{aF:a6}{ty:an}{val:Nat->Nat->X}{z:m X}{bi:au}{ah:Array ae}{aq di:m ar}{res:ι->y}{aX:ι->m ar}
section force
variable {T:Type}
def vo:M->(M->Option T)->Option T
 |.int g h,a=>a (.int g h)
 |.bool e,a=>a (.bool e)
 |.S m,a=>a (.S m)
 |.B l g h d,a=>a (.B l g h d)
 |.B v g h d,a=>a (.B v g h d)
 |.Q b,a=>e5 b λb=>a (.Q b)
 |.cE o b,a=>e5 b λb=>a (.cE o b)
 |.fn k i e,a=>e5 i λi=>e5 e λe=>a (.fn k i e)
 |j,a=>a j
def Zq(s)(b:M->Option T):vo s b=b s:=by
 cases s with
 |B d=>cases d<;>rfl
 |Q a=>simp[vo,hL]
 |cE d a=>simp[vo,hL]
 |fn h e g=>simp[vo,hL]
 |_=>rfl
def vn:Q->(Q->Option T)->Option T
 |.c j,a=>vo j λj=>a (.c j)
 |.ptr b i,a=>a (.ptr b i)
 |.x b d h e,a=>a (.x b d h e)
 |.aP b,a=>a (.aP b)
 |.O b (.B g d i h),a=>a (.O b (.B g d i h))
 |.O b (.bx g d m k),a=>a (.O b (.bx g d m k))
 |.any,a=>a .any
def Ka(a)(b:Q->Option T):vn a b=b a:=by
 cases a with
 |O e d=>cases d<;>simp[vn]
 |_=>simp[vn,Zq]
def yx:m Q->(m Q->Option T)->Option T
 |[],b=>b []
 |a::d,b=>vn a λa=>yx d λd=>b (a::d)
def Zp(d)(a:m Q->Option T):yx d a=a d:=by
 induction d generalizing a with
 |nil=>rfl
 |cons e g b=>simp[yx,Ka,b]
def yz:E1->(E1->Option T)->Option T
 |.R b,d=>vn b λb=>d (.R b)
 |.agg a,d=>yx a λa=>d (.agg a)
def Kb(a)(b:E1->Option T):yz a b=b a:=by cases a<;>simp[yz,Ka,Zp]
def yA:m E1->(m E1->Option T)->Option T
 |[],b=>b []
 |a::d,b=>yz a λa=>yA d λd=>b (a::d)
def Zr(d)(a:m E1->Option T):yA d a=a d:=by
 induction d generalizing a with
 |nil=>rfl
 |cons e g b=>simp[yA,Kb,b]
def pj:y->(y->Option T)->Option T
 |.n d,b=>yz d λd=>b (.n d)
 |.T a,b=>yA a λa=>b (.T a)
 |.any,b=>b .any
theorem vp(a)(b:y->Option T):pj a b=b a:=by cases a<;>simp[pj,Kb,Zr]
end force
def qR:y->Option (Bool×Nat×Nat×(Nat->m M))
 |.n (.R (.c (.B e b d a)))=>f (e,b,d,a)
 |.n (.R (.x _ b d a))=>f (v,b,d,a)
 |_=>n
theorem tO{d}{o}{h}(a:qR d=f (o,h,j,V))(k)(b)(aa)(e:bx k b aa d):Rd b.D aa (.B o h j V):=by
 unfold qR at a;split at a
 .cases a;exact e
 .cases a;exact e.1
 grind
def kM(b:m UInt8)(a:Int):UInt8:=b.getD a.toNat 0
def DC(b:m (Nat×cq))(h:an)(a:y):Option y:=
 match b0 b h with
 |none=>n
 |some d=>match d.desc with
  |.slice _=>match qR a with
   |some (_,_,e,_)=>f (ax (.int .i64 e))
   |none=>n
  |.string=>match a with
   |.n (.R (.c (.S g)))=>f (ax (.int .i64 (c g)))
   |_=>n
  |_=>n
def Cg(e:m (Nat×cq))(b dst:an)(d:y):Option (y×m Prop):=
 match b0 e b with
 |none=>n
 |some h=>match b0 e dst with
  |none=>n
  |some i=>match i.desc with
   |.int a=>match d with
    |.n (.R (.c (.int _ k)))=>f (ax (.int a k),[a8 a k])
    |_=>n
   |.string=>match d with
    |.n (.R (.c (.S s)))=>f (ax (.S s),[])
    |d=>match h.desc with
     |.slice o=>match b0 e o with
      |some j=>match j.desc with
       |.int .u8=>match qR d with
        |some (_,p,q,g)=>match ad p 1 with
         |true=>match u2 g 0 q with
          |some r=>f (ax (.S r),[])
          |none=>n
         |false=>n
        |none=>n
       |_=>n
      |none=>n
     |_=>n
   |_=>n
def ED(j:m (Nat×cq))(a:ae->y)(t:an)(p:ae)(i h:Option ae):Option (y×m Prop):=
 match b0 j t with
 |none=>n
 |some r=>match kL a i with
  |none=>n
  |some d=>match kL a h with
   |none=>n
   |some e=>match r.desc with
    |.string=>match a p with
     |.n (.R (.c (.S o)))=>f (ax (.S (mx o d e)),jq (c o) d e)
     |_=>n
    |.slice q=>match b0 j q with
     |none=>n
     |some b=>match qR (a p)with
      |some (eU,s,k,g)=>match ad s b.size with
       |true=>f (ax (.B (xZ eU e) b.size (bW k e-bW 0 d) (fJ (bW 0 d) g)),jq k d e)
       |false=>n
      |none=>n
    |_=>n
def sP(d:BinOp)(e:IntKind)(g:Int)(b:IntKind)(h:Int):Option (y×m Prop):=
 match uX d e g b h with
 |some (i,a)=>f (ax (.int e i),a)
 |none=>n
theorem Ti{h a}{b i}{e}(g:sP op h b a i=f (e,cp)):∃d,e=ax (.int h d)/\uX op h b a i=f (d,cp):=by unfold sP at g;grind
def G3(q:m (Nat×cq))(e:BinOp)(r:an)(t u:y):Option (y×m Prop):=
 match t,u with
 |.n (.R (.c (.bool b))),.n (.R (.c (.bool a)))=>match b0 q r with
  |some p=>match p.desc with
   |.bool=>match ij e (b==a)with
    |some g=>f (ax (.bool g),[])
    |none=>n
   |_=>n
  |none=>n
 |.n (.R (.c b)),.n (.R (.c a))=>match e with
  |.xor=>match b,a with
   |.int .i64 b,.int .i64 a=>f (ax (.int .i64 ((b.toNat ^^^ a.toNat:Nat):Int)),[0<=b,0<=a])
   |.int .u64 b,.int d a=>sP .xor .u64 b d a
   |_,_=>n
  |.shl=>match b,a with
   |.int h b,.int d a=>sP .shl h b d a
   |_,_=>n
  |.shr=>match b,a with
   |.int h b,.int d a=>sP .shr h b d a
   |_,_=>n
  |.and=>match b,a with
   |.int h b,.int d a=>sP .and h b d a
   |_,_=>n
  |_=>match xw e b a with
   |some (g,i)=>f (ax g,i)
   |none=>n
 |.n (.agg j),.n (.agg o)=>match b0 q r with
  |some p=>match p.eq with
   |[]=>n
   |s::k=>match qm (s::k) j o with
    |some a=>match ij e a with
     |some g=>f (ax (.bool g),[])
     |none=>n
    |none=>n
  |none=>n
 |_,_=>n
def y9(g:m (Nat×cq))(A:m (Nat×bI))(b:bM)(O:ao):Option (y×m Prop):=
 match O.op with
 |.move a|.assign a=>f (bE b a,[])
 |.index d a x=>match b0 g d with
  |some k=>match k.desc with
   |.string=>match bE b a,bE b x with
    |.n (.R (.c (.S r))),.n (.R (.c (.int _ i)))=>f (ax (.int .u8 (kM r i).toNat),[0<=i,i<c r])
    |_,_=>n
   |_=>n
  |none=>n
 |.indexAddr d a x=>match b0 g d with
  |some k=>match k.desc with
   |.slice M=>match b0 g M with
    |some I=>match qR (bE b a),bE b x with
     |some (_,o,z,p),.n (.R (.c (.int _ i)))=>match ad o I.size with
      |true=>f (ax (.Q (p i.toNat)),[0<=i,i<z])
      |false=>n
     |_,_=>n
    |none=>n
   |_=>n
  |none=>n
 |.slice d a J F n=>ED g (bE b) d a J F
 |.convert w dst a=>Cg g w dst (bE b a)
 |.call h=>match h.callee with
  |.builtin .len=>match h.args.toList,h.argTypes[0]? with
   |[a],f d=>match DC g d (bE b a)with
    |some N=>f (N,[])
    |none=>n
   |_,_=>n
  |.value E=>B3 A b E h.args.toList
  |_=>n
 |.pick h s t=>match bE b h with
  |.n (.R (.c (.bool l)))=>f (bE b s,[])
  |.n (.R (.c (.bool v)))=>f (bE b t,[])
  |_=>n
 |.binOp q d a x _=>G3 g q d (bE b a) (bE b x)
 |.unOp q _ a=>match bE b a with
  |.n (.R (.c s))=>match zX q s with
   |some h=>f (ax h,[])
   |none=>n
  |_=>n
 |.extract a i=>match bE b a with
  |.T K=>match da i K with
   |some u=>f (.n u,[])
   |none=>n
  |_=>n
 |.fieldAddr d a D=>match lm g d D with
  |some (o,_)=>match bE b a with
   |.n (.R (.ptr r j))=>f (aI r (j+o),[])
   |.n (.R (.c (.Q e)))=>f (ax (.Q (gg o e)),[])
   |_=>n
  |none=>n
 |.field d a D=>match lm g d D with
  |some (o,i)=>match bE b a with
   |.n (.agg e)=>match hq i (gg o e)with
    |some u=>f (.n u,[])
    |none=>n
   |_=>n
  |none=>n
 |.nilCheck a=>match bE b a with
  |.n (.R (.ptr r j))=>f (aI r j,[])
  |.n (.R (.c (.Q e)))=>f (ax (.Q e),[])
  |_=>n
 |.build d parts=>match xA g (bE b) d parts.toList with
  |some e=>f (.n (.agg e),[])
  |none=>n
 |.buildSlice d z parts=>match rZ g (bE b) d z parts.toList with
  |some (o,p)=>f (ax (.B l o z λk=>p.getD k []),[])
  |none=>n
 |.makeFunc fn s t=>match rH (bE b) s.toList with
  |some B=>match rH (bE b) t.toList with
   |some C=>f (ax (.fn fn B C),[])
   |none=>n
  |none=>n
 |.makeInterface d a=>match b0 g d with
  |some k=>match vD k.desc with
   |false=>match yZ d (bE b a)with
    |some h=>f (ax h,[])
    |none=>n
   |true=>n
  |none=>n
 |.typeAssert a _ d l=>match b0 g d with
  |some k=>match vD k.desc with
   |false=>match bE b a with
    |.n (.R (.c h))=>match sN d k h with
     |some (u,t)=>f (.T [u,.R (.c (.bool t))],[])
     |none=>n
    |_=>n
   |true=>n
  |none=>n
 |_=>n
def DH(h:m (Nat×cq))(g:bM)(i:m ar)(k:an)(o:ae):Option y:=
 match b0 h k with
 |some e=>match bE g o with
  |.n (.R (.ptr j b))=>match da j i with
   |some (.cells _ a)=>match hq e (gg b a)with
    |some d=>f (.n d)
    |none=>n
   |_=>n
  |.n (.R (.c (.Q a)))=>match hq e (a.map Q.c)with
   |some d=>f (.n d)
   |none=>n
  |_=>n
 |none=>n
def D0(k:m (Nat×cq))(b:bM)(J:ao):Option (y×m Prop):=
 match J.op with
 |.indexAddr j g w=>match b0 k j with
  |some a=>match a.desc with
   |.slice q=>match b0 k q with
    |some e=>match bE b g,bE b w with
     |.n (.R (.O s (.B r o u h))),.n (.R (.c (.int _ d)))=>match ad o e.size with
      |true=>f (cE s (.bx r e.size (u+d.toNat) 0),[0<=d,d<h])
      |false=>n
     |.n (.R (.c (.val (.slice (f ⟨z,i,n⟩) p _)))),.n (.R (.c (.int _ d)))=>f (ax (.val (.pointer (f ⟨z,i+d.toNat*e.size,n⟩))),[0<=d,d<p])
     |_,_=>n
    |none=>n
   |_=>n
  |none=>n
 |.fieldAddr j g I=>match lm k j I with
  |some (o,_)=>match bE b g with
   |.n (.R (.O s (.bx r x a u)))=>f (cE s (.bx r x a (u+o)),[])
   |.n (.R (.c (.val (.pointer (f ⟨z,i,n⟩)))))=>f (ax (.val (.pointer (f ⟨z,i+o,n⟩))),[])
   |_=>n
  |none=>n
 |.nilCheck g=>match bE b g with
  |.n (.R (.O s (.bx r x a u)))=>f (cE s (.bx r x a u),[])
  |_=>n
 |.slice j g D C n=>match b0 k j with
  |none=>n
  |some a=>match kL (bE b) D with
   |none=>n
   |some t=>match kL (bE b) C with
    |none=>n
    |some F=>match a.desc with
     |.slice q=>match b0 k q with
      |none=>n
      |some e=>match bE b g with
       |.n (.R (.O s (.B r o u h)))=>match ad o e.size with
        |true=>f (cE s (.B r e.size (u+bW 0 t) (bW h F-bW 0 t)),jq h t F)
        |false=>n
       |_=>n
     |_=>n
 |.slice j g n (f w) (f E)=>match b0 k j with
  |none=>n
  |some a=>match a.desc with
   |.slice q=>match b0 k q with
    |none=>n
    |some _=>match qR (bE b g),bE b w,bE b E with
     |some (_,o,p,B),.n (.R (.c (.int _ d))),.n (.R (.c (.int _ h)))=>f (ax (.B v o d.toNat B),[0<=d,d<=h,h<=p])
     |_,_,_=>n
   |_=>n
 |.slice j g (f K) (f w) (f E)=>match b0 k j with
  |none=>n
  |some a=>match a.desc with
   |.slice q=>match b0 k q with
    |none=>n
    |some _=>match bE b g,bE b K,bE b w,bE b E with
     |.n (.R (.O _ (.B _ _ _ p))),.n (.R (.c (.int _ a))),.n (.R (.c (.int _ d))),.n (.R (.c (.int _ h)))=>f (.n (.R .any),[0<=a,a<=d,d<=h,h<=p])
     |_,_,_,_=>n
   |_=>n
 |.call A=>match A.callee with
  |.builtin .len=>match A.args.toList,A.argTypes[0]? with
   |[g],f j=>match b0 k j with
    |some a=>match a.desc with
     |.slice _=>match bE b g with
      |.n (.R (.O _ (.B _ _ _ h)))=>f (ax (.int .i64 h),[])
      |.n (.R (.c (.val (.slice _ p _))))=>f (ax (.int .i64 p),[p<=9223372036854775807])
      |_=>n
     |_=>n
    |none=>n
   |_,_=>n
  |_=>n
 |_=>n
def yO(i:m (Nat×cq))(h:bM)(j:m ar)(s:an)(t:ae):Option (y×m Prop):=
 match b0 i s with
 |some b=>match bE h t with
  |.n (.R (.O r (.bx p q e o)))=>match da r j with
   |some (.q _ d g a)=>match ad d q with
    |true=>match hq b ((gg o (a e)).map Q.c)with
     |some k=>f (.n k,[p=g,e<g])
     |none=>n
    |false=>n
   |_=>n
  |_=>n
 |none=>n
def aeL:Nat->m M->Nat->Bool
 |0,a,b=>ad (c a) b
 |_+1,_,_=>v
def EN(u:m (Nat×cq))(q:bM)(i:m ar)(w:an)(x z:ae):Option (y×m ar×m Prop):=
 match b0 u w with
 |some k=>match bE q x with
  |.n (.R (.O o (.bx s t h r)))=>match da o i with
   |some (.q p e g d)=>match ad e t with
    |true=>match mv (bE q z)with
     |some new=>match ad (c new) k.size with
      |true=>match ic new with
       |some b=>match aeL r b t with
        |true=>e5 (dd.cu o (.q p e g (l' h b d)) i) λa=>f (.any,a,[s=g,h<g])
        |false=>match jb r b (d h)with
         |some j=>e5 (dd.cu o (.q p e g (l' h j d)) i) λa=>f (.any,a,[s=g,h<g])
         |none=>n
       |none=>n
      |false=>n
     |none=>n
    |false=>n
   |_=>n
  |_=>n
 |none=>n
def pv(b:m (Nat×cq))(d:m (Nat×bI))(a:bM)(g:m ar)(e:ao):Option (y×m Prop):=
 match e.op with
 |.load h i=>match DH b a g h i with
  |some j=>f (j,[])
  |none=>yO b a g h i
 |_=>match y9 b d a e with
  |some k=>f k
  |none=>D0 b a e
def xp(e:m (Nat×cq))(i t2:an):Option (an×cq):=
 match b0 e i with
 |none=>n
 |some h=>match b0 e t2 with
  |none=>n
  |some g=>match h.desc with
   |.slice b=>match g.desc with
    |.slice d=>match ad d b with
     |false=>n
     |true=>match b0 e b with
      |none=>n
      |some a=>match ay 1 a.bytes,ay 1 a.size with
       |true,l=>f (b,a)
       |_,_=>n
    |_=>n
   |_=>n
def uT(h:m (Nat×cq))(e:ae->y)(k:ae)(j t2:an):Option (an×cq×Nat×(Nat->m M)):=
 match xp h j t2 with
 |none=>n
 |some (g,b)=>match qR (e k)with
  |none=>n
  |some (_,d,i,a)=>match ad d b.size with
   |false=>n
   |true=>f (g,b,i,a)
def Bb(t:m (Nat×cq))(s:ae->y)(j:m ar)(x z:ae)(w t2:an):Option (y×m ar×m Prop):=
 match uT t s z w t2 with
 |none=>n
 |some (q,a,i,b)=>match s x with
  |.n (.R (.c (.B l r d g)))=>match ad r a.size with
   |true=>e5 (j++[.x q a.size (d+i) (cj d g b)]) λh=>f (.n (.R (.x (c j) a.size (d+i) (cj d g b))),h,[(d+i)*a.bytes<=140737488355328,d=0∨0<i])
   |false=>match ad d 0 with
    |true=>e5 (j++[.x q a.size (d+i) (cj d g b)]) λh=>f (.n (.R (.x (c j) a.size (d+i) (cj d g b))),h,[(d+i)*a.bytes<=140737488355328,d=0∨0<i])
    |false=>n
  |.n (.R (.x p r d g))=>match da p j with
   |some (.x k o e kQ)=>match ad k q,ad r a.size,ad o a.size with
    |true,l,l=>e5 (dd.cu p (.x q a.size (d+i) (cj d g b)) j) λh=>f (.n (.R (.x p a.size (d+i) (cj d g b))),h,[e=d,kQ=g,(d+i)*a.bytes<=140737488355328])
    |_,_,_=>n
   |_=>n
  |.n (.R (.O p (.B u r 0 d)))=>match da p j with
   |some (.q k o e kQ)=>match ad k q,ad r a.size,ad o a.size with
    |true,l,l=>e5 (dd.cu p (.q q a.size (e+i) (cj e kQ b)) j) λh=>f (cE p (.B (e+i) a.size 0 (e+i)),h,[u=e,d=e,(e+i)*a.bytes<=140737488355328])
    |_,_,_=>n
   |_=>n
  |_=>n
def D3(d:m (Nat×cq))(g:m (Nat×bI))(a:bM)(b:m ar)(i:ao):Option (y×m ar×m Prop):=
 match i.op with
 |.alloc _|.box _ _=>y8 d a b i
 |.store j k o=>match y8 d a b i with
  |some p=>f p
  |none=>EN d a b j k o
 |.call e=>match e.callee with
  |.builtin .append=>match e.args.toList,e.argTypes.toList with
   |[k,o],[j,t2]=>Bb d (bE a) b k o j t2
   |_,_=>n
  |.value h=>B2 g a b h e.args.toList
  |_=>n
 |_=>n
def Ba(i:m (Nat×cq))(e:ae->y)(k o:ae)(j t2:an):Option (y×m Prop):=
 match uT i e o j t2 with
 |none=>n
 |some (_,b,h,a)=>match e k with
  |.n (.R (.c (.B l p d g)))=>match ad d 0 with
   |true=>f (ax (.B v b.size (d+h) (cj d g a)),[(d+h)*b.bytes<=140737488355328,d=0∨0<h])
   |false=>n
  |_=>n
def D1(d:m (Nat×cq))(b:bM)(e:ao):Option (y×m Prop):=
 match e.op with
 |.call a=>match a.callee with
  |.builtin .append=>match a.args.toList,a.argTypes.toList with
   |[h,i],[g,t2]=>Ba d (bE b) h i g t2
   |_,_=>n
  |_=>n
 |_=>n
def vJ:m (Nat×Bool)->Nat->Option Bool
 |[],_=>n
 |(d,b)::e,a=>match ad d a with|true=>f b|false=>vJ e a
def Dx(a:m (Nat×Bool)):Option Nat->Bool
 |none=>v
 |some b=>match vJ a (2000000+b)with
  |some l=>l
  |_=>v
def Z9(a:m (Nat×Bool)):Option Nat->Bool
 |none=>v
 |some b=>match vJ a (3000000+b)with
  |some l=>l
  |_=>v
def Bc(s:an)(a:cq)(d:ae->y)(t:m ar)(z A:ae):Option (y×m ar×m Prop):=
 match d z,d A with
 |.n (.R (.O e (.B w x 0 o))),.n (.R (.O r (.B k p u g)))=>match ad r e with
  |false=>n
  |true=>match da e t with
   |some (.q h q b j)=>match ad h s,ad x a.size,ad p a.size,ad q a.size with
    |true,l,l,l=>e5 (dd.cu e (.q s a.size b (qJ o u g j)) t) λi=>f (cE e (.B b a.size 0 (o+g)),i,[w=b,k=b,o+g<=b,u+g<=b])
    |_,_,_,_=>n
   |_=>n
 |_,_=>n
def Bd(s:Bool)(k:m (Nat×cq))(b:ae->y)(h:m ar)(p q:ae)(o t2:an):Option (y×m ar×m Prop):=
 match s with
 |true=>match uT k b q o t2 with
  |none=>n
  |some (g,a,e,d)=>match b p with
   |.n (.R (.c (.B l _ r j)))=>match ad r 0 with
    |true=>e5 (h++[.q g a.size (0+e) (cj 0 j d)]) λi=>f (cE (c h) (.B (0+e) a.size 0 (0+e)),i,[(0+e)*a.bytes<=140737488355328])
    |false=>n
   |_=>n
 |false=>match xp k o t2 with
  |none=>n
  |some (g,a)=>Bc g a b h p q
def y_(i:Bool)(d:m (Nat×cq))(b:bM)(e:m ar)(g:ao):Option (y×m ar×m Prop):=
 match g.op with
 |.call a=>match a.callee with
  |.builtin .append=>match a.args.toList,a.argTypes.toList with
   |[j,k],[h,t2]=>Bd i d (bE b) e j k h t2
   |_,_=>n
  |_=>n
 |_=>n
def vU(h:m (Nat×Bool))(e:m (Nat×cq))(b:m (Nat×bI))(d:bM)(g:m ar)(a:ao):Option (y×m ar×m Prop):=
 match Z9 h a.dst with
 |true=>y_ l e d g a
 |false=>match D3 e b d g a with
  |some i=>f i
  |none=>y_ v e d g a
def ve(b:m (Nat×Bool))(g:Option Nat)(d:y)(a:m Prop):Option (y×m Prop):=
 match g with
 |none=>f (d,a)
 |some i=>match vJ b i with
  |none=>f (d,a)
  |some e=>match d with
   |.n (.R (.c (.bool h)))=>f (ax (.bool e),gT a [h=e])
   |_=>n
def T4{g}{d e}{b}(a:ve bf g d cp=f (e,b))(h:U b):e=d/\U cp:=by
 unfold ve at a;split at a
 .grind
 split at a
 .grind
 split at a
 .cases a;simp_all
 grind
def iI(j:m (Nat×cq))(g:m (Nat×bI))(d:m (Nat×Bool))(h:m ao)(i:bM)(q:m ar)(e:ao):Option (y×Option (m ar)×m Prop):=
 let go:Option (y×Option (m ar)×m Prop):=match pv j g i q e with
  |some (b,a)=>match ve d e.dst b a with
   |some (p,r)=>pj p λp=>f (p,n,r)
   |none=>n
  |none=>match Dx d e.dst with
   |true=>match D1 j i e with
    |some (b,a)=>pj b λb=>f (b,n,a)
    |none=>n
   |false=>match vU d j g i q e with
    |some (b,k,a)=>pj b λb=>f (b,f k,a)
    |none=>n
 match e.guard with
 |none=>go
 |some (t,s)=>match yF i h t with
  |some (f o)=>match s,o with
   |true,l=>go
   |false,v=>go
   |_,_=>f (.T [],n,[])
  |some n=>f (.T [],n,[])
  |none=>n
section
variable {q:af P}{ac:m (Nat×cq)}{CT:m (Nat×bI)}
def GS(a0:b3 P ac){j k:ae}{t2:an}{a5}(g:r.op=.call {callee:=.builtin .append,args:=#[j,k],argTypes:=#[o,t2]})(a:xp ac o t2=f (W,a5)):j9 P r j k W a5:=by
 unfold xp at a;split at a
 .cases a
 rename_i i e;split at a
 .cases a
 rename_i h q;split at a
 case h_2=>cases a
 rename_i W s;split at a
 case h_2=>cases a
 rename_i m b;split at a
 .cases a
 rename_i p;have t:=dp p;subst t;split at a
 .cases a
 rename_i a5 d;split at a
 case h_2=>cases a
 rename_i u w;cases a;exact⟨⟨o,t2,i,h,g,a0 o i e,s,a0 t2 h q,b⟩,a0 _ _ d,by exact lO,by exact lO⟩
def Be(a0:b3 P ac){p h:ae}{t2:an}{a5}{a:Nat->m M}(j:r.op=.call {callee:=.builtin .append,args:=#[p,h],argTypes:=#[o,t2]})(b:uT ac η h o t2=f (W,a5,A,a)):
  j9 P r p h W a5/\∃d,∀i e g,bx i e g (η h)->Rd e.D g (.B d a5.size A a):=by
 unfold uT at b;split at b
 .cases b
 rename_i t;split at b
 .cases b
 rename_i d u A a k;split at b
 .cases b
 rename_i q;have s:=dp q;subst s;cases b;exact⟨GS a0 j t,d,λi e g=>tO k i e g⟩
theorem S9(a0:b3 P ac)(z:∀k i m,b1 F k i J m->aO r (yielded all.toArray m.tmps)=l){u w:ae}{t2:an}{s}(e:r.op=.call {callee:=.builtin .append,args:=#[u,w],argTypes:=#[o,t2]})(a:Ba ac (bE J) u w o t2=f (s,cp))(p:U cp):aT q F all r J k s k:=by
 unfold Ba at a;split at a
 .cases a
 rename_i x A E t d;obtain⟨y,B,b⟩:=Be a0 e d;have b:=λi D=>b k i D;split at a
 .rename_i h j V g;split at a
  .rename_i C;cases a;exact(aT.aZ z (a1.fZ y g (.inr (dp C)) b p.1 p.2)).e4
  grind
 grind
theorem S_(a0:b3 P ac){E F:ae}{t2:an}{B}(t:r.op=.call {callee:=.builtin .append,args:=#[E,F],argTypes:=#[o,t2]})(a:Bb ac η k E F o t2=f (B,aq,cp))(e:U cp):a1 P r η k B aq:=by
 unfold Bb at a;split at a
 .cases a
 rename_i J K S D s;obtain⟨i,O,g⟩:=Be a0 t s;have g:=λN R=>g k N R;split at a
 .rename_i h j V b;split at a
  .rename_i bY;rw[hL]at a;cases a;exact a1.fZ i b (.inl (dp bY)) g e.1 e.2
  split at a
  .rename_i W;rw[hL]at a;cases a;exact a1.fZ i b (.inr (dp W)) g e.1 e.2
  grind
 .rename_i d h j V b;split at a
  .rename_i M I m kQ gW;split at a
   .rename_i p x A;rw[hL,mU]at a;cases a;obtain⟨u,Q,y⟩:m=j/\kQ=V/\_:=e;subst u;subst Q;have w:=dp p;subst w;have z:=dp x;have q:=dp A;subst q;subst z;exact a1.ig i b (ew gW) g y
   grind
  grind
 .rename_i d C h j b;split at a
  .rename_i M I m kQ gW;split at a
   .rename_i p x A;rw[hL,mU]at a;cases a;obtain⟨u,Q,y⟩:C=m/\j=m/\_:=e;subst u;subst Q;have w:=dp p;subst w;have z:=dp x;have q:=dp A;subst q;subst z;exact a1.h' i b (ew gW) g y
   grind
  grind
 grind
theorem aaf(a0:b3 P ac){i:ae}{g}(d:r.op=.call {callee:=.builtin .len,args:=#[i],argTypes:=dt})(p:dt[0]?=f o)(a:DC ac o (η i)=f g):a1 P r η k g k:=by
 unfold DC at a;split at a
 .cases a
 rename_i t b;split at a
 .rename_i W m;split at a
  .rename_i eU h j V e;cases a;exact a1.jm a0 d p b m (λq s=>tO e k q s)
  grind
 .grind [a1.jo]
 grind
theorem TQ(a0:b3 P ac){b dst:an}{t:ae}{q}(i:r.op=.convert b dst t)(a:Cg ac b dst (η t)=f (q,cp))(w:U cp):a1 P r η k q k:=by
 unfold Cg at a;split at a
 .cases a
 rename_i D g;split at a
 .cases a
 rename_i E p;split at a
 .rename_i z e;split at a
  .rename_i h u d;cases a;exact a1.iF a0 i g p e d w
  grind
 .rename_i e;split at a
  .grind [a1.iG]
  split at a
  .rename_i W y;split at a
   .rename_i a5 m;split at a
    .rename_i s;split at a
     .rename_i eU h j V o;split at a
      .rename_i bY;have x:=dp bY;subst x;split at a
       .rename_i F C;cases a;exact a1.iE a0 i g p y e m s (λA B=>tO o k A B) C
       grind
      grind
     grind
    grind
   grind
  grind
 grind
theorem acC(a0:b3 P ac){d:ae}{ff bp}{b}(e:r.op=.slice o d ff bp n)(a:ED ac η o d ff bp=f (b,cp))(g:U cp):a1 P r η k b k:=by
 unfold ED at a;split at a
 .cases a
 rename_i m h;split at a
 .cases a
 rename_i p j;split at a
 .cases a
 rename_i q i;split at a
 .grind [a1.jW]
 .grind [Nat.eq_of_beq_eq_true,a1.jV,tO]
 grind
theorem Bf{a:Array α}{b:α}(d:a.toList=[b]):a=#[b]:=Array.ext' d
theorem Bg{a:Array α}{b d:α}(e:a.toList=[b,d]):a=#[b,d]:=Array.ext' e
theorem aaU(a0:b3 P ac)(L:a' q CT){E:y}(t:y9 ac CT J r=f (E,cp))(m:U cp)(a7:∀k z g,b1 F k z J g->aO r (yielded all.toArray g.tmps)=l):aT q F all r J k E k:=by
 unfold y9 at t;split at t
 .grind [aT.aZ,a1.move]
 .grind [aT.aZ,a1.assign]
 .rename_i o X B a;split at t
  .rename_i e bp;split at t
   .rename_i p;split at t
    .rename_i d h u b Q;cases t;obtain⟨N,K⟩:0<=u/\u<(c d:Int):=m;have:=a1.je (k:=k) (A:=u.toNat) a0 a bp p b Q w w;have I:kM d u=d[u.toNat]'w:=by simp[kM,al,bJ (by omega:u.toNat<c d)]
     grind[aT.aZ]
    grind
   grind
  grind
 .rename_i o X B a;split at t
  .rename_i e bp;split at t
   .rename_i W p;split at t
    .rename_i a5 x;split at t
     .rename_i eU h j V S u b Q;split at t
      .rename_i bY;cases t;obtain⟨N,K⟩:0<=u/\u<(j:Int):=m;have I:=dp bY;subst I;exact aT.aZ a7 (a1.indexAddr (A:=u.toNat) a0 a bp p x (λz T=>tO b k z T) Q w w)
      grind
     grind
    grind
   grind
  grind
 .grind [aT.aZ,acC]
 .grind [aT.aZ,TQ]
 .rename_i s a;obtain⟨H,args,D⟩:=s;grind[Bf,aT.aZ,aaf,aT.iy]
 .rename_i s g i bk;split at t
  .exact PX
  .exact PX
  grind
 .rename_i op o B Z ty bk;unfold G3 at t;split at t
  .grind [aT.aZ,a1.iw]
  .rename_i g i _ M C;split at t
   .split at t
    .rename_i _ _ O R _ _;cases t;exact aT.aZ a7 (a1.j' bk M C m.1 m.2)
    .exact z'
    grind
   .exact z'
   .exact z'
   .exact z'
   grind[aT.aZ,a1.binOp]
  .rename_i ai V M C;split at t
   .grind [aT.aZ,a1.j4]
   grind
  grind
 .grind [aT.aZ,a1.unOp]
 .grind [aT.aZ,a1.extract,ew]
 .rename_i o B Y bk;split at t
  .rename_i h u G;split at t
   .rename_i d off b;cases t;exact aT.aZ a7 (a1.g7 a0 bk b G)
   .grind [aT.aZ,a1.g9]
   grind
  grind
 .grind [aT.aZ,a1.field]
 .grind [aT.aZ,a1.hv,a1.hx]
 .grind [aT.aZ,a1.build]
 .grind [aT.aZ,a1.buildSlice]
 .grind [aT.aZ,a1.makeFunc]
 .grind [aT.aZ,a1.makeInterface]
 .grind [aT.aZ,a1.typeAssert]
 grind
theorem aaR(a0:b3 P ac){K:y}(a:D0 ac J r=f (K,cp))(q:U cp):a1 P r (bE J) k K k:=by
 unfold D0 at a;split at a
 .rename_i o w O b;split at a
  .rename_i e bp;split at a
   .rename_i W Q;split at a
    .rename_i a5 m;split at a
     .rename_i d C h N A D u g z;split at a
      .rename_i bY;cases a;obtain⟨M,x⟩:0<=u/\u<(A:Int):=q;grind[Nat.eq_of_beq_eq_true,a1.jc]
      grind
     .rename_i i off j cap D u g z;cases a;obtain⟨M,x⟩:0<=u/\u<(j:Int):=q;grind[a1.jd]
     grind
    grind
   grind
  grind
 .rename_i o w ag b;split at a
  .rename_i h u H;split at a
   .rename_i d C aP e N g;cases a;exact a1.iO a0 b g H
   .rename_i i off g;cases a;exact a1.iP a0 b g H
   grind
  grind
 .grind [a1.jA]
 .rename_i o w ff bp b;split at a
  .cases a
  rename_i e E;split at a
  .cases a
  rename_i Z ab;split at a
  .cases a
  grind[Nat.eq_of_beq_eq_true,a1.sliceB]
 .rename_i o w O T b;split at a
  .cases a
  rename_i e E;split at a
  .rename_i W Q;split at a
   .cases a
   rename_i a5 m;split at a
   .rename_i eU h j V B u L A g z G;cases a;obtain⟨M,x,F⟩:0<=u/\u<=A/\A<=(j:Int):=q;exact a1.jS a0 b E Q m (λR S=>tO g k R S) z G M x F
   grind
  grind
 .rename_i o w p O T b;split at a
  .cases a
  rename_i e E;split at a
  .rename_i W Q;split at a
   .cases a
   rename_i a5 m;split at a
   .rename_i d C h N j ae e B u L A g aa z G;cases a;obtain⟨M,x,F,Y⟩:0<=e/\e<=u/\u<=A/\A<=(j:Int):=q;grind[a1.slice3B]
   grind
  grind
 .rename_i s b;obtain⟨X,args,I⟩:=s;simp only at a;split at a
  .split at a
   .rename_i w o g av;split at a
    .rename_i e bp;split at a
     .rename_i W Q;split at a
      .grind [Bf,a1.jj]
      .rename_i af j cap t;cases a;have:=Bf g;subst this;exact a1.jr a0 b av bp Q t q
      grind
     grind
    grind
   grind
  grind
 grind
theorem aak(a0:b3 P ac){q:ae}(b:r.op=.load o q){m}(a:yO ac J k o q=f (m,cp))(g:U cp):a1 P r (bE J) k m k:=by
 unfold yO at a;split at a
 .rename_i u bp;split at a
  .rename_i d C h e w s;split at a
   .rename_i W t j V aM;split at a
    .rename_i bY;have p:=dp bY;subst p;split at a
     .rename_i p i;cases a;exact a1.e9 a0 b s g.1 (ew aM) bp i g.2
     grind
    grind
   grind
  grind
 grind
theorem ac4(a0:b3 P ac){y z:ae}(i:r.op=.store o y z){x}(a:EN ac J k o y z=f (x,aq,cp))(p:U cp):a1 P r (bE J) k x aq:=by
 unfold EN at a;split at a
 .rename_i D bp;split at a
  .rename_i d C h e q s;split at a
   .rename_i W t j V aM;split at a
    .rename_i bY;have B:=dp bY;subst B;split at a
     .rename_i new m;split at a
      .rename_i u;split at a
       .rename_i gU b;split at a
        .rename_i A;rw[hL,mU]at a;cases a;have w:q=0/\c gU=t:=by
          cases q with
          |zero=>exact⟨rfl,dp A⟩
          |succ q=>exact cX
         obtain⟨rfl,w⟩:=w;exact a1.hY a0 i s p.1 (ew aM) bp m (dp u) b (λE=>M5 N) p.2
        split at a
        .rename_i ci g;rw[hL,mU]at a;cases a;exact a1.hY a0 i s p.1 (ew aM) bp m (dp u) b (λ_=>g) p.2
        grind
       grind
      grind
     grind
    grind
   grind
  grind
 grind
theorem aaW(a0:b3 P ac)(h:a' q CT){d}(a:pv ac CT J k r=f (d,cp))(g:U cp)(m:∀k e b,b1 F k e J b->aO r (yielded all.toArray b.tmps)=l):aT q F all r J k d k:=by
 unfold pv at a;split at a
 .rename_i o p j;split at a
  .rename_i C i;cases a;unfold DH at i;split at i
   .grind [aT.aZ,a1.hi,ew,a1.hj]
   grind
  grind[aT.aZ,aak]
 grind[aaU,aT.aZ,aaR]
theorem aaS(a0:b3 P ac)(o:a' q CT){d:y}(e:D3 ac CT J k r=f (d,aq,cp))(i:U cp)(m:∀k h a,b1 F k h J a->aO r (yielded all.toArray a.tmps)=l):aT q F all r J k d aq:=by
 unfold D3 at e;split at e
 .grind [aT.aZ,D2]
 .grind [aT.aZ,D2]
 .grind [aT.aZ,D2,ac4]
 .rename_i s g;obtain⟨j,args,b⟩:=s;grind[Bg,aT.aZ,S_,aT.call]
 grind
def S'{i m:ae}{a5}{g}(q:j9 P r i m W a5)(a:Bc W a5 η k i m=f (g,aq,cp))(p:U cp):a1 P r η k g aq:=by
 unfold Bc at a;split at a
 .rename_i d C h e z x y u A K D;split at a
  .cases a
  rename_i s;have b:=dp s;subst b;split at a
  .rename_i M N j V gW;split at a
   .rename_i o Eg tA Eh;have t:=dp o;have J:=dp Eg;have w:=dp tA;have E:=dp Eh;rw[hL]at a;cases a;obtain⟨Q,I,B,F⟩:=p;subst Q I t J w E;have:=a1.ia (k:=k) q K D (ew gW) B F;grind[mU]
   grind
  grind
 grind
theorem Ta(a0:b3 P ac){p}{q s:ae}{t2:an}{i}(b:r.op=.call {callee:=.builtin .append,args:=#[q,s],argTypes:=#[o,t2]})(a:Bd p ac η k q s o t2=f (i,aq,cp))(g:U cp):a1 P r η k i aq:=by
 unfold Bd at a;split at a
 .split at a
  .cases a
  rename_i t z E m d;obtain⟨u,B,w⟩:=Be a0 b d;split at a
  .rename_i h j V e;split at a
   .rename_i C;have x:=dp C;subst x;rw[hL]at a;cases a;exact a1.ib u e (λA D=>w _ A D) g
   grind
  grind
 split at a
 .cases a
 rename_i y;exact S' (GS a0 b y) a g
theorem aaT(a0:b3 P ac)(p:a' q CT){a:y}(b:vU bf ac CT J k r=f (a,aq,cp))(j:U cp)(o:∀k i d,b1 F k i J d->aO r (yielded all.toArray d.tmps)=l):aT q F all r J k a aq:=by
 have key:∀g,y_ g ac J k r=f (a,aq,cp)->aT q F all r J k a aq:=by
  intro g b;unfold y_ at b;split at b
  .rename_i s h;obtain⟨m,args,e⟩:=s;grind[Bg,aT.aZ,Ta]
  grind
 unfold vU at b;grind[aaS]
def dT(a0:b3 P ac)(K:a' q CT){i}{aq}(a:iI ac CT bf all J k r=f (i,aq,cp))(B:U cp):aT q F all r J k i (aq.getD k):=by
 have go:(∀k g d,b1 F k g J d->aO r (yielded all.toArray d.tmps)=l)->(match pv ac CT J k r with
  |some (b,cp)=>match ve bf r.dst b cp with
   |some (m,z)=>pj m λm=>f (m,n,z)
   |none=>n
  |none=>match Dx bf r.dst with
   |true=>match D1 ac J r with
    |some (b,cp)=>pj b λb=>f (b,n,cp)
    |none=>n
   |false=>match vU bf ac CT J k r with
    |some (b,aq,cp)=>pj b λb=>f (b,f aq,cp)
    |none=>n)=f (i,aq,cp)->aT q F all r J k i (aq.getD k):=by
  intro Q a;split at a
  .rename_i b e p;split at a
   .rename_i m A C;rw[vp]at a;cases a;obtain⟨rfl,M⟩:=T4 C B;grind[aaW]
   grind
  split at a
  .split at a
   .rename_i b e j;rw[vp]at a;cases a;unfold D1 at j;split at j
    .rename_i s y;obtain⟨I,args,t⟩:=s;grind[Bg,S9]
    grind
   grind
  grind[vp,aaT]
 unfold iI at a;simp only at a;split at a
 .grind [jf]
 rename_i E u w;split at a
 .rename_i x o;have D:∀k g d,b1 F k g J d->aO r (yielded all.toArray d.tmps)=(f x==f u):=λk g d h=>by simp only[aO,w,yG o h]
  split at a
  .grind
  .grind
  cases a;refine aT.hH (λk g d h=>(D k g d h).trans ?_);cases u<;>cases x<;>simp_all
 .rename_i o;cases a;exact aT.hH (λk g d h=>by simp only[aO,w,yG o h];rfl)
 grind
end
variable {CT:m (Nat×bI)}{av:m iv}{be:fF}{ac:m (Nat×cq)}{a5:cq}
def mK(a:bM)(b:ao):Bool:=match b.op with
 |.load _ d=>match bE a d with
  |.n (.R (.c (.Q _)))=>v
  |_=>l
 |_=>v
def aaV{fp}(d:mK J r=v):pv ac CT J k r=pv ac CT J fp r:=by
 unfold pv;split
 .rename_i o e a;simp[mK,a]at d;split at d
  .rename_i ai b;simp[DH,yO,b]
  grind
 simp
def aaX{d}(j:mK J r=v)(a:iI ac CT bf all J k r=f (d,n,cp))(fp):
  iI ac CT bf all J fp r=f (d,n,cp):=by
 unfold iI at a⊢;simp only at a⊢;rw[aaV (fp:=k) j];cases i:pv ac CT J k r with
 |some o=>grind
 |none=>
  simp[i]at a⊢;cases h:Dx bf r.dst with
  |true=>grind
  |false=>
   simp[h]at a⊢;have key:∀{g:Option (y×Option (m ar)×m Prop)},(match vU bf ac CT J k r with|some (e,b,cp)=>pj e λe=>f (e,f b,cp)|none=>n)=g->g≠f (d,n,cp):=by grind[vp]
   split at a
   .grind
   grind
def jV(a:Nat):m ao->Bool
 |[]=>v
 |e::b=>match e.dst with
  |some d=>match ad d a with|true=>l|false=>jV a b
  |none=>jV a b
theorem vv{o}:∀{d:m ao}{e:Nat}{a:ao},d[e]?=f a->a.dst=f o->jV o d=l
 |[],_,_,t,_=>by grind
 |h::g,0,a,t,b=>by simp at t;subst t;simp[jV,b,sK]
 |h::g,e+1,a,t,b=>by have:=vv (d:=g) wR b;simp[jV];grind
theorem Di{o}:∀{b:m ao},jV o b=l->∃(e:Nat)(r:ao),b[e]?=f r/\r.dst=f o
 |[],t=>by cases t
 |d::j,t=>by
  simp[jV]at t;split at t
  .rename_i g s;split at t
   .rename_i h;exact⟨0,d,a,by grind[Nat.eq_of_beq_eq_true]⟩
   exact RS
  exact RS
def lu:m ao->Bool
 |[]=>l
 |d::a=>match d.dst with
  |some b=>match jV b a with|true=>v|false=>lu a
  |none=>lu a
theorem DZ{o}:∀{k:m ao}{g h:Nat}{b d:ao},lu k=l->k[g]?=f b->k[h]?=f d->b.dst=f o->d.dst=f o->g=h
 |[],_,_,_,_,_,t,_,_,_=>by grind
 |p::e,0,0,_,_,_,_,_,_,_=>rfl
 |p::e,0,h+1,b,d,a,i,j,d1,d2=>by simp at i;subst i;simp[lu,d1]at a;grind[vv]
 |p::e,g+1,0,b,d,a,i,j,d1,d2=>by simp at j;subst j;simp[lu,d2]at a;grind[vv]
 |p::e,g+1,h+1,b,d,a,i,j,d1,d2=>by
  have:lu e=l:=by simp[lu]at a;grind
  have r:e[g]?=f b:=N;have q:e[h]?=f d:=N;have s:=DZ this r q d1 d2;omega
def mS(a:m ao):bM->bM
 |[]=>[]
 |(d,e)::b=>match jV d a with|true=>mS a b|false=>(d,e)::mS a b
def tp{all}{o}:∀{b:bM},look (mS all b) o=if jV o all=l then .any else look b o
 |[]=>by simp[mS,look]
 |(a,i)::j=>by
  simp[mS];by_cases g:ad a o=l
  .have h:=dp g;subst h;cases e:jV a all with
   |true=>simp only;rw[tp];grind
   |false=>simp[look]
  have d:ad a o=v:=N;cases e:jV a all with
  |true=>simp only;rw[tp];simp[look,d]
  |false=>simp[look,d,cond];rw[tp]
def c':m Edge->m Nat
 |[]=>[]
 |b::a=>match b.ground with
  |.textOnly _=>c' a
  |.gcOnly _=>c' a
  |_=>b.on::c' a
theorem l6{u}:∀{d:m Edge},u∈c' d↔∃a∈d,eY a=l/\a.on=u
 |[]=>by simp[c']
 |a::b=>by
  have k:=l6 (u:=u) (d:=b);have h:c' (a::b)=a.on::c' b->eY a=l->(u∈c' (a::b)↔∃e∈a::b,eY e=l/\e.on=u):=N;have g:c' (a::b)=c' b->eY a=v->(u∈c' (a::b)↔∃e∈a::b,eY e=l/\e.on=u):=N;cases i:a.ground with
  |textOnly j=>exact g Fj OF
  |gcOnly j=>exact g Fj OF
  |_=>exact h Fj (by unfold eY Region.binds;rw[i])
def nB(a b:Nat):m ao->Bool
 |[]=>v
 |e::d=>match e.dst with
  |some g=>match ad g b with
   |true=>match eo a (c' e.after.toList)with
    |true=>nB a b d
    |false=>l
   |false=>nB a b d
  |none=>nB a b d
def Kq{e o}:∀{i:m ao},nB e o i=v->∀(d:Nat)a,i[d]?=f a->a.dst=f o->eo e (c' a.after.toList)=l
 |[],_,d,a,b,_=>by grind
 |k::j,b,0,a,h,g=>by simp at h;subst h;simp[nB,g,sK]at b;grind
 |k::j,b,d+1,a,h,g=>by
  have:nB e o j=v:=by simp[nB]at b;grind
  exact Kq this d a N g
def oF(a:m ao):bM->m (Nat×y×Bool)
 |[]=>[]
 |(b,d)::e=>match jV b a with
  |true=>(b,d,l)::oF a e
  |false=>(b,d,v)::oF a e
def hn(b:Nat)(a:m ao):m (Nat×y×Bool)->bM
 |[]=>[]
 |(e,g,h)::d=>match h with
  |false=>(e,g)::hn b a d
  |true=>match nB b e a with
   |true=>hn b a d
   |false=>(e,g)::hn b a d
def K0{e}{all}{o}:∀{J:bM},look (hn e all (oF all J)) o=if jV o all=l/\nB e o all=l then .any else look J o
 |[]=>by simp[oF,hn,look]
 |(bz,b)::a=>by
  have h:=K0 (e:=e) (all:=all) (o:=o) (J:=a);have g:look ((bz,b)::hn e all (oF all a)) o=if ad bz o=l then b else look (hn e all (oF all a)) o:=Oo;have d:look ((bz,b)::a) o=if ad bz o=l then b else look a o:=Oo;cases x:jV bz all with
  |false=>
   simp[oF,x,hn];exact uj
  |true=>
   cases ak:nB e bz all with
   |true=>
    exact Pl
   |false=>
    exact Pl
def f'(d:Nat->Bool):Nat->m (Option Nat×y)->bM->bM
 |_,[],a=>a
 |b,(g,i)::e,a=>match d b with
  |true=>match g with
   |some h=>(h,i)::f' d (b+1) e a
   |none=>f' d (b+1) e a
  |false=>f' d (b+1) e a
def vK{A:Nat->Bool}{J}{o}:∀{d:m (Option Nat×y)}{e:Nat},(∃u b,d[u]?=f (f o,b)/\A (e+u)=l/\look (f' A e d J) o=b)∨look (f' A e d J) o=look J o
 |[],e=>.inr rfl
 |(h,b)::g,e=>by
  have t:=vK (A:=A) (J:=J) (o:=o) (d:=g) (e:=e+1);have step:look (f' A e ((h,b)::g) J) o=look (f' A (e+1) g J) o->((∃u i,((h,b)::g)[u]?=f (f o,i)/\A (e+u)=l/\look (f' A e ((h,b)::g) J) o=i)∨look (f' A e ((h,b)::g) J) o=look J o):=by
   intro p;rw[p];rcases t with⟨u,i,r,j,C⟩|x
   .exact .inl ⟨u+1,i,by grind,by grind,C⟩
   grind
  cases k:A e with
  |false=>exact step (by simp[f',k])
  |true=>
   cases h with
   |none=>exact step (by simp[f',k])
   |some q=>
    by_cases w:ad q o=l
    .have p:=dp w;subst p;exact .inl ⟨0,b,a,by grind,by simp[f',k,look]⟩
    have s:ad q o=v:=N;exact step (by simp[f',k,look,s])
structure k6 where
 a':Nat
 pre:m (Option Nat×y)
 b:m ar
 b7:m (m Bool)
 dC:m Bool
 dE:m Bool
 cz:m Prop
def tq(a:Nat):m Nat->Bool
 |[]=>l
 |b::d=>match Nat.blt b a with|true=>tq a d|false=>v
def DJ{e}:∀{g:m Nat},tq e g=l->∀d∈g,d<e
 |[],_,d,b=>by grind
 |i::j,b,d,a=>by
  simp[tq]at b;cases h:Nat.blt i e with
  |false=>grind
  |true=>
   simp[h]at b;rcases fh.1 a with rfl|a
   .simp_all
   exact DJ b d a
def gD:m Bool->Nat->Bool
 |[],_=>v
 |a::_,0=>a
 |_::d,b+1=>gD d b
def jY:m Bool->m Bool->m Bool
 |[],b=>b
 |true::a,[]=>l::a
 |false::a,[]=>v::a
 |true::a,_::b=>l::jY a b
 |false::a,l::b=>l::jY a b
 |false::a,v::b=>v::jY a b
def qg:∀{a b:m Bool}{d:Nat},gD (jY a b) d=(gD a d||gD b d)
 |[],b,d=>by exact cX
 |true::a,[],d=>by simp[jY,gD]
 |false::a,[],d=>by simp[jY,gD]
 |true::a,e::b,0=>by exact cX
 |true::a,e::b,d+1=>by simp[jY,gD];exact qg
 |false::a,l::b,0=>by exact cX
 |false::a,l::b,d+1=>by simp[jY,gD];exact qg
 |false::a,v::b,0=>by exact cX
 |false::a,v::b,d+1=>by simp[jY,gD];exact qg
def nN:Nat->m Bool
 |0=>[l]
 |a+1=>v::nN a
theorem xx:∀{b a:Nat},gD (nN b) a=decide (b=a)
 |0,0=>rfl
 |0,a+1=>by exact cX
 |b+1,0=>by exact cX
 |b+1,a+1=>by simp only[nN,gD,xx];simp
def lQ(a:m (m Bool)):m Nat->m Bool
 |[]=>[]
 |b::d=>match da b a with
  |some e=>jY (jY e (nN b)) (lQ a d)
  |none=>jY (nN b) (lQ a d)
theorem B'{i}{u}:∀{k:m Nat},gD (lQ i k) u=l->∃d∈k,d=u∨∃b,i[d]?=f b/\gD b u=l
 |[],a=>by exact cX
 |d::o,a=>by
  simp[lQ,ln]at a;have q0:∀{j:Nat},gD (nN d) j=l->d=j:=by grind[xx]
  have h:gD (lQ i o) u=l->∃g∈d::o,g=u∨∃b,i[g]?=f b/\gD b u=l:=by intro a;obtain⟨g,q,p⟩:=B' a;grind
  split at a
  .rename_i b e;rw[qg,qg,jL,jL]at a;grind
  rw[qg,jL]at a;grind
def pH:m Bool->m Bool->Bool
 |[],_=>l
 |true::a,l::b=>pH a b
 |true::_,_=>v
 |false::a,_::b=>pH a b
 |false::a,[]=>pH a []
theorem tS:∀{b d:m Bool}{u:Nat},pH b d=l->gD b u=l->gD d u=l
 |[],d,u,_,a=>by exact cX
 |true::b,l::d,0,_,_=>rfl
 |true::b,l::d,u+1,e,a=>by simp[gD]at a⊢;exact tS cX a
 |true::b,v::d,u,e,_=>by exact cX
 |true::b,[],u,e,_=>by exact cX
 |false::b,g::d,0,_,a=>by exact cX
 |false::b,g::d,u+1,e,a=>by simp[gD]at a⊢;exact tS cX a
 |false::b,[],0,_,a=>by exact cX
 |false::b,[],u+1,e,a=>by simp[gD]at a;have:=tS (u:=u) (by simpa[pH]using e) a;exact cX
def pG(u:m (Nat×cq))(o:m (Nat×bI))(t:Nat)(q:m (Nat×Bool))(e:m ao)(k:m (Nat×y×Bool))(a:k6)(j:ao):Option k6:=
 match ft t j.dst with
 |false=>n
 |true=>
  e5 (c' j.after.toList) λh=>
  match tq a.a' h with
  |false=>n
  |true=>match iI u o q e (f' (λr=>eo r h) 0 a.pre (hn a.a' e k)) a.b j with
   |none=>n
   |some (s,i,b)=>
    e5 (lQ a.b7 h) λg=>
    match i,mK (f' (λr=>eo r h) 0 a.pre (hn a.a' e k)) j with
    |none,v=>e5 (a.pre++[(j.dst,s)]) λpre=>e5 (a.b7++[g]) λd=>e5 (gT b a.cz) λb=>f ⟨a.a'+1,pre,a.b,d,a.dC,a.dE,b⟩
    |none,l=>match pH a.dC g with
     |true=>e5 (a.pre++[(j.dst,s)]) λpre=>e5 (a.b7++[g]) λd=>e5 (gT b a.cz) λb=>e5 (jY a.dE (nN a.a')) λp=>f ⟨a.a'+1,pre,a.b,d,a.dC,p,b⟩
     |false=>n
    |some i,_=>match pH a.dE g with
     |true=>e5 (a.pre++[(j.dst,s)]) λpre=>e5 (a.b7++[g]) λd=>e5 (gT b a.cz) λb=>e5 (jY a.dE (nN a.a')) λp=>e5 (jY a.dC (nN a.a')) λw=>f ⟨a.a'+1,pre,i,d,w,p,b⟩
     |false=>n
def zp(j:m (Nat×cq))(d:m (Nat×bI))(i:Nat)(g:m (Nat×Bool))(a:m ao)(e:m (Nat×y×Bool)):m ao->k6->Option k6
 |[],b=>f b
 |k::o,b=>match pG j d i g a e b k with
  |some h=>zp j d i g a e o h
  |none=>n
def yc(k:m (Nat×cq))(d:m (Nat×bI))(j:Nat)(h:m (Nat×Bool))(a:m ao)(i:bM)(o:m ar):Option (bM×m ar×m Prop):=
 match lu a with
 |false=>n
 |true=>e5 (oF a i) λg=>match zp k d j h a g a ⟨0,[],o,[],[],[],[]⟩with
  |some b=>e5 (f' (λ_=>l) 0 b.pre (mS a i)) λe=>f (e,b.b,b.cz)
  |none=>n
def ez:ao:=⟨n,.move (.tmp 0),0,"",#[],n⟩
section
variable (ac:m (Nat×cq))(CT:m (Nat×bI))(F:Nat)(bf:m (Nat×Bool))(all:m ao)(cJ:m (Nat×y×Bool))
def jN(a:k6):Nat->k6
 |0=>a
 |b+1=>(pG ac CT F bf all cJ (jN a b) (all.getD b ez)).getD (jN a b)
def qu(a:k6)(b:Nat):bM:=f' (λd=>eo d (c' (all.getD b ez).after.toList)) 0 (jN ac CT F bf all cJ a b).pre (hn (jN ac CT F bf all cJ a b).a' all cJ)
def zo(a:k6)(b:Nat):Option (y×Option (m ar)×m Prop):=iI ac CT bf all (qu ac CT F bf all cJ a b) (jN ac CT F bf all cJ a b).b (all.getD b ez)
def sj(a:k6)(b:Nat):y:=match zo ac CT F bf all cJ a b with|some (d,_,_)=>d|none=>.any
def jt(a:k6)(b:Nat):Bool:=match zo ac CT F bf all cJ a b with|some (_,f _,_)=>l|_=>v
def qw(a:k6)(b:Nat):Bool:=!mK (qu ac CT F bf all cJ a b) (all.getD b ez)&&!jt ac CT F bf all cJ a b
def qk(a:k6)(b:Nat):m Bool:=lQ (jN ac CT F bf all cJ a b).b7 (c' (all.getD b ez).after.toList)
end
section
variable {ac:m (Nat×cq)}{CT:m (Nat×bI)}{F:Nat}{bf:m (Nat×Bool)}{all:m ao}{cJ:m (Nat×y×Bool)}
structure Gu(ac:m (Nat×cq))(CT:m (Nat×bI))(F:Nat)(bf:m (Nat×Bool))(all:m ao)(cJ:m (Nat×y×Bool))(b_ r_:k6)(r:ao)(E:y)(aq:Option (m ar))(cz:m Prop):Prop where
 dst:ft F r.dst=l
 lt:tq b_.a' (c' r.after.toList)=l
 op:iI ac CT bf all (f' (λu=>eo u (c' r.after.toList)) 0 b_.pre (hn b_.a' all cJ)) b_.b r=f (E,aq,cz)
 a':r_.a'=b_.a'+1
 pre:r_.pre=b_.pre++[(r.dst,E)]
 b7:r_.b7=b_.b7++[lQ b_.b7 (c' r.after.toList)]
 b:r_.b=aq.getD b_.b
 cz:r_.cz=gT cz b_.cz
 iJ:r_.dC=if aq.isSome=l then jY b_.dC (nN b_.a')else b_.dC
 jz:r_.dE=if(mK (f' (λu=>eo u (c' r.after.toList)) 0 b_.pre (hn b_.a' all cJ)) r||aq.isSome)=l then jY b_.dE (nN b_.a')else b_.dE
 load:mK (f' (λu=>eo u (c' r.after.toList)) 0 b_.pre (hn b_.a' all cJ)) r=l->aq.isSome=v->pH b_.dC (lQ b_.b7 (c' r.after.toList))=l
 cd:aq.isSome=l->pH b_.dE (lQ b_.b7 (c' r.after.toList))=l
def M9{b_ h}(b:pG ac CT F bf all cJ b_ r=f h):∃k d g,Gu ac CT F bf all cJ b_ h r k d g:=by
 unfold pG at b;split at b
 .cases b
 rename_i j;simp[hL]at b;split at b
 .cases b
 rename_i i;split at b
 .cases b
 rename_i k d g e;refine⟨k,d,g,?_⟩;cases d with
 |none=>
  cases m:mK (f' (λo=>eo o (c' r.after.toList)) 0 b_.pre (hn b_.a' all cJ)) r with
  |false=>
   simp[m,hL]at b;cases b;exact⟨j,i,e,a,a,a,a,a,by simp,by grind,by grind,by simp⟩
  |true=>
   simp[m,hL]at b;split at b
   .rename_i s;cases b;exact⟨j,i,e,a,a,a,a,a,by simp,by grind,λ_ _=>s,by simp⟩
   grind
 |some d=>
  simp[hL]at b;split at b
  .rename_i s;cases b;exact⟨j,i,e,a,a,a,a,a,by simp,by simp,by simp,λ_=>s⟩
  grind
def MC{b_ d}:∀{bq:m ao}{h:Nat},(∀a,bq[a]?=all[h+a]?)->zp ac CT F bf all cJ bq (jN ac CT F bf all cJ b_ h)=f d ->
  (∀a g,bq[a]?=f g->pG ac CT F bf all cJ (jN ac CT F bf all cJ b_ (h+a)) g=f (jN ac CT F bf all cJ b_ (h+a+1)))/\jN ac CT F bf all cJ b_ (h+c bq)=d
 |[],h,_,b=>by cases b;grind
 |p::q,h,e,b=>by
  simp[zp]at b;have k:all[h]?=f p:=by have:=e 0;grind
  split at b
  .rename_i i j;have o:jN ac CT F bf all cJ b_ (h+1)=i:=by simp[jN,al,k,ia,j]
   rw[<-o]at b;obtain⟨s,r⟩:=MC (bq:=q) (h:=h+1) (λa=>by have:=e (a+1);grind) b;grind
  grind
theorem qI:∀{a:m Nat},eo u a=l->u∈a:=by
 intro a;induction a with
 |nil=>intro b;cases b
 |cons d g e=>
  intro b;simp[eo]at b;exact uj
def Ua{aO:af P}(a5:P.follows Departure.mixedOrders=l)(a0:b3 P ac)(aR:a' aO CT){aN}(t:yc ac CT F bf aV.toList J k=f (aN,aq,cp))(bK:U cp){aP}(bE:aP .normal aN aq)(id):
  b4 aO F (.region id aV l) aP J k:=by
 unfold yc at t;split at t
 .cases t
 rename_i bo;rw[hL]at t;split at t
 case h_2=>cases t
 rename_i ah aE;rw[hL]at t;cases t;generalize bF:aV.toList=g at *;generalize aF:oF g J=cJ at *;have bt:∀e:Nat,aV[e]?=g[e]?:=λe=>by grind
 have bd:aV.size=c g:=N;let m:k6:=⟨0,[],k,[],[],[],[]⟩
 obtain⟨bR,bS⟩:=MC (ac:=ac) (CT:=CT) (F:=F) (bf:=bf) (cJ:=cJ) (b_:=m) (bq:=g) (h:=0) (λe=>by simp) aE;simp only[cV]at bR bS;let j:=jN ac CT F bf g cJ m;have aK:∀e r,g[e]?=f r->g.getD e ez=r:=λe r t=>by grind
 have ai:∀e r,g[e]?=f r->qu ac CT F bf g cJ m e=(f' (λi=>eo i (c' (r).after.toList)) 0 (j e).pre (hn (j e).a' g cJ)):=λe r t=>by unfold qu;grind
 have C:∀e r,g[e]?=f r->∃br,Gu ac CT F bf g cJ (j e) (j (e+1)) r (sj ac CT F bf g cJ m e) (if jt ac CT F bf g cJ m e=l then f (j (e+1)).b else n) br:=by
  intro e r cx;obtain⟨aL,z,br,p⟩:=M9 (bR e r cx);have aJ:=p.op;have az:zo ac CT F bf g cJ m e=f (aL,z,br):=by unfold zo qu;grind
  have bM:sj ac CT F bf g cJ m e=aL:=by unfold sj;rw[az]
  cases z with
  |none=>
   have Q:jt ac CT F bf g cJ m e=v:=by unfold jt;rw[az]
   grind
  |some bm=>
   have Q:jt ac CT F bf g cJ m e=l:=by unfold jt;rw[az]
   have bN:(j (e+1)).b=bm:=p.b;grind
 have bs:∀e,e<=c g->(j e).a'=e:=by
  intro e;induction e with
  |zero=>intro _;rfl
  |succ e M=>
   intro bp;obtain⟨_,p⟩:=C e _ (bJ w);rw[p.a',M w]
 have W:∀e,e<=c g->∀i,(j e).pre[i]?=if i<e then(g[i]?).map (λr=>(r.dst,sj ac CT F bf g cJ m i))else n:=by
  intro e;induction e with
  |zero=>intro _ i;exact cX
  |succ e M=>
   intro bp i;obtain⟨_,p⟩:=C e _ (bJ w);have T:(j e).pre.length=e:=by
    apply Nat.le_antisymm
    .grind
    grind
   rw[p.pre];grind
 have aw:∀e,e<=c g->∀i,(j e).b7[i]?=if i<e then f (qk ac CT F bf g cJ m i)else n:=by
  intro e;induction e with
  |zero=>intro _ i;exact cX
  |succ e M=>
   intro bp i;obtain⟨_,p⟩:=C e _ (bJ w);have T:(j e).b7.length=e:=by
    apply Nat.le_antisymm
    .apply Nat.le_of_not_lt;intro aI;have:=M w e;grind
    grind
   rw[p.b7];by_cases S:i<e
   .grind
   rw[ht w];by_cases q:i=e
   .subst q;rw[bl w,T,sI];simp only[mn,qk,aK i _ (bJ (by omega:i<c g))];rfl
   grind
 have bz:∀e,e<=c g->∀i,gD (j e).dC i=(decide (i<e)&&jt ac CT F bf g cJ m i):=by
  intro e;induction e with
  |zero=>intro _ i;exact cX
  |succ e M=>
   intro bp i;obtain⟨_,p⟩:=C e _ (bJ w);rw[p.iJ];cases Q:jt ac CT F bf g cJ m e with
   |false=>
    grind
   |true=>
    simp only[dx,Option.isSome_some];rw[qg,M w i,xx,bs e w];by_cases q:i=e
    .grind
    grind
 have bg:∀e,e<=c g->∀i,gD (j e).dE i=(decide (i<e)&&!qw ac CT F bf g cJ m i):=by
  intro e;induction e with
  |zero=>intro _ i;exact cX
  |succ e M=>
   intro bp i;obtain⟨_,p⟩:=C e _ (bJ w);have ag:(if jt ac CT F bf g cJ m e=l then f (j (e+1)).b else n).isSome=jt ac CT F bf g cJ m e:=by cases jt ac CT F bf g cJ m e<;>rfl
   have an:qw ac CT F bf g cJ m e=!(mK (f' (λi=>eo i (c' (g[e]'w).after.toList)) 0 (j e).pre (hn (j e).a' g cJ)) (g[e]'w)||jt ac CT F bf g cJ m e):=by unfold qw;rw[ai e _ (bJ w),aK e _ (bJ w)];simp
   rw[p.jz,ag];cases Q:(mK (f' (λi=>eo i (c' (g[e]'w).after.toList)) 0 (j e).pre (hn (j e).a' g cJ)) (g[e]'w)||jt ac CT F bf g cJ m e)with
   |false=>
    grind
   |true=>
    simp only[dx];rw[qg,M w i,xx,bs e w];by_cases q:i=e
    .grind
    grind
 have V:∀e,e<=c g->U (j e).cz:=by
  have av:∀h e,e+h=c g->U (j e).cz:=by
   intro h;induction h with
   |zero=>
    grind
   |succ h M=>
    intro e bp;obtain⟨_,p⟩:=C e _ (bJ w);have:=M (e+1) w;rw[p.cz,U.Y]at this;exact this.2
  intro e bp;exact av (c g-e) e w
 have b5:∀e r,g[e]?=f r->aT aO F g r (qu ac CT F bf g cJ m e) (j e).b (sj ac CT F bf g cJ m e) (j (e+1)).b:=by intro e r cx;have bp:e<c g:=(cP.1 cx).1;obtain⟨_,p⟩:=C e r cx;have nC:=V (e+1) w;rw[p.cz,U.Y]at nC;have:=dT (P:=P) (F:=F) a0 aR p.op nC.1;rw[p.b];grind
 let idx:Nat->Option Nat:=λo=>(aA (c g)).find? (λe=>decide ((g.getD e ez).dst=f o));have b6:∀o i,idx o=f i->∃r,g[i]?=f r/\r.dst=f o:=N;have bQ:∀e r ax,g[e]?=f r->r.dst=f ax->idx ax=f e:=by
  intro e r ax cx O;have bp:e<c g:=(cP.1 cx).1;cases bM:idx ax with
  |none=>
   grind
  |some i=>
   grind[DZ]
 have b9:∀o,jV o g=l↔∃i,idx o=f i:=by grind[Di,vv]
 have b8:∀e r,g[e]?=f r->∀q∈r.after,eY q=l->q.on<e:=by intro e r cx q Q Y;have bp:e<c g:=(cP.1 cx).1;obtain⟨_,p⟩:=C e r cx;have:=DJ p.lt q.on (l6.2 ⟨q,by grind,Y,rfl⟩);grind
 have bn:=b8;have O:rg aO F aV J (λe=>(j e).b) (sj ac CT F bf g cJ m) (qu ac CT F bf g cJ m) (qw ac CT F bf g cJ m) (λe=>decide (e<c g)&&jt ac CT F bf g cJ m e) (λe i=>e<c g/\gD (qk ac CT F bf g cJ m e) i=l) idx (f' (λ_=>l) 0 ah.pre (mS g J)):=by
  refine⟨a5,N,?_,?_,?_,?_,?_,?_,?_,?_,?_⟩
  .intro e r ax cx O;rw[bt]at cx;obtain⟨_,p⟩:=C e r cx;exact⟨bQ e r ax cx O,lg p.dst ax O⟩
  .grind
  .intro e Q;rcases dY e (c g) with bp|bp
   .obtain⟨_,p⟩:=C e _ (bJ bp);have:jt ac CT F bf g cJ m e=v:=N;have b2:=p.b;grind
   have bA:g.getD e ez=ez:=N;show(j (e+1)).b=(j e).b;have:pG ac CT F bf g cJ (j e) ez=n∨∃aH,pG ac CT F bf g cJ (j e) ez=f aH:=by
    cases pG ac CT F bf g cJ (j e) ez with
    |none=>grind
    |some aH=>grind
   show((pG ac CT F bf g cJ (j e) (g.getD e ez)).getD (j e)).b=(j e).b;rw[bA];rcases this with t|⟨aH,t⟩
   .grind
   rw[t];obtain⟨aL,z,bO,p⟩:=M9 t;have aJ:=p.op;have:z=n:=by unfold iI at aJ;simp only[ez,pv,y9,ve,vp]at aJ;grind
   rw[ia,p.b,this];rfl
  .grind
  .intro e r cx ae;rw[bt]at cx;have bp:e<c g:=(cP.1 cx).1;have aG:mK (f' (λi=>eo i (c' (r).after.toList)) 0 (j e).pre (hn (j e).a' g cJ)) r=v/\jt ac CT F bf g cJ m e=v:=by unfold qw at ae;grind
   refine⟨by grind,λh=>?_⟩;obtain⟨bO,p⟩:=C e r cx;have aJ:=p.op;rw[aG.2]at aJ;have aD:=aaX aG.1 (by simpa using aJ) (j h).b;have nC:=V (e+1) w;rw[p.cz,U.Y]at nC;have:=dT (P:=P) (F:=F) a0 aR aD nC.1;grind
  .intro L cd e i ⟨bp,Y⟩;have aj:∀e,e<c g->L e->∀q,q∈c' (g.getD e ez).after.toList->L q:=by intro e bp ak q Q;rw[aK e _ (bJ bp)]at Q;obtain⟨bx,s,u,rfl⟩:=l6.1 Q;grind
   have key:∀e,e<c g->∀i,gD (qk ac CT F bf g cJ m e) i=l->(∀q∈c' (g.getD e ez).after.toList,L q)->L i:=by
    intro e;induction e using Nat.strongRecOn with
    |_ e M=>
     intro bp i Y aX;obtain⟨q,Q,t⟩:=B' Y;have aI:q<e:=by have R:=Q;rw[aK e _ (bJ bp)]at R;obtain⟨bx,s,u,rfl⟩:=l6.1 R;grind
     rcases t with rfl|⟨bU,bG,a1⟩
     .grind
     have:=aw e w q;rw[bl aI]at this;have aZ:(j e).b7[q]?=f bU:=bG;rw[aZ]at this;cases this;exact M q aI w i a1 (aj q w (aX q Q))
   refine⟨λak=>key e bp i Y (aj e bp ak),g[e],by grind,λbL=>key e bp i Y ?_⟩;grind[List.getElem?_eq_getElem,l6]
  .intro e Z bp y Q bZ ar;rw[bd]at bp y;have R:jt ac CT F bf g cJ m Z=l:=N;rcases dY Z e with aI|bY
   .refine .inl ⟨aI,bp,?_⟩;obtain⟨_,p⟩:=C e _ (bJ bp);have K:qk ac CT F bf g cJ m e=lQ (j e).b7 (c' (g[e]).after.toList):=by unfold qk;grind
    rw[K];cases a3:jt ac CT F bf g cJ m e with
    |true=>
     have s:=p.cd N;refine tS s ?_;rw[bg e w Z];have:qw ac CT F bf g cJ m Z=v:=by unfold qw;grind
     grind
    |false=>
     have a7:mK (f' (λi=>eo i (c' (g[e]).after.toList)) 0 (j e).pre (hn (j e).a' g cJ)) g[e]=l:=by unfold qw at ar;rw[ai e _ (bJ bp),aK e _ (bJ bp),a3]at ar;grind
     have s:=p.load a7 N;grind[tS]
   have aI:e<Z:=w;refine .inr ⟨aI,y,?_⟩;obtain⟨_,p⟩:=C Z _ (bJ y);have K:qk ac CT F bf g cJ m Z=lQ (j Z).b7 (c' (g[Z]).after.toList):=by unfold qk;grind
   rw[K];have s:=p.cd N;grind[tS]
  .intro e r cx o k b aa ab;rw[bt]at cx;have bp:e<c g:=(cP.1 cx).1;unfold qu;rw[aK e r cx];rcases vK (A:=λi=>eo i (c' r.after.toList)) (J:=hn (j e).a' g cJ) (o:=o) (d:=(j e).pre) (e:=0)with⟨i,aL,s,u,x⟩|x
   .have I:look (f' (λi=>eo i (c' r.after.toList)) 0 (jN ac CT F bf g cJ m e).pre (hn (jN ac CT F bf g cJ m e).a' g cJ)) o=aL:=x;rw[I];have B:=W e w i;rw[s]at B;have S:i<e:=N;rw[bl S,bJ (by omega:i<c g)]at B;simp only[lK,e',lL]at B;obtain⟨bb,b1⟩:=B;have aM:=bQ i _ o (bJ (by omega:i<c g)) bb.symm;rw[aM]at ab;simp only at ab;rw[bl]at ab
    .grind
    have aC:i∈c' r.after.toList:=by simp only[cV]at u;exact qI u
    obtain⟨q,bT,b',bU⟩:=l6.1 aC;grind
   have I:look (f' (λi=>eo i (c' r.after.toList)) 0 (jN ac CT F bf g cJ m e).pre (hn (jN ac CT F bf g cJ m e).a' g cJ)) o=look (hn (j e).a' g cJ) o:=x;rw[I,bs e w,<-aF,K0];split
   .trivial
   rename_i b0;cases aM:idx o with
   |some i=>
    have cc:=(b9 o).2 ⟨i,aM⟩;have bD:nB e o g=v:=N;obtain⟨bh,a_,a2⟩:=b6 o i aM;have bI:=qI (Kq bD i bh a_ a2);obtain⟨q,Q,Y,heq⟩:=l6.1 bI;rw[aM]at ab;simp only at ab;split at ab
    ·
     rename_i a4;obtain⟨cb,bW,bV,bH⟩:=a4;grind
    rw[bl ⟨bh,by grind,q,by grind,Y,heq⟩]at ab;exact ab
   |none=>grind
  intro o k b aa ab;have bB:j (c g)=ah:=bS;rcases vK (A:=λ_=>l) (J:=mS g J) (o:=o) (d:=ah.pre) (e:=0)with⟨i,aL,s,_,x⟩|x
  .rw[x];have B:=W (c g) (bC _) i;rw[bB,s]at B;have S:i<c g:=N;grind
  rw[x,tp];split
  .trivial
  grind
 intro b bT an a6 b' cf ca b7 Y aY;have aS:j aV.size=ah:=N;refine .next a λE H=>?_;have H:=aO.bO H;have G:=a6.rely H;have aB:=an.rely H a6;have X:cO k E k {E with a:={E.a with drawn:=E.a.drawn+1}}:=cO.same rfl rfl rfl rfl;have ao:bc k {E with a:={E.a with drawn:=E.a.drawn+1}}:=G.same rfl;have bk:=H.aT.trans (X.too4 G);refine⟨_,{E with a:={E.a with drawn:=E.a.drawn+1}},#[],EA,⟨⟨k,k,G,ao,X⟩,.nil⟩,?_⟩;simp only[Region.schedule,a5,Bool.true_or,dx];refine O.eR Y (cH:={E with a:={E.a with drawn:=E.a.drawn+1}}) (λbP bu aQ u au=>?_) aV.size _ D ?_ ?_ 0 _ bT w ?_ ?_ ao (.refl _ _) _
 .simp only[aS]at aQ u au;exact aY .normal _ _ bP bu bE aQ u (bk.trans au)
 .simp
 .exact FI
 .intro Z y bX;exact wJ
 have aG:=aB.mono (X.too4 G) G.len;refine⟨aG.size,aG.defers,λo=>?_⟩;unfold gL;cases aM:idx o with
 |none=>exact aG.aK o
 |some i=>
  simp only;rw[bj]
  .exact aG.aK o
  exact wJ
end
section
variable {q:af P}
theorem g.iI(e:P.follows Departure.mixedOrders=l)(a0:b3 P ac)(b:a' q CT){a}{id}(h:yc ac CT F bf aV.toList J k=f (a,aq,cp))(d:U cp)(i:g q F be av .normal a aq):g q F be (.code (.region id aV l)::av) .normal J k:=
 Ua e a0 b h d i id
end
def r'(x:m (Nat×cq))(p:m (Nat×bI))(k:m (Nat×Bool))(w:Nat)(b:m iv)(a:bM)(e:m ar):Option (m iv×bM×m ar×m Prop):=
 match b with
 |[]=>n
 |.blk _::b=>f (b,a,e,[])
 |.aj _ []::b=>f (b,a,e,[])
 |.aj g (q::i)::b=>match ft w q.dst with
  |true=>match iI x p k g a e q with
   |some (o,n,d)=>e5 (gi q.dst o a) λa=>f (.aj g i::b,a,e,d)
   |some (o,f j,d)=>e5 (gi q.dst o a) λa=>f (.aj g i::b,a,j,d)
   |none=>n
  |false=>n
 |.code t::b=>match t with
  |.skip=>f (b,a,e,[])
  |.seq o u=>f (.code o::.code u::b,a,e,[])
  |.block id t=>f (.code t::.blk id::b,a,e,[])
  |.region id h y=>match vJ k (id+900)with
   |some _=>n
   |none=>match y with
    |false=>f (.aj h.toList h.toList::b,a,e,[])
    |true=>match yc x p w k h.toList a e with
     |some (r,j,d)=>f (b,r,j,d)
     |none=>n
  |.exit id=>match i4 id b with
   |some s=>f (s,a,e,[])
   |none=>n
  |.cond (.tmp z) o u=>match look a z with
   |.n (.R (.c (.bool l)))=>f (.code o::b,a,e,[])
   |.n (.R (.c (.bool v)))=>f (.code u::b,a,e,[])
   |_=>n
  |_=>n
theorem acW{d:af P}(p:P.follows Departure.mixedOrders=l)(a0:b3 P ac)(ak:a' d CT){C}{a}(t:r' ac CT bf F av J k=f (C,a,aq,cp))(cx:U cp)(h:g d F be C .normal a aq):g d F be av .normal J k:=by
 unfold r' at t;split at t
 .cases t
 .grind [g.ie]
 .grind [g.hE]
 .rename_i all r bq b;cases e:ft F r.dst with
  |false=>grind
  |true=>
   simp[e]at t;have aj:=lg e;split at t
   .rename_i m j i;exact RJ
   .rename_i m aX j i;exact RJ
   grind
 rename_i o b;split at t
 .grind [g.skip]
 .grind [g.seq]
 .grind [g.block]
 .grind [g.region,g.iI]
 .grind [g.exit]
 .grind [g.cond]
 grind
def k0(o:m (Nat×cq))(b:m (Nat×bI))(d:m (Nat×Bool))(k:Nat):Nat->m iv->bM->m ar->m Prop->Option (m iv×bM×m ar×m Prop)
 |0,g,e,h,a=>e5 a λa=>f (g,e,h,a)
 |q+1,g,e,h,a=>match r' o b d k g e h with
  |some (p,i,j,r)=>k0 o b d k q p i j (gT r a)
  |none=>e5 a λa=>f (g,e,h,a)
def MA{P}{q:af P}(u:P.follows Departure.mixedOrders=l){ac}(a0:b3 P ac){CT}(w:a' q CT){bf}{F}{be}:∀{s:Nat}{i p:m iv}{h d:bM}{j e:m ar}{b a:m Prop},
  k0 ac CT bf F s i h j b=f (p,d,e,a)->U a->g q F be p .normal d e->g q F be i .normal h j/\U b
 |0,i,p,h,d,j,e,b,a,k,o,r=>by simp[k0,hL]at k;grind
 |s+1,i,p,h,d,j,e,b,a,k,o,r=>by
  simp[k0]at k;cases x:r' ac CT bf F i h j with
  |none=>
   grind[hL]
  |some y=>
   obtain⟨A,z,t,D⟩:=y;simp[x]at k;obtain⟨C,B⟩:=MA u a0 w k o r;grind[U.Y,acW]
def g.aN{b:af P}(m:P.follows Departure.mixedOrders=l)(a0:b3 P ac)(d:a' b CT)(bf)(j){i}{a}{h}(o:AM.k0 ac CT bf F j av J k []=f (i,a,aq,h))(e:U h)(p:g b F be i .normal a aq):g b F be av .normal J k:=(MA m a0 d o e p).1
section
variable {q:af P}
def pC(e:m ResultVar)(b:m Nat)(g:bM)(a:y):Option (m Prop):=
 match oK g e with
 |some d=>match pq d with
  |some h=>match h0 (c b) a with
   |true=>kt h (fm b a)
   |false=>n
  |none=>n
 |none=>n
def g.aJ{fn}{x}{res}(aY)(t:pC fn.results.toList aY J res=f Z)(O:U Z)(bY:∀u,u<x->aY[u]?=f u)(s:dz aY k=f aq:=by exact rfl)(i:l8 aq=l:=by exact rfl)(ju:fl aY=l:=by exact rfl):
  g q F (bZ fn x res aq) (.code .ret::av) .normal J k:=by refine g.ret ⟨.inl a,aY,?_⟩;unfold pC at t;grind
def g.aw{fn}{res}(t:pC fn.results.toList [] J res=f Z)(x:U Z:=by simp):g q F (bZ fn 0 res []) (.code .ret::av) .normal J k:=
 g.aJ [] t x (λu t=>by omega)
def bZ.zero{fn}{res}(t:pC fn.results.toList [] J res=f Z)(s:U Z:=by simp):bZ fn 0 res [] .ret J k:=by
 refine⟨.inl a,[],?_⟩;unfold pC at t;split at t
 .rename_i bf ZC;split at t
  .rename_i O i;split at t
   .rename_i x;exact⟨bf,O,Z,ZC,i,t,s,x,a,a,a,λu t=>by omega⟩
   grind
  grind
 grind
def g.bs{id}{Q:bM->m ar->Prop}{AK}{d C}(j:i4 id av=n)(o:i4 id d=f C)(w:g q F AK C .normal J k):
  g q F (λh b e=>match h with
   |.normal=>Q b e
   |h=>g q F AK d h b e) (.code (.exit id)::av) .normal J k:=by
 have key:∀{av:m iv},i4 id av=n->∀{aP:fF},aP (.exit id) J k->g q F aP av (.exit id) J k:=by
  intro av;induction av with
  |nil=>intro _ aP i;exact i
  |cons u A r=>
   intro a aP i;cases u with
   |code z=>exact r (by simpa[i4]using a) i
   |aj x y=>exact r (by simpa[i4]using a) i
   |blk s=>
    simp[i4]at a;cases p:ad id s with
    |true=>grind
    |false=>
     simp[p]at a;have t:id≠s:=λh=>by grind[Nat.beq_refl]
     simp[g,t,dn];grind
 exact b4.exit (key j (g.toExit o w))
def g.bS{Q:bM->m ar->Prop}{a}{h}(i:a .ret J k):
  g q F (λe b d=>match e with
   |.normal=>Q b d
   |e=>g q F a h e b d) (.code .ret::av) .normal J k:=g.ret (g.dP (be:=a) i)
def g.again{i:Type}{r:i->Prop}{e:i->bM}{h:i->m ar}{j:i->Nat}{s}{o:fF}(a)(w:i_ J (e a)=f Z)(x:U Z)(y:r a)(u:j a<j s)(t:k=h a):
  g q F (λp b d=>match p with
   |.normal=>∃a,r a/\j a<j s/\iM b (e a)/\d=h a
   |p=>o p b d) [] .normal J k:=⟨a,y,u,eO w x,t⟩
def g.ek{j:Type}(i:j->Prop)(a:j->bM)(b:j->m ar)(p:j->Nat)(d)(u:i_ J (a d)=f Z)(w:U Z)(x:i d)(t:b d=k)(round:∀d,i d->g q F (λr e h=>match r with
   |.normal=>∃o,i o/\p o<p d/\iM e (a o)/\h=b o
   |r=>g q F be av r e h) [.code s] .normal (a d) (b d)):g q F be (.code (.loop s)::av) .normal J k:=
 g.loop i a b p d x (eO u w) t round
def kF(args:m y)(a:m ar):Prop:=∃b z,b5 a b z args/\bc a b
def kF.at{args}(e:kF args k){a}(g:args[u]?=f a):∃b h,bx k b h a:=by obtain⟨b,z,d,_⟩:=e;obtain⟨_,i⟩:=b5.get d;grind
def kF.S{args}{k}(e:kF args k)(h:Nat){d}(a:args[h]?=f (ax (.S d))):c d<=9223372036854775807:=by
 obtain⟨i,j,g⟩:=e.at a;cases b8 g with
 |S e b=>exact b
def kF.B{args}{k}(g:kF args k)(p:Nat){o}{h j}{a:Nat->m M}(b:args[p]?=f (ax (.B o h j a))):j<=9223372036854775807:=by
 obtain⟨t,u,e⟩:=g.at b;cases b8 e with
 |B r d s q i=>omega
def Y.body{i}{fn}{args}{res}(h:P.funcs[i]?=f fn)(e:(fn.name== "runtime.NumGoroutine")=v)(d:fn.body=f s)(m:ay args.length fn.ntmps=l)(o:kF args k->g q fn.ntmps (bZ fn k.length res aq) [.code s] .normal (ib 0 args) k):Y q i args k res aq:=by refine⟨⟨fn,h,e,by grind⟩,λj z b a=>?_⟩;exact(Y.intro h e d (fA m) (g.aQ (o ⟨j,z,b,a⟩))).2 j z b a
def Y.I{b}{fn}{s}{args}{k aq}{res}(d:P.funcs[b]?=f fn)(a:(fn.name== "runtime.NumGoroutine",fn.body,ay args.length fn.ntmps)=(v,f s,l))(e:kF args k->g q fn.ntmps (bZ fn k.length res aq) [.code s] .normal (ib 0 args) k):Y q b args k res aq:=by simp only[lL]at a;exact Y.body d a.1 a.2.1 a.2.2 e
def g.cj{i}(a)(aq)(j:(∀h(b:m Prop),i_ h a=f b->U b->g q F be (.code s::i) .normal h aq)->g q F be av .normal J k)(o:g q F be (.code s::i) .normal a aq):g q F be av .normal J k:=
 j λ_ _ d e=>b4.le o (eO d e)
end
def l2{e}(a:P.types[o]?=f e):P.info? o=f e:=by unfold Tables.info?;rw[bl (jk.1 a).1];exact a
def b3.nil:b3 P []:=λ_ _ a=>by cases a
def b3.cons{e}(g:eQ P o e)(h:b3 P ac):b3 P ((o,e)::ac):=by
 intro t2 d a;simp only[b0]at a;cases b:ad o t2 with
 |true=>rw[b]at a;cases a;rw[<-dp b];exact g
 |false=>rw[b]at a;exact h t2 d a
abbrev Ff:M:=.B l 0 0 (λ_=>[])
def xj:X->M
 |.int a _=>.int a 0
 |.bool _=>.bool v
 |.string _=>.S []
 |.slice _ _ _=>Ff
 |.pointer _=>.bp
 |.nilIface=>.bD
 |_=>.ds
def cf(a b:TypeInfo)(d:m TypeDesc:=[]):cq:=⟨a.size,a.bytes,vC b.desc,b.desc,a.zero.elim [] λe=>e.cells.toList.map xj,d⟩
def y7(b i:TypeInfo):Bool:=match b.zero with
 |some a=>a.cells.size==b.size&&a.cells.toList.all (λj=>match j with|.int e g=>g==0&&vA e 0|.bool d=>!d|.string h=>h.data.toList.isEmpty|.slice n 0 0|.pointer n|.nilIface|.nilFunc=>l|_=>v)&&(!vC i.desc||match a with|.agg _=>l|_=>v)
 |none=>v
def eQ.h7{j k:TypeInfo}{r:m TypeDesc}(A:P.underlying o=f k.desc)(B:P.types[o]?=f j)(g:y7 j k=l)(C:r≠[]->P.eqGuardType P.depth o=v/\∀(s:au)(z e:m X)(t:Bool),nt r z e=f t->(Op.equal o (.agg z.toArray) (.agg e.toArray)).run P s=.ok t s/\∀i,(Op.equal o (.agg z.toArray) (.agg e.toArray)).events P s i=i):eQ P o (cf j k r):=by
 unfold y7 at g;cases h:j.zero with
 |none=>rw[h]at g;cases g
 |some u=>
  simp only[h,cm,gR,aW]at g;obtain⟨⟨p,q⟩,w⟩:=g;refine⟨A,a,⟨j,u,l2 B,a,a,h,?_,?_,by simp[cf,h,p]⟩,C⟩
  .simp only[cf,h,Option.elim,uL];refine qb λD x=>?_;have:=q D x;split at this<;>try simp only[cm,gR,List.isEmpty_iff,jl]at this
   .obtain⟨rfl,d⟩:=this;simp[k_,xj,d]
   .simp[k_,xj,this]
   .rename_i b;have d:b.size=0:=by rw[show b.size=c b.data.toList from a,this];rfl
    simp only[Function.comp,k_,xj,this,d];rfl
   all_goals first|rfl|cases this
  by_cases y:vC k.desc=l
  .cases u<;>simp_all[cf]
  exact⟨#[],(bj y).symm⟩
def b3.eb{d e:TypeInfo}(b:P.underlying o=f e.desc)(h:P.types[o]?=f d)(g:y7 d e=l)(i:b3 P ac):b3 P ((o,cf d e)::ac):=.cons (.h7 b h g λb=>absurd a b) i
def b3.kg{d b:TypeInfo}{e:TypeDesc}{g:m TypeDesc}{a:m Field}(h:P.underlying o=f b.desc)(r:P.types[o]?=f d)(i:y7 d b=l)(k:b.desc=.struct a.toArray)(j:P.stoodInHeld o=v)(p:P.eqGuardType P.depth o=v)(q:w0 P (e::g) a 0)(s:b3 P ac):b3 P ((o,cf d b (e::g))::ac):=.cons (.h7 h r i λ_=>Zl (h.trans (eF f k)) j p q) s
namespace R1
section
noncomputable def dZ:cq:=cf t3 t3
noncomputable def tc:cq:=cf t9 t9
noncomputable def ZK:cq:=cf t31 t31
noncomputable def Dp:cq:=cf t43 t43
noncomputable def rR:cq:=cf t51 t50 [.string,.string]
noncomputable def vx:cq:=cf t56 t55 [.int .i64,.int .i64]
noncomputable def yJ:cq:=cf t58 t57 [.int .i64,.int .i64]
noncomputable def ZL:cq:=cf t81 t81
noncomputable def Dq:cq:=cf t84 t84
noncomputable def nD:cq:=cf t86 t85
noncomputable def rS:cq:=cf t90 t89
noncomputable def mH:cq:=cf t121 t120 [.int .i64,.string]
noncomputable def yH:cq:=cf t123 t122
noncomputable def yI:cq:=cf t234 t234
noncomputable def rQ:cq:=cf t246 t245 [.string,.bool]
noncomputable def pn:cq:=cf t255 t254 [.int .i64,.int .i64]
noncomputable def Do:cq:=cf t274 t84
noncomputable def eU:m (Nat×cq):=[(2,cf t2 t2),(3,dZ),(4,cf t4 t4),(5,cf t5 t5),(6,cf t6 t5),(7,cf t7 t7),(8,cf t8 t7),(9,tc),(12,cf t12 t12),(16,cf t16 t16),(17,cf t17 t17),(20,cf t20 t20),(21,cf t21 t21),(22,cf t22 t22),(23,cf t23 t23),(26,cf t26 t26),(27,cf t27 t27),(28,cf t28 t28),(30,cf t30 t29),(31,ZK),(33,cf t33 t32),(35,cf t35 t34 [.int .i64,.int .i64,.int .i64,.string]),(36,cf t36 t36),(38,cf t38 t37),(43,Dp),(45,cf t45 t44),(51,rR),(56,vx),(58,yJ),(62,cf t62 t62),(70,cf t70 t26),(72,cf t72 t71),(76,cf t76 t76),(78,cf t78 t78),(79,cf t79 t79),(81,ZL),(84,Dq),(86,nD),(88,cf t88 t88),(90,rS),(96,cf t96 t96),(100,cf t100 t99),(121,mH),(123,yH),(132,cf t132 t131),(163,cf t163 t163),(179,cf t179 t178),(182,cf t182 t182),(184,cf t184 t184),(193,cf t193 t193),(203,cf t203 t203),(215,cf t215 t214 [.string]),(220,cf t220 t220),(221,cf t221 t12),(223,cf t223 t222),(226,cf t226 t225),(228,cf t228 t5),(234,yI),(236,cf t236 t235),(237,cf t237 t235),(238,cf t238 t235),(239,cf t239 t239),(241,cf t241 t240),(242,cf t242 t242),(244,cf t244 t243),(246,rQ),(255,pn),(265,cf t265 t265),(270,cf t270 t270),(273,cf t273 t273),(274,Do),(283,cf t283 t283),(286,cf t286 t286),(288,cf t288 t288),(289,cf t289 t289),(307,cf t307 t307),(309,cf t309 t308),(320,cf t320 t3),(331,cf t331 t331),(334,cf t334 t333),(335,cf t335 t3),(341,cf t341 t340),(355,cf t355 t355),(358,cf t358 t239),(361,cf t361 t361),(377,cf t377 t377),(380,cf t380 t380),(393,cf t393 t392 [.int .u8,.int .u8]),(394,cf t394 t394),(395,cf t395 t395),(398,cf t398 t398),(400,cf t400 t399),(402,cf t402 t5),(404,cf t404 t21),(405,cf t405 t21),(407,cf t407 t406),(413,cf t413 t412 [.string])]
end
def bb:b3 S eU:=by
 unfold eU
 repeat' first|exact b3.nil|refine b3.kg bG bG bG rfl bG bG (by repeat' first|exact B|kernel_rfl|refine⟨by decide,rfl,?_,?_⟩|refine⟨?_,?_⟩) ?_|refine b3.eb bG bG bG ?_
end R1
abbrev bA:=m UInt8
abbrev b2(a:bA):y:=ax (.S a)
abbrev R(a:Int):y:=ax (.int .i64 a)
abbrev vd(a:Int):y:=ax (.int .u8 a)
abbrev bg(a:Bool):y:=ax (.bool a)
def xC{b}:kM b e=b.getD e 0:=rfl
namespace R1
variable {q:af S}
def b6:Tryz.prog.follows Departure.mixedOrders=l:=rfl
def tH{b:af S}{CT}(h:a' b CT)(bf){F}{be}(j){av i}{J a}{k aq}{e}(m:AM.k0 eU CT bf F j av J k []=f (i,a,aq,e))(d:U e)(o:g b F be i .normal a aq):g b F be av .normal J k:=g.aN b6 bb h bf j m d o
def gv{d:af S}(bf){F}{be}(j){av i}{J a}{k aq}{e}(h:AM.k0 eU [] bf F j av J k []=f (i,a,aq,e))(b:U e)(m:g d F be i .normal a aq):g d F be av .normal J k:=g.aN b6 bb a'.nil bf j h b m
def aR{d:af S}{F}{be}{av i}{J a}{k aq}{e}(h:AM.k0 eU [] [] F 100 av J k []=f (i,a,aq,e))(b:U e)(j:g d F be i .normal a aq):g d F be av .normal J k:=g.aN b6 bb a'.nil [] 100 h b j
def cA{d:af S}{F}{be}{av i}{J a}{k aq}{e}(h:AM.k0 eU [] [] F 200 av J k []=f (i,a,aq,e))(b:U e)(j:g d F be i .normal a aq):g d F be av .normal J k:=g.aN b6 bb a'.nil [] 200 h b j
def a_{b:af S}{CT}(h:a' b CT)(bf){F}{be}{av i}{J a}{k aq}{e}(j:AM.k0 eU CT bf F 100 av J k []=f (i,a,aq,e))(d:U e)(m:g b F be i .normal a aq):g b F be av .normal J k:=g.aN b6 bb h bf 100 j d m
def bd{b:af S}{CT}(h:a' b CT)(bf){F}{be}{av i}{J a}{k aq}{e}(j:AM.k0 eU CT bf F 200 av J k []=f (i,a,aq,e))(d:U e)(m:g b F be i .normal a aq):g b F be av .normal J k:=g.aN b6 bb h bf 200 j d m
def a4{d:af S}(bf){F}{be}{av i}{J a}{k aq}{e}(h:AM.k0 eU [] bf F 100 av J k []=f (i,a,aq,e))(b:U e)(j:g d F be i .normal a aq):g d F be av .normal J k:=g.aN b6 bb a'.nil bf 100 h b j
def bO{d:af S}(bf){F}{be}{av i}{J a}{k aq}{e}(h:AM.k0 eU [] bf F 200 av J k []=f (i,a,aq,e))(b:U e)(j:g d F be i .normal a aq):g d F be av .normal J k:=g.aN b6 bb a'.nil bf 200 h b j
def b9{b:af S}{CT}(h:a' b CT){F}{be}{av i}{J a}{k aq}{e}(j:AM.k0 eU CT [] F 100 av J k []=f (i,a,aq,e))(d:U e)(m:g b F be i .normal a aq):g b F be av .normal J k:=g.aN b6 bb h [] 100 j d m
def cU{b:af S}{CT}(h:a' b CT){F}{be}{av i}{J a}{k aq}{e}(j:AM.k0 eU CT [] F 200 av J k []=f (i,a,aq,e))(d:U e)(m:g b F be i .normal a aq):g b F be av .normal J k:=g.aN b6 bb h [] 200 j d m
def lr(a:Int):Bool:=decide (97<=a)&&decide (a<=101)
theorem Xk(i):Y q 118 [vd i] [] (bg (lr i)) []:=by
 refine Y.I func118 rfl λ_=>?_;by_cases b:97<=i
 .refine a4 [4] a ?_ (g.aw a ?_)<;>simp[b,lr]
 refine a4 [-4] a ?_ (g.aw a ?_)<;>simp[b,lr]
def jx(a:UInt8):Bool:=decide (97<=a.toNat)&&decide (a.toNat<=122)
def d6(a:bA):Bool:=a.all jx
def aaj{b}(d:∀a,a<c b->jx (b.getD a 0)=l):d6 b=l:=by simp[d6,aW];grind[List.getElem_of_mem]
def aag{b}(e:u<c b)(d:jx (b.getD u 0)=v):d6 b=v:=by
 cases a:d6 b with
 |false=>rfl
 |true=>
  simp[d6,aW]at a;grind
theorem WP(b):Y q 119 [b2 b] [] (bg (d6 b)) []:=by
 refine Y.I func119 rfl λe=>?_;have m:=e.S 0 a;refine aR a B (g.ek (λd=>d<=c b/\∀u,u<d->jx (b.getD u 0)=l) (λd:Nat=>[(0,b2 b),(3,R d)]) (λ_=>[]) (λd=>c b-d) 0 a D ⟨by omega,by omega⟩ a ?_);rintro d ⟨h,s⟩;by_cases t:d<c b
 .generalize x:b.getD d 0=i;by_cases k:i.toNat<97
  .refine a4 [7,13] a ?_ (g.bS (bZ.zero a ?_))
   .simp only[U,xC,bw,x];omega
   exact Ah
  by_cases j:i.toNat>122
  .refine a4 [7,-13,18] a O_ (g.bS (bZ.zero a ?_));exact Ah
  refine a4 [7,-13,-18] a Q7 (g.again (d+1) a D ?_ ?_ a)
  .refine⟨by omega,λu O=>?_⟩;rcases w_.1 O with O|rfl
   .grind
   rw[x];simp[jx,cm,bw];omega
  omega
 exact Pu
end R1
def Y.args{P:aD}{h:af P}{i}{args a}{k aq}{res}(j:Y h i a k res aq)(e:∀b z,b5 k b z args->b5 k b z a):Y h i args k res aq:=
 ⟨j.1,λb z g d=>j.2 b z (e b z g) d⟩
def jA(d:Nat):y->Option (Nat×(Nat->m M))
 |.n (.R (.c (.B _ e b a)))=>match ad e d with
  |true=>f (b,a)
  |false=>match ad b 0 with
   |true=>f (0,λ_=>[])
   |false=>n
 |_=>n
def acB{C}{r}{j}{e:Nat->m M}(a:jA C r=f (j,e)){k}{b}{aa}(s:bx k b aa r):Rd b.D aa (.B v C j e):=by
 unfold jA at a;split at a
 .rename_i o h d dI;split at a
  .rename_i g;have p:=dp g;subst p;cases a;exact(b8 s).en
  split at a
  .rename_i u;have p:=dp u;subst p;cases a;have q:=b8 s;cases q with
   |B x i y t E F g z A B=>exact Rd.B x i y t E D w w w w
  grind
 grind
def gK{b:Type}(d:b->m M)(a:b)(g:m b):Nat->m M:=λe=>d (g.getD e a)
structure c6(α:Type) where
 bm:Nat
 a8:α->m M
 b_:m M->α
 E:α
 inv:∀x,b_ (a8 x)=x
 len:∀x,c (a8 x)=bm
namespace c6
variable {α:Type}(s:c6 α)
def ad(d:Nat)(a:Nat->m M):m α:=(aA d).map λb=>s.b_ (a b)
def fn(a:m α):Nat->m M:=gK s.a8 s.E a
def bH(d:Nat)(a:Nat->m M):Prop:=∀b,b<d->a b=s.a8 (s.b_ (a b))
def B(a:m α):y:=ax (.B v s.bm (c a) (s.fn a))
def js{j}{a:Nat->m M}:c (s.ad j a)=j:=by simp[ad]
def l(d):s.ad (c d) (s.fn d)=d:=by
 apply p8
 .simp[ad]
 intro e b a;simp[ad,fn,gK,al,bJ a,s.inv]
def U(d){j}:s.bH j (s.fn d):=λa _=>by simp[fn,gK,s.inv]
def iQ{j}{a:Nat->m M}(d:s.bH j a):bs j a (s.fn (s.ad j a)):=by intro e b;rw[d e b];simp[fn,gK,ad,al,b]
def cv{d}{j}{a:Nat->m M}(i:jA s.bm d=f (j,a))(g:s.bH j a){k}{b}{aa}(o:bx k b aa d):bx k b aa (s.B (s.ad j a)):=by have e:=acB i o;have h:=e.cA (s.iQ g);show Rd b.D aa (.B v s.bm (c (s.ad j a)) _);rw[s.js];exact h
end c6
def ds(b:bA)(a:Nat):Int:=(b.getD a 0).toNat
theorem kk(b)(u):((kM b u).toNat:Int)=ds b u.toNat:=rfl
abbrev cN:=bA×bA
def tR(a:m M)(b:Nat):bA:=match da b a with|some (.S d)=>d|_=>[]
def nE(a:m M)(b:Nat):Int:=match da b a with|some (.int _ d)=>d|_=>0
def bu:c6 cN:={bm:=2,a8:=λb=>[.S b.1,.S b.2],b_:=λa=>(tR a 0,tR a 1),E:=([],[]),inv:=λ_=>rfl,len:=λ_=>rfl}
namespace R1
variable {q:af S}
def Bt:bI:=λargs a=>match args,a with
 |[.n (.R (.c (.int .u8 b)))],[]=>f (bg (lr b),[],[])
 |_,_=>n
def ade:bL q 118 Bt:=by intro args g b d a e _;unfold Bt at e;grind[Xk]
def xD:bI:=λargs a=>match args,a with
 |[.n (.R (.c (.S b)))],[]=>f (bg (d6 b),[],[])
 |_,_=>n
def Nl:bL q 119 xD:=by intro args g b d a e _;unfold xD at e;grind[WP]
def Im:m (Nat×bI):=[(118,Bt),(119,xD)]
def ql:a' q Im:=a'.cons ade (a'.cons Nl a'.nil)
def f_(a:bA):Bool:=if c a=1 then lr (ds a 0)else if c a=3 then lr (ds a 0)&&(ds a 1==47)&&lr (ds a 2)else v
theorem XO(b):Y q 77 [b2 b] [] (bg (f_ b)) []:=by
 refine Y.I func77 rfl λh=>?_;by_cases ak:c b=1
 .refine a_ ql [6] a Ap (g.aw a ?_);simp[f_,ak,kk]
 by_cases d:c b=3
 .by_cases i:lr (ds b 0)=l
  .by_cases e:ds b 1=47
   .refine a_ ql [-6,11,14,18] a ?_ (g.aw a ?_)
    .simp[d,kk,i,e]
    simp[f_,d,i,e,kk]
   refine a_ ql [-6,11,14,-18] a ?_ (g.aw a ?_)
   .simp[d,kk,i,e]
   simp[f_,d,i,e]
  refine a_ ql [-6,11,-14] a ?_ (g.aw a ?_)
  .simp[d,kk,i]
  simp[f_,d,i]
 refine a_ ql [-6,-11] a bK (g.aw a ?_);simp[f_,ak,d]
def fU(a:bA):Bool:=decide (c a<=40)&&d6 a
theorem YL(b):Y q 78 [b2 b] [] (bg (fU b)) []:=by
 refine Y.I func78 rfl λe=>?_;by_cases d:c b<=40
 .refine a_ ql [5] a bK (g.aw a ?_);simp[fU,d]
 refine a_ ql [-5] a bK (g.aw a ?_);simp[fU,d]
def ld(a b:bA):Bool:=(c a != c b)&&(ds a 0==ds b 0)
def UX(b i)(d:b≠[])(e:i≠[]):Y q 79 [b2 b,b2 i] [] (bg (ld b i)) []:=by
 have j:=A6.2 d;have h:=A6.2 e;refine Y.I func79 rfl λk=>?_;by_cases O:c b=c i
 .refine a4 [-9] a pS (g.aw a ?_);simp[ld,O]
 refine a4 [9] a bv (g.aw a ?_);simp[ld,O,kk]
end R1
def rf(d a:m ar):Prop:=∀b,bc d b->bc a b/\cO d b a b/\∀g(e:y),bx d b g e->bx a b g e
def Dz:ar->ar->Option (m Prop)
 |.x h r j d,.x a e g b=>match ad h a,ad r e with
  |true,l=>f [j=g,bs j d b]
  |_,_=>n
 |.cells h q,.cells a i=>match ad h a with
  |true=>qD q i
  |false=>n
 |.N,.N=>f []
 |.K H,.K k=>f [H=k]
 |.loop u t w,.loop p o s=>f [ar.loop u t w=ar.loop p o s]
 |.bk,.bk=>f []
 |.q h r j d,.q a e g b=>match ad h a,ad r e with
  |true,l=>f [j=g,bs j d b]
  |_,_=>n
 |_,_=>n
def jw:m ar->m ar->Option (m Prop)
 |[],[]=>f []
 |b::h,d::g=>match Dz b d with
  |some e=>match jw h g with
   |some a=>f (gT e a)
   |none=>n
  |none=>n
 |_,_=>n
def wX(j e:ar):Prop:=
 (∀d h g a,j=.x d h g a->∃b,e=.x d h g b/\bs g a b)/\((∀d h g a,j≠.x d h g a)->(∀d h g a,e≠.x d h g a)/\(j=e∨(∃d k i,j=.cells d k/\e=.cells d i/\∀m o z,bP m o z k->bP m o z i)∨∃d h g a b,j=.q d h g a/\e=.q d h g b/\bs g a b))
theorem aaa{B g}(d:Dz B g=f Z)(k:U Z):wX B g:=by
 unfold Dz at d;split at d
 .rename_i W h j V i x e b;split at d
  .rename_i s u;cases d;have m:=dp s;have w:=dp u;obtain⟨r,D⟩:j=e/\bs j V b:=k;subst m w r;refine⟨λeV J M C he=>?_,λK=>absurd a (K _ _ _ _)⟩;grind
  grind
 .rename_i W ai i o;split at d
  .rename_i s;have m:=dp s;subst m;exact⟨λ_ _ _ _ he=>q9,λ_=>⟨λ_ _ _ _ he=>q9,.inr (.inl ⟨W,ai,o,a,a,λN O z y=>DB d k y⟩)⟩⟩
  grind
 .exact FM
 .cases d;rename_i H p;have t:H=p:=k;subst t;exact FM
 .cases d;rename_i F E y I q A;have t:ar.loop F E y=ar.loop I q A:=k;exact⟨λ_ _ _ _ he=>q9,λ_=>⟨λ_ _ _ _ he=>q9,.inl t⟩⟩
 .exact FM
 .rename_i W h j V i x e b;split at d
  .rename_i s u;cases d;have m:=dp s;have w:=dp u;obtain⟨r,D⟩:j=e/\bs j V b:=k;subst m w r;exact⟨λ_ _ _ _ he=>q9,λ_=>⟨λ_ _ _ _ he=>q9,.inr (.inr ⟨W,h,j,V,b,a,a,D⟩)⟩⟩
  grind
 grind
def KQ:∀{h d:m ar}{e:m Prop},jw h d=f e->U e->c d=c h/\∀(i:Nat)g b,h[i]?=f g->d[i]?=f b->wX g b
 |[],[],_,_,_=>⟨rfl,λi g b a=>by grind⟩
 |[],_::_,_,a,_=>by cases a
 |_::_,[],_,a,_=>by cases a
 |k::u,o::t,e,a,j=>by
  simp only[jw]at a;split at a
  .rename_i s p;split at a
   .rename_i afw dC;cases a;rw[U.Y]at j;obtain⟨r,q⟩:=KQ dC j.2;grind[aaa]
   grind
  grind
def jW(D:jw k aq=f Z)(af:U Z):rf k aq:=by
 obtain⟨ax,aE⟩:=KQ D af;intro C G;have aB:∀(i:Nat) q,k[i]?=f q->∃r,aq[i]?=f r/\wX q r:=N;have get:∀(i:Nat) (r:ar),aq[i]?=f r->∃q,k[i]?=f q/\wX q r:=N;have az:∀(i:Nat),(∀q,k[i]?=f q->q.dT=v)->∀q,aq[i]?=f q->q.dT=v:=by
  intro i ae r p;obtain⟨q,aM,x⟩:=get i _ p;have aw:=ae q aM;rcases(x.2 (λg h j b u=>by rw[u]at aw;cases aw)).2 with rfl|⟨g,e,M,rfl,rfl,_⟩|⟨g,h,j,b,d,rfl,rfl,_⟩
  .omega
  .rfl
  exact cX
 have aO:∀(i:Nat) g h j b,aq[i]?=f (ar.q g h j b)->∃d,k[i]?=f (ar.q g h j d):=by
  intro i g h j b p;obtain⟨q,aM,x⟩:=get i _ p;by_cases B:∃g h j b,q=ar.x g h j b
  .obtain⟨E1,k1,ah,lU,rfl⟩:=B;obtain⟨d,s,_⟩:=x.1 _ _ _ _ rfl;cases s
  rcases(x.2 (λg h j b u=>B ⟨g,h,j,b,u⟩)).2 with rfl|⟨g,e,M,rfl,D,_⟩|⟨g,h,j,b,d,rfl,D,_⟩
  .grind
  .cases D
  grind
 have aK:∀(i:Nat) g h j b,aq[i]?=f (ar.x g h j b)->∃d,k[i]?=f (ar.x g h j d):=by
  intro i g h j b p;obtain⟨q,aM,x⟩:=get i _ p;by_cases B:∃g h j b,q=ar.x g h j b
  .obtain⟨E1,k1,ah,lU,rfl⟩:=B;obtain⟨d,s,_⟩:=x.1 _ _ _ _ rfl;grind
  exact absurd a ((x.2 (λg h j b u=>B ⟨g,h,j,b,u⟩)).1 g h j b)
 have ao:∀(A:X) (R:Q),cB k C A R->cB aq C A R:=by
  intro A R o;cases R with
  |c aI=>exact o
  |ptr i aQ=>exact⟨az i o.1,o.2⟩
  |x i h j b=>
   refine⟨o.1,by rw[ax];exact o.2.1,λg I J d p=>?_⟩;obtain⟨kQ,t⟩:=aK i g I J d p;exact o.2.2 g I J kQ t
  |aP i=>exact⟨az i o.1,o.2⟩
  |O i aR=>
   obtain⟨ag,ai,aF,aG⟩:=o;refine⟨ag,ai,by grind,λg I J d p=>?_⟩;grind
  |any=>exact o
 have aj:∀(z:m X) (e:m Q),bP k C z e->bP aq C z e:=by
  intro z;induction z with
  |nil=>intro e o;cases e with|nil=>trivial|cons _ _=>exact o.elim
  |cons A z F=>intro e o;cases e with|nil=>exact o.elim|cons aD e=>exact⟨ao _ _ o.1,F _ o.2⟩
 have au:∀(A:X) (u:E1),eC k C A u->eC aq C A u:=by
  intro A u o;cases u with
  |R R=>exact ao _ _ o
  |agg e=>obtain⟨z,s,t⟩:=o;exact⟨z,s,aj _ _ t⟩
 have aP:∀(z:m X) (e:m E1),e4 k C z e->e4 aq C z e:=by
  intro z;induction z with
  |nil=>intro e o;cases e with|nil=>trivial|cons _ _=>exact o.elim
  |cons A z F=>intro e o;cases e with|nil=>exact o.elim|cons aD e=>exact⟨au _ _ o.1,F _ o.2⟩
 have av:∀(A:X) (T:y),bx k C A T->bx aq C A T:=by
  intro A T o;cases T with
  |n aI=>exact au _ _ o
  |T aJ=>obtain⟨z,s,t⟩:=o;exact⟨z,s,aP _ _ t⟩
  |any=>trivial
 refine⟨⟨G.mem,by rw[G.len,ax],?_,G.a3,G.lt,G.own⟩,⟨bC _,λ_ _ _=>rfl,λ_ _ _ D=>D,λ_ _ _ _=>rfl,λL D O w=>.inr ⟨L,D,w⟩,?_,a,a,a,a⟩,av⟩
 .intro i r L ak W;obtain⟨q,aM,x⟩:=get i r ak;have w:=G.box i q L aM W;by_cases B:∃g h j b,q=ar.x g h j b
  .obtain⟨g,h,j,b,rfl⟩:=B;obtain⟨d,rfl,p⟩:=x.1 _ _ _ _ rfl;refine⟨w.1.cA p,?_⟩;rcases w.2 with⟨s,t⟩|s
   .exact .inl ⟨s,t.cA p⟩
   grind
  rcases(x.2 (λg h j b u=>B ⟨g,h,j,b,u⟩)).2 with rfl|⟨g,e,M,rfl,rfl,S⟩|⟨g,h,j,b,d,rfl,rfl,S⟩
  .cases q with
   |cells g e=>obtain⟨O,z,s,t,E,K⟩:=w;exact⟨O,z,s,t,aj _ _ E,K⟩
   |x g h j b=>grind
   |K H=>exact w
   |N=>trivial
   |loop aN aL o=>obtain⟨i,tmps,fn,aC,s,t,E,K,V⟩:=w;exact⟨i,tmps,fn,aC,s,t,E,λaH=>av _ _ (K aH),V⟩
   |bk=>exact w
   |q g h j b=>exact w
  .obtain⟨O,z,s,t,E,K⟩:=w;exact⟨O,z,s,t,aj _ _ (S _ _ _ E),K⟩
  rcases w with w|⟨O,Y,z,an,s,t,E,K,V,aa,ab⟩
  .exact .inl w
  exact .inr ⟨O,Y,z,an,s,t,E,K,V,aa.cA S,ab⟩
 intro i q L aM W;obtain⟨r,ak,x⟩:=aB i q aM;refine⟨r,L,ak,W,?_⟩;by_cases B:∃g h j b,q=ar.x g h j b
 .obtain⟨g,h,j,b,rfl⟩:=B;obtain⟨d,rfl,p⟩:=x.1 _ _ _ _ rfl;exact⟨λ_=>rfl,bC _⟩
 rcases(x.2 (λg h j b u=>B ⟨g,h,j,b,u⟩)).2 with rfl|⟨g,e,M,rfl,rfl,S⟩|⟨g,h,j,b,d,rfl,rfl,_⟩
 .exact fV.refl _ _
 .exact a
 exact⟨λ_=>rfl,bC _⟩
section
variable {q:af P}
theorem b4.aO{aP}{e}(E:∀d g,b1 F k d J g->bc k d->∃a:a6,a.a=d.a/\b1 F aq a e g/\bc aq a/\cO k d aq a)(M:b4 q F s aP e aq):b4 q F s aP J k:=by intro d g N b B u m A t r;obtain⟨a,K,D,y,x⟩:=E d g N b;have z:=x.too4 b;refine .aO (.of b y K z) ?_;exact M a g D y B u m A t λC I i w j O o p h=>r C I i w j O o p (z.trans h)
theorem g.aO{b}{aq}(h:∀d e,b1 F k d J e->bc k d->∃a:a6,a.a=d.a/\b1 F aq a b e/\bc aq a/\cO k d aq a)(i:g q F be (.code s::av) .normal b aq):g q F be (.code s::av) .normal J k:=
 b4.aO h i
def b1.al{h:Act}(a:rf k aq)(e:b1 F k b J h)(d:bc k b):b1 F aq b J h:=⟨e.size,e.defers.imp λ_ g=>g.mono (a b d).2.1.ext,λi=>(a b d).2.2 _ _ (e.aK i)⟩
def g.bb(aq)(d:jw k aq=f Z)(b:U Z)(i:g q F be (.code s::av) .normal J aq):g q F be (.code s::av) .normal J k:=
 g.aO (λe j h a=>⟨e,rfl,h.al (jW d b) a,(jW d b e a).1,(jW d b e a).2.1⟩) i
def g.bG(o)(W)(h){gp}(y:look J o=ax (.B l gp j V))(b:j=0)(r:g q F be (.code s::av) .normal ((o,.n (.R (.x (c k) h j V)))::J) (k++[.x W h j V])):g q F be (.code s::av) .normal J k:=by
 refine g.aO (λi d e bR=>?_) r;have t:=e.aK o;rw[y]at t;have a:=Rd.fS (h:=gp) (gp:=h) (.inr b) (b8 t);have aM:eB (k++[.x W h j V]) {i with t:=i.t++[⟨d.tmps.getD o I,[]⟩]} (.x W h j V) ⟨d.tmps.getD o I,[]⟩:=⟨a.en,.inl ⟨⟨rfl,b⟩,a⟩⟩;obtain⟨x,m⟩:=bR.b0 (.refl _ _) rfl bR aM D
 refine⟨{i with t:=i.t++[⟨d.tmps.getD o I,[]⟩]},rfl,⟨e.size,e.defers.imp λ_ a=>a.mono m.ext,λu=>?_⟩,x,m⟩;simp only[look];cases p:ad o u with
 |false=>exact(e.aK u).mono m.ext bR.len
 |true=>
  have w:=dp p;subst w;exact tC (L:=⟨d.tmps.getD o I,[]⟩) D uh aM
def g.b'{K:Type}(I:K->Prop)(h:K->bM)(d:K->m ar)(O:K->Nat)(p){C:m Prop}(aC:i_ J (h p)=f Z)(y:U Z)(au:jw k (d p)=f C)(ai:U C)(aD:I p)(round:∀p,I p->g q F (λt x z=>match t with
   |.normal=>∃b,I b/\O b<O p/\iM x (h b)/\rf z (d b)
   |t=>g q F be av t x z) [.code s] .normal (h p) (d p)):g q F be (.code (.loop s)::av) .normal J k:=by
 intro af aE aj w an X T R W V;have ab:=jW au ai;obtain⟨az,aB,_⟩:=ab af w;refine xq (λj e aF=>∃b,I b/\b1 F (d b) aF (h b) e/\bc (d b) aF/\dg k af (d b) aF/\O b=j) ?_ ?_ ⟨p,aD,(aj.le (eO aC y)).al ab w,az,aB.too4 w,a⟩
 .rintro j e aF ⟨b,Y,o,A,N,t⟩;exact⟨d b,A,λG u=>⟨b,Y,o.rely u A,A.rely u,N.trans u.aT,t⟩⟩
 rintro j e aF ⟨b,Y,o,A,N,rfl⟩ ak;refine round b Y aF e o A an (.inLoop s::X) T R W ?_;intro t Q ah E S ae B i r;cases t with
 |normal=>
  obtain⟨ag,M,aq,ao,aa⟩:=ae;obtain⟨ax,aw,_⟩:=aa E i;exact ak S E (O ag) aq ⟨ag,M,(B.le ao).al aa i,ax,N.trans (r.trans (aw.too4 i)),a⟩
 |_=>exact kP.cons (λ_ _=>rfl) D (V _ _ _ _ _ ae B i (N.trans r))
def g.b6{d:Type}{r:d->Prop}{h:d->bM}{i:d->m ar}{j:d->Nat}{s:d}{o:fF}(a){cT}(w:i_ J (h a)=f Z)(x:U Z)(t:jw k (i a)=f cT)(y:U cT)(z:r a)(u:j a<j s):
  g q F (λp b e=>match p with
   |.normal=>∃a,r a/\j a<j s/\iM b (h a)/\rf e (i a)
   |p=>o p b e) [] .normal J k:=⟨a,z,u,eO w x,jW t y⟩
end
def Y.b2{w:af P}{A}{args}{res d}(h:Y w A args [] res aq)(C:kt res d=f Z)(D:U Z)(x:h0 0 d=l):Y w A args [] d []:=by
 refine⟨h.1,λb z t j B o r=>h.2 b z t j B o λp F m s u g e=>?_⟩;have J:b.t=[]:=jK j.len;have E:e_ m {m with t:=[]}:=⟨rfl,λ_ _ _ h=>h,λ_ _ _=>rfl,g.mem,λy i=>.inl N⟩
 refine .aO E (r p F {m with t:=[]} (s.mono λ_ _ _ h=>h) ?_ ⟨g.mem,rfl,by simp,by simp,by simp,λy i=>⟨(g.own y i).1,by simp⟩⟩ ⟨e.size,e.a4,e.mem,e.bz,by simp,λK I L aM=>by grind,e.os,e.tape,e.output,e.own⟩);have q:=pr C D u;have:=bx.sub (aY:=[]) (k:=aq) (aq:=[]) (b:=m) (lE:=[]) (O:=d) a a (by rw[Mv x];exact q) x;omega
section drop
variable {aX bq:m ar}
def vy(b:Nat):ar->Bool
  |.cells _ a=>lp b a
  |.loop ..=>v
  |_=>l
def kr(a:Nat):m ar->Bool
  |[]=>l
  |b::d=>match vy a b with|true=>kr a d|false=>v
def KC{j}:∀{e:m ar},kr j e=l->∀a∈e,vy j a=l
  |[],_,a,aM=>by grind
  |g::h,b,a,aM=>by
    simp[kr]at b;cases d:vy j g with
    |false=>grind
    |true=>
      simp[d]at b;rcases fh.1 aM with rfl|aM
      · exact d
      · exact KC b a aM
def eB.fC{d}{L}(j:vy (c aX) d=l)(a:eB (aX++bq) b d L):eB aX (b.cut (c aX)) d L:=by
  cases d with
  |cells i o=>
    obtain⟨k,z,g,h,p,m⟩:=a;exact⟨k,z,g,h,bP.cG p j,m⟩
  |x i q r e=>exact a
  |K H=>exact a
  |N=>trivial
  |loop t s u=>simp[vy]at j
  |bk=>exact a
  |q i q r e=>exact a
def bc.drop(e:bc (aX++bq) b)(r:kr (c aX) aX=l):bc aX (b.cut (c aX)):=by
  have m:c aX<=c b.t:=by rw[e.len];simp
  refine⟨e.mem,by simp[a6.cut,m],?_,?_,?_,λg a=>⟨(e.own g a).1,λL d=>(e.own g a).2 L (g4 d)⟩⟩
  · intro i p L aM d
    have q:i<c aX:=(cP.1 aM).1;simp[a6.cut,iA,q,dx]at d;exact eB.fC (bq:=bq) (KC r p (ca aM)) (e.box i p L N d)
  · intro i o L j d k g a h
    simp only[a6.cut,iA]at d k;split at d<;>split at k<;>first|exact e.a3 i o L j d k g a h|grind|grind
  · intro L d g a
    exact e.lt L (g4 d) g a
def jh.drop(o:jX bq=l):∀{e:m Deferred} {g:m Nat},jh (aX++bq) b e g->jh aX (b.cut (c aX)) e g
  |[],[],_=>trivial
  |[],_::_,i=>i.elim
  |_::_,[],i=>i.elim
  |t::e,p::g,⟨⟨d,L,i,k,s⟩,q,r⟩=>by
    have h:p<c aX:=by
      rcases dY p (c aX) with j|j
      · exact j
      · rw[ht j]at d
        exact absurd a (vO o _ (ca d))
    rw[kb h]at d;exact⟨⟨d,L,i,by simp[a6.cut,iA,h,dx];exact k,s⟩,q,jh.drop o r⟩
def vR(b:Nat)(a:m ar):Bool:=match ay b (c a) with|true=>jX (a.drop b)|false=>v
theorem y6(a:vR j k=l):ay j (c k)=l/\jX (k.drop j)=l:=by unfold vR at a;grind
end drop
def qB(a:Nat):bM->Bool
  |[]=>l
  | (_,b)::d=>match h0 a b with|true=>qB a d|false=>v
def vz{j}:∀{d:bM} {a:Nat},qB j d=l->h0 j (look d a)=l
  |[],a,_=>rfl
  | (h,g)::i,a,b=>by
    simp[qB]at b;cases e:h0 j g with
    |false=>grind
    |true=>
      simp[e]at b;simp[look];cases ad h a with
      |true=>exact e
      |false=>exact vz b
section
variable {q:af P}
def ml{e:Type}(w:af P)(u:Nat)(j:fF)(t:m iv)(s:e->Prop)(r:e->bM)(p:e->m ar)(q:e->Nat)(o:Nat)(x:e):fF:=λk d h=>match k with
  |.normal=>∃i,s i/\q i<q x/\iM d (r i)/\qB o (r i)=l/\∃a b,h=a++b/\c a=o/\(kr o a=l/\jX b=l)/\rf a (p i)
  |k=>g w u j t k d h
def g.aH{B:Type}(j)(A:B->Prop)(h:B->bM)(b_:B->m ar)(T:B->Nat)(i){cT}(y:i_ J (h i)=f Z)(ao:U Z)(aD:jw k (b_ i)=f cT)(aj:U cT)(az:c k=j)(G:A i)(round:∀i,A i->g q F (ml q F be av A h b_ T j i) [.code s] .normal (h i) (b_ i)):g q F be (.code (.loop s)::av) .normal J k:=by
  intro af aM aq u X S K E d R;have aa:=jW aD aj;obtain⟨aI,M,_⟩:=aa af u;refine xq (λab e b=>∃bD,A bD/\b1 F (b_ bD) b (h bD) e/\bc (b_ bD) b/\dg k af (b_ bD) b/\T bD=ab) ?_ ?_ ⟨i,G,(aq.le (eO y ao)).al aa u,aI,M.too4 u,a⟩
  · rintro j e b ⟨bD,p,Q,C,O,ak⟩
    exact Pm
  rintro ab e b ⟨bD,p,Q,C,O,rfl⟩ aw;refine round bD p b e Q C X (.inLoop s::S) K E d ?_;intro ak H ah x I ae z t o;cases ak with
  |normal=>
    obtain⟨ag,aP,aC,aB,aK,r,V,rfl,aL,⟨aJ,ai⟩,aF⟩:=ae;have W:=t.drop N;obtain⟨aH,Y,aE⟩:=aF _ W;have f3:=z.le aB;have au:e_ x (x.cut (c r)):=⟨rfl,λ_ _ _ ax=>ax,λ_ _ _=>rfl,t.mem,λX d=>d.imp id λ⟨L,an,d⟩=>⟨L,g4 an,d⟩⟩
    refine .aO au (aw I (x.cut (c r)) (T ag) aC ⟨ag,aP,⟨f3.size,f3.defers.imp λ_ cY=>(cY.drop ai).mono Y.ext,λaG=>aE _ _ ((f3.aK aG).drop (vz N))⟩,aH,?_,a⟩);exact((O.trans o).drop w).trans (Y.too4 W)
  |_=>exact kP.cons (λ_ _=>rfl) D (R _ _ _ _ _ ae z t (O.trans o))
def g.h8{h:Type}{o:h->Prop}{a:h->bM}{d:h->m ar}{i:h->Nat}{p}{e}(b){cT}(w:i_ J (a b)=f Z)(y:U Z)(t:qB j (a b)=l)(r:vR j k=l)(s:jw (k.take j) (d b)=f cT)(z:U cT)(x:kr j (k.take j)=l)(A:o b)(u:i b<i p):
    g q F (ml q F be e o a d i j p) [] .normal J k:=
  ⟨b,A,u,eO w y,t,k.take j,k.drop j,(uM j k).symm,by grind[Nat.le_of_ble_eq_true,y6],⟨x,(y6 r).2⟩,jW s z⟩
def g.az{h:Type}{j}{o:h->Prop}{a:h->bM}{e:h->m ar}{i:h->Nat}{p}{w}(d){Z cT}(b:(i_ J (a d),qB j (a d),vR j k,jw (k.take j) (e d),kr j (k.take j))=(f Z,l,l,f cT,l))(s:U Z)(u:U cT)(t:o d)(r:i d<i p):
    g q F (ml q F be w o a e i j p) [] .normal J k:=by simp[lL]at b;exact g.h8 d b.1 s b.2.1 b.2.2.1 b.2.2.2.1 u b.2.2.2.2 t r
def g.aA{br:Type}{cI:br->Prop}{hM:br->bM}{b_:br->m ar}{i:br->Nat}{E}{id}{s x O}(h:g q F be O .normal J k)(cY:i4 id s=n:=by exact rfl)(dC:i4 id x=f O:=by exact rfl):
    g q F (ml q F be x cI hM b_ i j E) (.code (.exit id)::s) .normal J k:=
  b4.mono (g.bs (Q:=λdG aq=>ml q F be x cI hM b_ i j E .normal dG aq) cY dC h) λak dG aq bk=>by
    have key:∀av ak,g q F (λak dG aq=>match ak with
        |.normal=>ml q F be x cI hM b_ i j E .normal dG aq
        |ak=>g q F be x ak dG aq) av ak dG aq->g q F (ml q F be x cI hM b_ i j E) av ak dG aq:=by
      have ak:(λak dG aq=>match ak with
        |.normal=>ml q F be x cI hM b_ i j E .normal dG aq
        |ak=>g q F be x ak dG aq)=ml q F be x cI hM b_ i j E:=by funext ak dG aq;cases ak<;>rfl
      grind
    exact key _ _ bk
def g.aS{a:Type}{e:a->Prop}{b:a->bM}{d:a->m ar}{o:a->Nat}{r}{h i}(p:be .ret J k):g q F (ml q F be i e b d o j r) (.code .ret::h) .normal J k:=
  g.ret (g.dP (be:=be) p)
theorem b1.freeze(o d){ai}{gU}(aj:look J o=aI d 0)(O:da d k=f (.cells W ai))(aa:ic ai=f gU){x}(B:b1 F k b J x)(g:bc k b):∃i:a6,i.a=b.a/\b1 F (k.set d .N) i ((o,ax (.Q gU))::J) x/\bc (k.set d .N) i/\cO k b (k.set d .N) i:=by
  have aM:=ew O;have af:d<c k:=(cP.1 aM).1;have Y:=B.aK o;rw[aj]at Y;obtain⟨_,L,r,R,T,ah⟩:=Y;obtain⟨w,z,s,K,y,G⟩:=g.box d _ L aM R;subst s;simp at T;subst T;let i:a6:={b with D:=λX t=>if X=w then z[t]? else b.D X t}
  have q:cO k b (k.set d .N) i:=by
    refine⟨bC _,λ_ _ _=>rfl,?_,?_,λL ab r j=>.inr ⟨L,ab,j⟩,?_,a,a,a,a⟩
    · grind
    · intro r j Q t
      have ag:r≠w:=λak=>Q _ (ca R) Ap;grind
    · intro p D m e h
      by_cases ak:d=p
      · subst ak
        rw[aM]at e;cases e;exact⟨.N,m,by grind,h,a⟩
      · exact⟨D,m,by grind,h,.refl _ _⟩
  refine⟨i,a,⟨B.size,B.defers.imp λ_ s=>s.mono q.ext,λZ=>?_⟩,⟨?_,by simp[g.len,i],?_,g.a3,g.lt,g.own⟩,q⟩
  · simp only[look]
    cases j:ad o Z with
    |false=>exact(B.aK Z).mono q.ext g.len
    |true=>
      have ak:=dp j;subst ak;rw[ah];have V:=rI aa y;refine Rd.Q w 0 (λu=>(z[u]?).getD I) ?_ ?_
      · intro u E M
        obtain⟨C,U,_⟩:=V.get (u:=u) (x:=.c E) N;grind
      · intro u E M
        obtain⟨C,U,S⟩:=V.get (u:=u) (x:=.c E) N;simp[U,ia];exact Rd.mono q.mem S
  · intro r t C ae
    by_cases ak:r=w
    · subst ak
      have A:z[t]?=f C:=N;show b.a.cell? _=_;simp[aH,K,A]
    · exact g.mem r t C N
  · intro p D m e h
    by_cases ak:d=p
    · subst ak
      rw[iy af]at e;cases e;trivial
    · rw[kJ ak]at e
      refine(g.box p D m e h).ca q.ext g.len λr j=>⟨a,λt=>?_⟩
      have ag:r≠w:=λan=>ak (g.a3 d p _ m R h r N j);grind
theorem g.freeze(o d){W}{ai}{gU}(h:look J o=aI d 0)(a:da d k=f (.cells W ai))(e:ic ai=f gU)(b:g q F be (.code s::av) .normal ((o,ax (.Q gU))::J) (dd.cu d .N k)):g q F be (.code s::av) .normal J k:=by grind[mU,g.aO,b1.freeze]
def g.R{bq}{E}(b:aT q F all r J k E aq)(a:ft F r.dst=l)(d:g q F be (.aj all bq::av) .normal (gi r.dst E J) aq):g q F be (.aj all (r::bq)::av) .normal J k:=
  fq.dj b (lg a) d
end
structure AB(O:TypeDesc)(V:Array MapEntry)(h:X)(x:Option (Nat×X)):Prop where
 key:MapKept.IsKey O h
 c6:Instr.findNow O h V.toList 0=f x
 c5:x=n->∀ak∈V.toList,ak.key≠h
 gI:∀u aa,x=f (u,aa)->∃ak,V[u]?=f ak/\ak.key=h/\ak.val=aa
def Kc{O}{V}{h}(a:MapKept.IsKey O h)(e:∀b∈V.toList,MapKept.IsKey O b.key):∃d,AB O V h d:=by
 rcases MapKept.findNow_spec a V.toList 0 e with⟨i,C⟩|⟨u,b,i,C,A⟩
 .exact⟨n,a,i,λ_=>C,by simp⟩
 refine⟨_,a,i,by simp,λj k g=>?_⟩;grind
section
variable {s aj:an}{O:TypeDesc}{a7:Nat}{V:Array MapEntry}{clock:Nat}{h:X}{ok:Bool}
def MJ(a:P.underlying s=f O):(underlying s).run P p=.ok O p:=by simp[underlying,a]
def ye(b:P.underlying s=f O)(d:MapKept.IsKey O h)(i)(a):(Instr.checkKey i 10000 s h).events P p a=a:=by show(Instr.checkKey i (9999+1) s h).events P p a=a;unfold Instr.checkKey;simp[aC,MJ b,aE,events_underlying];cases O<;>cases h<;>first|exact d.elim|simp
def yi{d}{e}(b:P.underlying s=f O)(g:Instr.findNow O h d 0=f e)(a):(Instr.findKey s h d).events P p a=a:=by simp[Instr.findKey,MJ b,g]
def yj(b:p.heap[a7]?=f (.map V clock))(a):(getObj a7).events P p a=a.push ⟨.obj a7,v,v⟩:=by simp only[getObj,Sem.events,Sem.runT,b];rfl
def JI(d:p.heap[a7]?=f (.map V clock)){dI}{b}(a):(setObj a7 (.map dI b)).events P p a=a.push ⟨.obj a7,l,v⟩:=by simp[setObj,Sem.events,Sem.runT,d];rfl
def MF(a:P.underlying s=f O)(b:MapKept.IsKey O h)(i):(Instr.checkKey i 10000 s h).run P p=.ok () p:=MapKept.run_checkKey a b i 9999
def K1(t:P.underlying o=f (.map s aj))(b:P.underlying s=f O)(e:p.heap[a7]?=f (.map V clock)){g}(d:AB O V h g){ef}(m:g=n->(zeroValue aj).run P p=.ok ef p):
  (Instr.lookup o (.map (f a7)) h ok).run P p=.ok (match g with
   |some (_,q)=>if ok=l then .tuple #[q,.bool l]else q
   |none=>if ok=l then .tuple #[ef,.bool v]else ef) p/\(Instr.lookup o (.map (f a7)) h ok).events P p #[]=#[⟨.obj a7,v,v⟩]:=by
 have j:(underlying o).run P p=.ok (.map s aj) p:=by simp[underlying,t]
 have k:=MF (p:=p) b d.key V.isEmpty;have i:(Instr.findKey s h V.toList).run P p=.ok g p:=MapKept.run_findKey b d.c6;cases g with
 |some r=>
  constructor
  .simp only[Instr.lookup,cK,j,c_,MapKept.run_getObj_map e,d',k,i]
  simp only[Instr.lookup,aC,j,aE,MapKept.run_getObj_map e,d',Sem.events_pure,k,i,events_underlying,yj e,ye b d.key,yi b d.c6];rfl
 |none=>
  constructor
  .simp only[Instr.lookup,cK,j,c_,MapKept.run_getObj_map e,d',k,i,m a]
  simp only[Instr.lookup,aC,j,aE,MapKept.run_getObj_map e,d',Sem.events_pure,k,i,events_underlying,yj e,ye b d.key,yi b d.c6,m a,events_zeroValue];rfl
def N3(y:P.underlying o=f (.map s aj))(a:P.underlying s=f O)(d:p.heap[a7]?=f (.map V clock)){g}{E}(e:AB O V h g):
  (Instr.mapUpdate o (.map (f a7)) h E).run P p=.ok () {p with heap:=p.heap.setIfInBounds a7 (match g with
   |some (m,_)=>.map (V.modify m λr=>{key:=h,val:=E,born:=r.born}) clock
   |none=>.map (V.push {key:=h,val:=E,born:=clock}) (clock+1))} /\
  (Instr.mapUpdate o (.map (f a7)) h E).events P p #[]=#[⟨.obj a7,v,v⟩,⟨.obj a7,l,v⟩]:=by
 have j:(underlying o).run P p=.ok (.map s aj) p:=by simp[underlying,y]
 have k:=MF (p:=p) a e.key v;have i:(Instr.findKey s h V.toList).run P p=.ok g p:=MapKept.run_findKey a e.c6;cases g with
 |some q=>
  obtain⟨m,z⟩:=q;obtain⟨r,u,w,_⟩:=e.gI m z rfl;have t:(Instr.keyThatStays h h).run P p=.ok h p:=MapKept.run_keyThatStays e.key;have x:∀b,(Instr.keyThatStays h h).events P p b=b:=λb=>by simp[Instr.keyThatStays,MapKept.sameBits_self e.key]
  constructor
  .simp only[Instr.mapUpdate,cK,j,c_,MapKept.run_getObj_map d,k,i,u,lK,ia,w,t,MapKept.run_setObj_map _ d]
  simp only[Instr.mapUpdate,aC,j,aE,MapKept.run_getObj_map d,k,i,u,lK,ia,w,t,x,events_underlying,yj d,JI d,ye a e.key,yi a e.c6];rfl
 |none=>
  constructor
  .simp only[Instr.mapUpdate,cK,j,c_,MapKept.run_getObj_map d,k,i,MapKept.run_setObj_map _ d]
  simp only[Instr.mapUpdate,aC,j,aE,MapKept.run_getObj_map d,k,i,events_underlying,yj d,JI d,ye a e.key,yi a e.c6];rfl
end
def bc.cd(i:bc k b){j_:X->(Nat->Option Obj)->Prop}{L cv}(aM:k[d]?=f (.K H))(A:b.t[d]?=f L)(G:cv.v=L.v)(R:b.a.heap.size<=bi.heap.size)(K:∀e,e<b.a.heap.size->e∉L.al->bi.heap[e]?=b.a.heap[e]?)(D:∀e∈cv.al,e∈L.al∨(b.a.heap.size<=e/\e<bi.heap.size))(x:∃p,j_ cv.v p/\(∀e t,p e=f t->bi.heap[e]?=f t)/\(∀e,e∈cv.al↔(p e).isSome=l))(O:bi.os=b.a.os)(Z:bi.tape=b.a.tape)(M:bi.output=b.a.output):
  bc (k.set d (.K j_)) ⟨b.t.set d cv,b.D,bi,b.own⟩/\cO k b (k.set d (.K j_)) ⟨b.t.set d cv,b.D,bi,b.own⟩:=by
 have bz:d<c k:=(cP.1 aM).1;have ag:d<c b.t:=N;obtain⟨aa,_,_,_,y⟩:=i.box d _ L aM A;have Y:∀e∈cv.al,∀t,b.D e t=n:=by
  intro e E t;rcases D e E with o|⟨o,_⟩
  .grind
  cases r:b.D e t with
  |none=>rfl
  |some U=>have:=i.block r;omega
 have B:cO k b (k.set d (.K j_)) ⟨b.t.set d cv,b.D,bi,b.own⟩:=by
  refine⟨R,N,λ_ _ _ i=>i,λ_ _ _ _=>rfl,N,?_,O,Z,M,a⟩;intro g F j u z;by_cases C:d=g
  .subst C;rw[aM]at u;cases u;rw[A]at z;cases z;exact⟨.K j_,cv,by grind,by grind,G⟩
  exact⟨F,j,by grind,by grind,.refl _ _⟩
 have I:∀g j,(b.t.set d cv)[g]?=f j->(g=d/\j=cv)∨(d≠g/\b.t[g]?=f j):=N;refine⟨⟨?_,by simp[i.len],?_,?_,?_,?_⟩,B⟩
 .intro e t U r;have ah:=i.block r;have ab:e∉L.al:=λs=>by grind
  rw[<-i.mem e t U r];simp only[aH];grind
 .intro g F j u z;rcases I g j z with⟨rfl,rfl⟩|⟨C,m⟩
  .rw[iy bz]at u;cases u;obtain⟨p,k1,V,Q⟩:=x;exact⟨p,k1,V,Q,Y⟩
  rw[kJ C]at u;refine(i.box g F j u m).ca B.ext i.len λe E=>⟨K e (i.lt j (ca m) e E) λs=>C (i.a3 d g L j A m e s E),λ_=>rfl⟩
 .intro W J q j o m e h w;rcases I W q o with⟨rfl,rfl⟩|⟨dL,T⟩<;>rcases I J j m with⟨rfl,rfl⟩|⟨fc,S⟩
  .rfl
  .rcases D e h with s|s
   .exact i.a3 _ _ L j A S e s w
   have:=i.lt j (ca S) e w;omega
  .rcases D e w with s|s
   .exact i.a3 _ _ q L T A e h s
   have:=i.lt q (ca T) e h;omega
  exact i.a3 _ _ q j T S e h w
 .intro j z e w;rcases AV z with o|o
  .exact eK (i.lt j o e w) R
  subst o;rcases D e w with m|m
  .exact eK (i.lt L (ca A) e m) R
  grind
 intro e x;obtain⟨af,ae⟩:=i.own e x;grind
section
variable {j_:X->(Nat->Option Obj)->Prop}
end
def bZ.dm{fn}{d}{res}(aY)(e:pC fn.results.toList aY J res=f Z)(m:U Z)(j:dz aY k=f aq)(i:l8 aq=l)(h:fl aY=l)(g:∀b,b<d->aY[b]?=f b):
  bZ fn d res aq .normal J k:=by refine⟨.inr a,aY,?_⟩;unfold pC at e;grind
def g.ix{b:af P}{h}{aX}{res}(s:Y b h cS di res aX)(aY)(j:r.guard=n)(e:r.op=.call {callee:=.value cQ,args:=ah,argTypes:=dt})(u:g7 (bE J cQ)=f (h,cap))(i:lb (ah.toList.map (bE J)++fj cap)=gu aY cS)(o:hk (c aY) cS=l)(p:dz aY k=f di)(t:eA di=l)(m:eA aX=l)(d:fl aY=l)(q:ay (c aY) (c aX)=l)(x:ft F r.dst=l)(w:g b F be (.aj all bq::av) .normal (gi r.dst (fm (aY++g0 (c k) (c aX-c aY)) res) J) (dd aY aX k)):g b F be (.aj all (r::bq)::av) .normal J k:=
 fq.call (λ_ _ _ _=>jf j) e u aY s i o p t m d (fA q) r.dst a (lg x) w
def g.ec{d:af P}{i}(t:bm d i cS di res aX)(aY)(m:r.guard=n)(h:r.op=.call {callee:=.value cQ,args:=ah,argTypes:=dt})(x:g7 (bE J cQ)=f (i,cap))(j:lb (ah.toList.map (bE J)++fj cap)=gu aY cS)(p:hk (c aY) cS=l)(q:dz aY k=f di)(u:eA di=l)(o:∀b,eA (aX b)=l)(e:fl aY=l)(s:∀b,ay (c aY) (c (aX b))=l)(y:ft F r.dst=l)(w:∀b,g d F be (.aj all bq::av) .normal (gi r.dst (fm (aY++g0 (c k) (c (aX b)-c aY)) (res b)) J) (dd aY (aX b) k)):g d F be (.aj all (r::bq)::av) .normal J k:=
 fq.gR (λ_ _ _ _=>jf m) h x aY t j p q u o e (λb=>fA (s b)) r.dst a (lg y) w
def g.aB{P:aD}{b:af P}{F}{be}{av}{J}{k}{all bq}{r}{cQ}{ah}{dt}{a}{cap}{cS}{di aX}{res}(w:Y b a cS di res aX)(aY)(d:(r.guard,r.op,g7 (bE J cQ),lb (ah.toList.map (bE J)++fj cap),hk (c aY) cS,dz aY k,eA di,eA aX,fl aY,ay (c aY) (c aX),ft F r.dst)=(n,.call {callee:=.value cQ,args:=ah,argTypes:=dt},f (a,cap),gu aY cS,l,f di,l,l,l,l,l))(s:g b F be (.aj all bq::av) .normal (gi r.dst (fm (aY++g0 (c k) (c aX-c aY)) res) J) (dd aY aX k)):g b F be (.aj all (r::bq)::av) .normal J k:=by simp only[lL]at d;obtain⟨e,h,i,j,m,a,o,p,q,t,u⟩:=d;exact g.ix w aY e h i j m a o p q t u s
def g.a2{P:aD}{e:Type}{i:af P}{F}{be}{av}{J}{k}{all bq}{r}{cQ}{ah}{dt}{h}{cap}{cS}{di}{a:e->m ar}{d:e->y}(x:bm i h cS di d a)(aY)(o:(r.guard,r.op,g7 (bE J cQ),lb (ah.toList.map (bE J)++fj cap),hk (c aY) cS,dz aY k,eA di,fl aY,ft F r.dst)=(n,.call {callee:=.value cQ,args:=ah,argTypes:=dt},f (h,cap),gu aY cS,l,f di,l,l,l))(j:∀b,(eA (a b),ay (c aY) (c (a b)))=(l,l))(z:∀b,g i F be (.aj all bq::av) .normal (gi r.dst (fm (aY++g0 (c k) (c (a b)-c aY)) (d b)) J) (dd aY (a b) k)):g i F be (.aj all (r::bq)::av) .normal J k:=by simp only[lL]at o j;obtain⟨p,q,s,t,u,h,w,b,A⟩:=o;exact g.ec x aY p q s t u h w (λb=>(j b).1) b (λb=>(j b).2) A z
def l3:m y->m y->Option (m Prop)
 |[],[]=>f []
 |d::a,e::b=>match kt d e with
  |some g=>match l3 a b with
   |some h=>f (gT g h)
   |none=>n
  |none=>n
 |_,_=>n
def tj{k}{b}:∀{z:m X}{e g:m y}{d:m Prop},l3 e g=f d->U d->b5 k b z e->b5 k b z g
 |[],[],[],_,_,_,_=>trivial
 |_::_,[],_,_,_,_,a=>a.elim
 |[],_::_,_,_,_,_,a=>a.elim
 |[],[],_::_,_,a,_,_=>by simp[l3]at a
 |_::_,_::_,[],_,a,_,_=>by simp[l3]at a
 |w::z,r::h,s::i,d,a,j,q=>by
  simp[l3]at a;cases o:kt r s with
  |none=>grind
  |some t=>
   cases p:l3 h i with
   |none=>grind
   |some u=>
    simp[o,p]at a;subst a;rw[U.Y]at j;exact⟨pr o j.1 q.1,tj p j.2 q.2⟩
def g.bV{d:af P}{i}(x:bm d i cS di res aX)(aY)(o:r.guard=n)(h:r.op=.call {callee:=.value cQ,args:=ah,argTypes:=dt})(y:g7 (bE J cQ)=f (i,cap))(j:l3 (ah.toList.map (bE J)++fj cap) (gu aY cS)=f Z)(m:U Z)(q:hk (c aY) cS=l)(s:dz aY k=f di)(A:eA di=l)(p:∀b,eA (aX b)=l)(e:fl aY=l)(u:∀b,ay (c aY) (c (aX b))=l)(B:ft F r.dst=l)(w:∀b,g d F be (.aj all bq::av) .normal (gi r.dst (fm (aY++g0 (c k) (c (aX b)-c aY)) (res b)) J) (dd aY (aX b) k)):g d F be (.aj all (r::bq)::av) .normal J k:=
 fq.eW (λ_ _ _ _=>jf o) h y aY x (λC z t=>tj j m t) q s A p e (λb=>fA (u b)) r.dst a (lg B) w
def abF{b:Act}{a}(d:a<b.tmps.size):(b.put (f a) aa).tmps.getD a I=aa:=by simp[Act.put,hH,uP d]
def dw.of_eq{V dI}(a:V=dI)(d:dw b dI):dw b V:=N
def yk{A}{a:Sem Next}(e:dw b (A.events P b.a #[]))(d:a=(do pure (.value (<-A)))):dw b (a.events P b.a #[]):=by grind[i2]
def I4{a}{fn}{ak:Array X->Sem X}(b:P.funcs[a]?=f fn)(j:(fn.name== "runtime.NumGoroutine")=v)(t:fn.body.isNone=l)(i:Extern.findNext fn=n)(d:Extern.find fn=f ak)(args)(h:dB P (ak args))(p)(V):
  (callFunc a args).events P p V=V.push ⟨.mark (.extern a),v,l⟩:=by have g:fn.name≠ "runtime.NumGoroutine":=N;have e:fn.body=n:=wR;simp[callFunc,b,g,e,i,d];rw[h p]
section
variable {q:af P}
def ei(P:aD)(p:Nat)(k:ao)(o:bM)(g:m ar)(q:ι->y)(b:ι->m ar):Prop:=
 ∀d h,b1 p g d o h->bc g d->∃e i a j,(ab h.eval k).run P d.a=.ok i a.a/\(i=.value j∨(i=.skip/\j=I))/\bx (b e) a j (q e)/\bc (b e) a/\cO g d (b e) a/\dw d ((ab h.eval k).events P d.a #[])
def g.cD(M:ι->y)(b:ι->m ar)(af:r.guard=n)(ag:ft F r.dst=l)(T:ei P F r J k M b)(U:∀o,g q F be (.aj all bq::av) .normal (gi r.dst (M o) J) (b o)):g q F be (.aj all (r::bq)::av) .normal J k:=by
 intro ai O R j Q C u N idx i a B;cases idx with
 |nil=>exact a.elim
 |cons ah idx=>
 refine rz i a.1 (jf af) λaa w=>?_;have h:=j.rely w;have d:=R.rely w j;obtain⟨o,Y,p,ab,A,e,ae,I,K,W⟩:=T aa O d h;have x:=K.too4 h;refine⟨Y,p,ab,A,e,⟨⟨k,b o,h,I,K⟩,W⟩,?_⟩;refine U o p _ ?_ I Q C u N idx i a.2 λS s D t X z e E=>B S s D t X z e ((w.aT.trans x).trans E);cases V:r.dst with
 |none=>exact d.mono x h.len
 |some Z=>exact(d.mono x h.len).put (lg ag Z V) ae
def g.aL{a}(e:a1 P r (bE J) k a aq)(b:r.guard=n)(d:ft F r.dst=l)(h:g q F be (.aj all bq::av) .normal (gi r.dst a J) aq):g q F be (.aj all (r::bq)::av) .normal J k:=
 g.R (.aZ (λ_ _ _ _=>jf b) e) d h
def oS(a:m ao)(d:bM)(g:ao):Bool:=match g.guard with
 |none=>l
 |some (e,b)=>match yF d a e with
  |some (f l)=>b
  |some (f v)=>!b
  |_=>v
def j5(a:oS all J r=l):∀d h b,b1 F d h J b->aO r (yielded all.toArray b.tmps)=l:=by
 intro d h b g;unfold oS at a;split at a
 .grind [jf]
 rename_i j i e;split at a
 .rename_i s;simp only[aO,e,yG s g,a];rfl
 .rename_i s;simp only[aO,e,yG s g];grind
 grind
def g.iA{e}{aX}{res}(s:Y q e cS di res aX)(aY)(i:oS all J r=l)(d:r.op=.call {callee:=.value cQ,args:=ah,argTypes:=dt})(u:g7 (bE J cQ)=f (e,cap))(h:lb (ah.toList.map (bE J)++fj cap)=gu aY cS)(m:hk (c aY) cS=l)(o:dz aY k=f di)(t:eA di=l)(j:eA aX=l)(b:fl aY=l)(p:ay (c aY) (c aX)=l)(x:ft F r.dst=l)(w:g q F be (.aj all bq::av) .normal (gi r.dst (fm (aY++g0 (c k) (c aX-c aY)) res) J) (dd aY aX k)):g q F be (.aj all (r::bq)::av) .normal J k:=
 fq.call (j5 i) d u aY s h m o t j b (fA p) r.dst a (lg x) w
end
section
variable {q:af P}
def g.fW{dG}(h:g q F be (.code s::av) .normal dG aq){cT}(a:i_ J dG=f Z)(d:U Z)(b:jw k aq=f cT)(e:U cT):g q F be (.code s::av) .normal J k:=
 g.bb aq b e (b4.le h (eO a d))
def Cx:m iv->m iv
 |.blk _::av=>Cx av
 |av=>av
def g.fC:∀{av:m iv},g q F be (Cx av) .normal J k->g q F be av .normal J k
 |[],a=>a
 |.blk _::av,a=>g.fC (av:=av) a
 |.code _::_,a=>a
 |.aj _ _::_,a=>a
def g.ck{r S2:Type}{iU}(id){u e}(o:i4 id av=f u)(I:Go.AM.Cx u=.code iU::e)(z:S2->Prop)(en:S2->bM)(A:S2->m ar)(j)(p:r->Prop)(b:r->bM)(d:r->m ar)(B:r->Nat)(h){a}(D:i_ J (b h)=f Z)(t:U Z)(C:jw k (d h)=f a)(w:U a)(y:c k=j)(E:p h)(round:(∀i {J:bM} {k:m ar} {Z a:m Prop},z i->i_ J (en i)=f Z->U Z->jw k (A i)=f a->U a->g q F be u .normal J k) ->
   ∀h,p h->g q F (ml q F be av p b d B j h) [.code s] .normal (b h) (d h))(after:∀i,z i->g q F be (.code iU::e) .normal (en i) (A i)):g q F be (.code (.loop s)::av) .normal J k:=
 g.aH j p b d B h D t C w y E (round λi _ _ _ _ K x t o w=>g.fC (by rw[I];exact(after i K).fW x t o w))
end
section
variable {q:af P}
def iP(o:af P)(r:Nat)(j:m y)(i:m ar)(h:Bool)(e:ι->m ar):Prop:=
 ∀a (z:m X) (d:Nat),b5 i a z j->bc i a->(∃L,a.t[r]?=f L/\L.v=.func (.yield d) #[] #[]) ->
  ∃fn tmps assign body,(Instr.yield d z.toArray).run P a.a=.ok (.round d fn tmps assign body) a.a/\(Instr.yield d z.toArray).events P a.a #[]=#[⟨.obj d,v,v⟩] /\
  ∀(k:ag->a6->Prop) p g,(∀q b,bc (e q) b->dg i a (e q) b->cg o k (G (p.finish (.bool h)) g) b) ->
   cg o k (G (Frame.round d fn tmps assign body .normal) (p::g)) a
def zs{b}(g:p.heap[d]?=f (.loop b)):(Instr.getLoop d).run P p=.ok b p/\∀a,(Instr.getLoop d).events P p a=a.push ⟨.obj d,v,v⟩:=by
 have e:(getObj d).run P p=.ok (.loop b) p:=by simp[getObj,Sem.run,g]
 have h:∀a,(getObj d).events P p a=a.push ⟨.obj d,v,v⟩:=λa=>by simp only[getObj,Sem.events,Sem.runT,g];rfl
 constructor
 .simp[Instr.getLoop,e]
 intro a;simp[Instr.getLoop,e,h]
def Eu{e gj}(b:p.heap[d]?=f (.loop e)):(setObj d (.loop gj)).run P p=.ok () {p with heap:=p.heap.setIfInBounds d (.loop gj)}/\∀a,(setObj d (.loop gj)).events P p a=a.push ⟨.obj d,l,v⟩:=by
 constructor
 .simp only[setObj,Sem.run,b]
 intro a;simp[setObj,Sem.events,Sem.runT,b];rfl
def ab9{a}{args}(i:p.heap[d]?=f (.loop a))(b:args.size=a.params.size):
  (Instr.yield d args).run P p=.ok (.round d a.fn ((a.params.zip args).foldl (λtmps (j,g)=>tmps.setIfInBounds j g) a.tmps) a.assign a.body) p/\(Instr.yield d args).events P p #[]=#[⟨.obj d,v,v⟩]:=by
 obtain⟨e,h⟩:=zs (P:=P) i;constructor
 .simp[Instr.yield,e,b]
 simp[Instr.yield,e,h,b]
def ab1{a}(h:p.heap[d]?=f (.loop a))(b:a.state=.ready):
  (Instr.beginRound d).run P p=.ok () {p with heap:=p.heap.setIfInBounds d (.loop {a with state:=.busy})}/\(Instr.beginRound d).events P p #[]=#[⟨.obj d,v,v⟩,⟨.obj d,l,v⟩]:=by
 obtain⟨e,i⟩:=zs (P:=P) h;obtain⟨g,j⟩:=Eu (P:=P) (gj:={a with state:=.busy}) h;constructor
 .simp[Instr.beginRound,e,g,b]
 simp[Instr.beginRound,e,i,g,j,b]
def ab4{a}(g:p.heap[d]?=f (.loop a))(u):
  (Instr.endRound d u).run P p=.ok (.bool u.isNone) {p with heap:=p.heap.setIfInBounds d (.loop {a with state:=if u.isNone then .ready else .done,pending:=u})}/\(Instr.endRound d u).events P p #[]=#[⟨.obj d,v,v⟩,⟨.obj d,l,v⟩]:=by
 obtain⟨b,h⟩:=zs (P:=P) g;obtain⟨e,i⟩:=Eu (P:=P) (gj:={a with state:=if u.isNone then .ready else .done,pending:=u}) g;constructor
 .simp only[Instr.endRound,cK,b,e,c_,d']
 simp only[Instr.endRound,aC,b,h,e,i,aE,Sem.events_pure];rfl
def ab3{a}(g:p.heap[d]?=f (.loop a))(b:a.state≠.busy):
  (Instr.endLoop d).run P p=.ok a.pending {p with heap:=p.heap.setIfInBounds d (.loop {a with state:=.exhausted})}/\(Instr.endLoop d).events P p #[]=#[⟨.obj d,v,v⟩,⟨.obj d,l,v⟩]:=by
 obtain⟨e,h⟩:=zs (P:=P) g;obtain⟨j,i⟩:=Eu (P:=P) (gj:={a with state:=.exhausted}) g;have k:(a.state==.busy)=v:=by cases m:a.state<;>simp_all
 constructor
 .simp[Instr.endLoop,e,j,b]
 simp[Instr.endLoop,e,h,i,b]
section steps
variable {i:aG}{x:Act}{h:m Item}{e1:Bool}
def ab_(cx:r.op=.call {callee:=.value cQ,args:=ah,argTypes:=dt})(s:x.eval cQ=.func (.yield d) #[] #[]):
  (ab x.eval r).run P p=(Instr.yield d (ah.toList.map x.eval).toArray).run P p/\(ab x.eval r).events P p #[]=(Instr.yield d (ah.toList.map x.eval).toArray).events P p #[]:=by
 have O:ah.map x.eval=(ah.toList.map x.eval).toArray:=N;constructor
 .exact R3
 exact R3
def acl{bq}{fn}{tmps}{assign body}(a:aV[e]?=f r)(g:aO r (yielded aV x.tmps)=l)(k:i.kind≠.early)(j:(ab x.eval r).run P p=.ok (.round d fn tmps assign body) bi):
  ap P e1 (G (i.ab x (.inRegion aV (e::bq)::h)) ai) p=.go (G (Frame.round d fn tmps assign body .normal) (i.ab x (.inRegion aV (e::bq)::h)::ai)) bi (Go.Conc.listed P i.fn x r p):=by have b:(i.kind==CallKind.early)=v:=N;rw[zy a g (λm o=>by grind[x_])];simp[stepG.apply,j,G,Frame.ab,b,GStep.after,Go.Conc.listed]
def acg{a}(k:i.roundOf=f d)(o:i.kind≠.early)(m:p.heap[d]?=f (.loop a))(g:a.state=.ready):
  ap P e1 (G (i.ab x (.beginRound::h)) ai) p=.go (G (i.ab x h) ai) {p with heap:=p.heap.setIfInBounds d (.loop {a with state:=.busy})} (seen P i.fn #[⟨.obj d,v,v⟩,⟨.obj d,l,v⟩]):=by obtain⟨j,e⟩:=ab1 (P:=P) m g;have b:(i.kind==CallKind.early)=v:=N;simp[G,ap,stepG.exec,stepG.apply,Frame.ab,k,b,j,e,GStep.after,Frame.finish]
def acm{b}{u}{a}{s}(C:i.roundOf=f d)(bY:i.kind=.normal)(e:p.heap[d]?=f (.loop b))(g:(u=n/\a=[])∨(u=f .ret/\∃k1,a=.code .ret::k1)∨(∃id k1,u=f (.exit id)/\a=.code (.exit id)::k1/\exitTo id k1=n)):
  ap P e1 (G (i.ab x a) (s::ai)) p=.go (G (s.finish (.bool u.isNone)) ai) {p with heap:=p.heap.setIfInBounds d (.loop {b with state:=if u.isNone then .ready else .done,pending:=u})} (seen P i.fn #[⟨.obj d,v,v⟩,⟨.obj d,l,v⟩]):=by
 obtain⟨O,aj⟩:=ab4 (P:=P) e u;rcases g with⟨rfl,rfl⟩|⟨rfl,k1,rfl⟩|⟨id,k1,rfl,rfl,A⟩
 .simp only[Option.isNone_none,dx]at O;exact PW
 .simp only[Option.isNone_some,dn,kg]at O;exact PW
 simp[Option.isNone_some,dn,kg]at O;simp[G,ap,stepG.exec,Frame.ab,C,O,aj,GStep.after,doReturn,bY,A]
def ach{a}(j:p.heap[d]?=f (.loop a))(g:a.state≠.busy):
  ap P e1 (G (i.ab x (.endRangeFunc d::h)) ai) p=.go (G (i.ab x ((a.pending.map Item.code).toList++h)) ai) {p with heap:=p.heap.setIfInBounds d (.loop {a with state:=.exhausted})} (seen P i.fn #[⟨.obj d,v,v⟩,⟨.obj d,l,v⟩]):=by obtain⟨b,e⟩:=ab3 (P:=P) j g;simp[G,ap,stepG.exec,Frame.ab,b,e,GStep.after]
def ab5{fn}{tmps}{params}{assign body}:
  (Instr.enterLoop fn tmps params assign body n).run P p=.ok (p.heap.size+1,[{target:=.collected p.heap.size,args:=#[]}]) {p with heap:=(p.heap.push (.deferred (f []))).push (.loop {state:=.ready,pending:=n,fn,tmps,params,assign,body,defers:=p.heap.size})} /\
  (Instr.enterLoop fn tmps params assign body n).events P p #[]=#[]:=by
 have d:∀b p,(newObj b).run P p=.ok p.heap.size {p with heap:=p.heap.push b}:=λb p=>by simp[newObj,Sem.run]
 have e:∀b p a,(newObj b).events P p a=a:=λb p a=>by simp[newObj,Sem.events,Sem.runT]
 constructor
 .simp[Instr.enterLoop,d];rfl
 simp[Instr.enterLoop,d,e]
def ack{b}{Z}{assign body}{a}{fn}{s}(y:i.roundOf=n)(q:i.kind≠.early)(r:P.funcs[a]?=f fn)(A:(fn.name== "runtime.NumGoroutine")=v)(z:fn.body.isNone=v)(t:x.eval b=.func (.func a) #[] s.toArray):
  ap P e1 (G (i.ab x (.code (.rangeFunc b Z assign body)::h)) ai) p =
   .go (G (Frame.enter P a (Value.func (.yield (p.heap.size+1)) #[] #[]::s).toArray .normal) (i.ab {x with defers:={target:=.collected p.heap.size,args:=#[]}::x.defers} (.inRangeFunc (p.heap.size+1)::h)::ai))
    {p with heap:=(p.heap.push (.deferred (f []))).push (.loop {state:=.ready,pending:=n,fn:=i.fn,tmps:=x.tmps,params:=Z,assign,body,defers:=p.heap.size})} #[]:=by
 obtain⟨w,u⟩:=ab5 (P:=P) (p:=p) (fn:=i.fn) (tmps:=x.tmps) (params:=Z) (assign:=assign) (body:=body);have o:(i.kind==CallKind.early)=v:=N;have m:fn.name≠ "runtime.NumGoroutine":=N;have k:fn.body≠n:=N;have e:∀d j g,({fn:=i.fn,tmps:=x.tmps,todo:=j,defers:=d,mode:=g,kind:=i.kind,roundOf:=i.roundOf}:aG).eval b=.func (.func a) #[] s.toArray:=by intro d j g;rw[<-t];cases b<;>rfl
 simp[G,ap,stepG.exec,Frame.ab,y]at e⊢;simp[w,u,GStep.after,stepG.apply,resolve,e,Deferred.ofValue,invoke,callFunc,r,m,k,o,seen];rfl
end steps
end
section
variable {q:af P}
def bc.fK(i:bc k b){g:Nat}{a}{m}(aM:k[g]?=f (.loop F a m))(j:∃L,b.t[g]?=f L/\L.v=.func (.yield d) #[] #[]):
  ∃tmps fn e,b.t[g]?=f ⟨.func (.yield d) #[] #[],[d]⟩/\b.a.heap[d]?=f (.loop {m with tmps:=tmps,fn:=fn,defers:=e})/\tmps.size=F/\(∀o,bx k b (tmps.getD o I) (look a o))/\(∀r,b.D d r=n):=by obtain⟨L,h,p⟩:=j;obtain⟨q,tmps,fn,e,x,t,w,s,u⟩:=i.box g _ L aM h;grind
def bc.gD(i:bc k b){j}{h}{u gj}{eg}(aM:k[j]?=f (.loop F h u)){tmps}{fn e}(x:b.t[j]?=f ⟨.func (.yield d) #[] #[],[d]⟩)(C:b.a.heap[d]?=f (.loop {u with tmps:=tmps,fn:=fn,defers:=e}))(M:tmps.size=F)(B:∀o,bx k b (tmps.getD o I) (look h o))(J:∀t,b.D d t=n)(w:eg=.N∨eg=.loop F h gj):
  bc (k.set j eg) {b with a:={b.a with heap:=b.a.heap.setIfInBounds d (.loop {gj with tmps:=tmps,fn:=fn,defers:=e})}}/\cO k b (k.set j eg) {b with a:={b.a with heap:=b.a.heap.setIfInBounds d (.loop {gj with tmps:=tmps,fn:=fn,defers:=e})}}:=by
 have S:d<b.a.heap.size:=i.lt _ (ca x) d D;have r:∀g,g≠d->(b.a.heap.setIfInBounds d (.loop {gj with tmps:=tmps,fn:=fn,defers:=e}))[g]?=b.a.heap[g]?:=λg m=>by grind
 have R:b.t.set j ⟨.func (.yield d) #[] #[],[d]⟩=b.t:=m6;have Q:j<c k:=(cP.1 aM).1;have z:fV (.loop F h u) ⟨.func (.yield d) #[] #[],[d]⟩ eg ⟨.func (.yield d) #[] #[],[d]⟩:=by rcases w with rfl|rfl<;>rfl
 have p:fz k b (k.set j eg) {b with a:={b.a with heap:=b.a.heap.setIfInBounds d (.loop {gj with tmps:=tmps,fn:=fn,defers:=e})}}:=by
  refine⟨λ_ _ _ q=>q,λE y L U A=>?_⟩;by_cases O:j=E
  .grind
  exact⟨y,L,by grind,A,.refl _ _⟩
 have:=i.b8 (cl:=b.D) (bi:={b.a with heap:=b.a.heap.setIfInBounds d (.loop {gj with tmps:=tmps,fn:=fn,defers:=e})}) (eg:=eg) (cv:=⟨.func (.yield d) #[] #[],[d]⟩) aM x z D (λg _ m=>r g N) (λ_ _ _ _=>rfl) (λ_ _ _ q=>q)
  (λg t K s=>by
   have T:g≠d:=N;rw[<-i.mem g t K s];simp[aH]
   grind) (λg m=>by grind) a a a (by
   rcases w with rfl|rfl
   .trivial
   .refine⟨d,tmps,fn,e,a,N,M,λo=>?_,J⟩
    .have:=(B o).mono p i.len
     grind)
 grind
def g.yield{d:ι->m ar}{e}{bf}{res}(ag:iP q e bf k res d)(G:r.guard=n)(aj:ft F r.dst=l)(S:r.op=.call {callee:=.value cQ,args:=ah,argTypes:=dt}){N0}{iw}{a7}(Q:k[e]?=f (.loop N0 iw a7))(af:bE J cQ=.n (.R (.aP e)))(aJ:ah.toList.map (bE J)=bf)(h:∀T,g q F be (.aj all bq::av) .normal (gi r.dst (ax (.bool res)) J) (d T)):g q F be (.aj all (r::bq)::av) .normal J k:=by
 intro aI x an w i z I Z idx u b R;cases idx with
 |nil=>exact b.elim
 |cons T idx=>
 refine .next a λt aD=>?_;have X:=q.bO aD;have s:=w.rely X;have j:=an.rely X w;have M:=eM j cQ;rw[af]at M;obtain⟨_,L,V,aE,_⟩:=(show cB _ t _ (.aP e)from M)
 obtain⟨U,tmps,fn,aG,aP,aH,ao,aq,au⟩:=s.box e _ L Q V;subst aP;have aw:b5 k t (ah.toList.map x.eval) bf:=by grind[nc,eM]
 obtain⟨aF,aK,assign,body,H,ak,ae⟩:=ag t (ah.toList.map x.eval) U aw s ⟨_,V,rfl⟩;obtain⟨ab,ai⟩:=ab_ (P:=P) (p:=t.a) (x:=x) S aE;refine⟨_,t,_,acl b.1 (jf G) u (ab.trans H),⟨⟨k,k,s,s,.refl _ _⟩,dw.seen ?_⟩,ae Z _ _ λY A y o=>?_⟩
 .rw[ai,ak];exact .R (mB (L:=⟨.func (.yield U) #[] #[],[U]⟩) (ca V) D)
 have N:=qr (i:=i) (x:=x) (h:=z) all.toArray T idx (.bool res);rw[b.1]at N;simp[n7]at N;rw[N];refine h Y A _ ?_ y i z I Z idx u b.2 λaz C W E aB K O B=>R az C W E aB K O ((X.aT.trans o).trans B);cases aa:r.dst with
 |none=>exact j.mono o s.len
 |some aC=>exact(j.mono o s.len).put (lg aj aC aa) (show bx (d Y) A (.bool res) (ax (.bool res))from Rd.bool)
def rA:m Tmp->m y->bM->bM
 |g::d,e::b,a=>rA d b ((g,e)::a)
 |_,_,a=>a
def zi(b:Nat):m Tmp->Bool
 |[]=>l
 |d::a=>match ay (d+1) b with|true=>zi b a|false=>v
def G5{F}{k}{b}:∀{e:m Tmp}{a:m y}{z:m X}{J:bM}{x:Act},b1 F k b J x->b5 k b z a->zi F e=l->b1 F k b (rA e a J) {x with tmps:=(e.zip z).foldl (λtmps (i,j)=>tmps.setIfInBounds i j) x.tmps}
 |[],a,z,J,x,d,_,_=>by simpa[rA]using d
 |_::_,[],[],J,x,d,_,_=>by simpa[rA]using d
 |_::_,[],_::_,J,x,d,g,_=>g.elim
 |_::_,_::_,[],J,x,d,g,_=>g.elim
 |i::p,O::a,j::z,J,x,d,g,h=>by
  simp[zi]at h;split at h
  .rename_i o;have:=G5 (d.put (O:=i) (fA o) g.1) g.2 h;simpa[rA,Act.put]using this
  grind
def Z_:Exit->Option (Option Code)
 |.normal=>f n
 |.ret=>f (f .ret)
 |.exit id=>f (f (.exit id))
 |_=>n
def iP.intro{a4:Type}{h F}{e}{b}{bf}{k}{O:a4->m ar}{u}(aR:k[h]?=f (.loop F e b))(bh:b.state=.ready)(aL:c bf=b.params.size)(bk:zi F b.params.toList=l)(bn:b4 q F b.assign (λA M g=>A=.normal/\g[h]?=f (.loop F e b)/\b4 q F b.body (λA ba w=>Z_ A=f u/\w[h]?=f (.loop F e {b with state:=.busy}) /\
   ∃bp,rf (w.set h (.loop F e {b with state:=if u.isNone then .ready else .done,pending:=u})) (O bp)) M (g.set h (.loop F e {b with state:=.busy}))) (rA b.params.toList bf e) k):iP q h bf k u.isNone O:=by
 intro D z d bl Z aK;obtain⟨tmps,fn,bm,W,aE,aF,aH,bo⟩:=Z.fK aR aK;have a_:c z=b.params.size:=by grind[b5.get]
 obtain⟨a2,a3⟩:=ab9 (P:=P) (args:=z.toArray) aE N;refine⟨_,_,_,_,a2,a3,λaj ak j aI=>?_⟩;let I:aG:={fn:=fn,tmps:=#[],todo:=[],defers:=[],mode:=.run,kind:=.normal,roundOf:=f d}
 have p:I.kind≠.early:=by simp[I]
 have aJ:b1 F k D (rA b.params.toList bf e) {tmps:=(b.params.zip z.toArray).foldl (λtmps (a1,x)=>tmps.setIfInBounds a1 x) tmps,defers:=[]}:=by
  have:=G5 (x:={tmps:=tmps,defers:=[]}) (J:=e) ⟨aF,⟨[],B⟩,aH⟩ bl bk;have A:(b.params.zip z.toArray).foldl (λtmps (ag:Tmp×X)=>tmps.setIfInBounds ag.1 ag.2) tmps=(b.params.toList.zip z).foldl (λtmps (ag:Tmp×X)=>tmps.setIfInBounds ag.1 ag.2) tmps:=by rw[<-Array.foldl_toList];simp
  grind
 show cg q aj (G (I.ab {tmps:=(b.params.zip z.toArray).foldl (λtmps (a1,x)=>tmps.setIfInBounds a1 x) tmps,defers:=[]} [.code b.assign,.beginRound,.code b.body]) (ak::j)) D;refine bn D _ aJ Z I [.beginRound,.code b.body] (ak::j) aj p ?_;rintro A M g br av ⟨rfl,aQ,bq⟩ ax s t;refine .next a λaZ aa=>?_;have H:=q.bO aa;have S:=s.rely H;have az:=ax.rely H s;have bj:∃L,aZ.t[h]?=f L/\L.v=.func (.yield d) #[] #[]:=by obtain⟨ao,y,k1,au,aq⟩:=(t.trans H.aT).box h _ _ aR W;rw[aQ]at k1;cases k1;exact⟨y,au,aq⟩
 obtain⟨bu,a8,a5,U,V,aB,aC,aD⟩:=S.fK aQ bj;have ai:=S.gD (gj:={b with state:=.busy}) aQ U V aB aC aD (.inr rfl);have Q:∀{D:a6} {k:m ar} {L:Loc},D.t[h]?=f L->L.al=[d]->dw D #[⟨.obj d,v,v⟩,⟨.obj d,l,v⟩]:=λ{D k L} Y p=>
  .fj (mB (ca Y) N) (mB (ca Y) N)
 refine⟨_,_,_,acg (d:=d) a p V bh,⟨⟨_,_,S,ai.1,ai.2⟩,dw.seen (Q (k:=g) U a)⟩,?_⟩;have a':=ai.2.too4 S;have bg:=ai.1;refine bq _ av (az.mono a' S.len) bg I [] (ak::j) aj p ?_;rintro A bb bd a0 aw ⟨r,aO,aN,bs⟩ f3 C af;have stA:=((t.trans H.aT).trans a').trans af;have fin:∀K i,c0 a0 i->((u=n/\K=[])∨(u=f .ret/\∃k1,K=.code .ret::k1)∨(∃id k1,u=f (.exit id)/\K=.code (.exit id)::k1/\exitTo id k1=n)) ->
   ∃T E R,ap P q.b5 (G (I.ab aw K) (ak::j)) i.a=.go T E.a R/\kG i E R/\cg q aj T E:=by
  intro K i o aP;have an:=C.rely o;have bc:∃L,i.t[h]?=f L/\L.v=.func (.yield d) #[] #[]:=by obtain⟨ao,y,k1,au,aq⟩:=(stA.trans o.aT).box h _ _ aR W;rw[aO]at k1;cases k1;exact⟨y,au,aq⟩
  obtain⟨bt,a9,a7,ab,ae,aS,aT,aV⟩:=an.fK aO bc;have ah:=an.gD (gj:={b with state:=if u.isNone then .ready else .done,pending:=u}) aO ab ae aS aT aV (.inr rfl);obtain⟨aX,aY,_⟩:=bs _ ah.1;exact⟨_,_,_,acm (d:=d) a a ae aP,⟨⟨_,_,an,ah.1,ah.2⟩,dw.seen (Q (k:=bd) ab a)⟩,aI aN _ aX (((stA.trans o.aT).trans (ah.2.too4 an)).trans (aY.too4 ah.1))⟩
 cases A with
 |normal=>
  cases r;exact .next a λi o=>fin [] i (q.bO o) (.inl ⟨a,a⟩)
 |ret=>
  cases r;intro pre;exact .next a λi o=>fin _ i (q.bO o) (.inr (.inl ⟨a,pre,a⟩))
 |exit id=>
  cases r;intro pre aM;refine .next a λi o=>fin _ i (q.bO o) (.inr (.inr ⟨id,_,a,a,?_⟩));have:=aM [];simpa[exitTo]using this
 |_=>cases r
end
def df(p:af P)(k:Nat)(u:Code)(aP:fF)(t:bM)(j:m ar):Prop:=
 ∀i q,b1 k j i t q->bc j i->∀h s g (o:ag->a6->Prop),h.kind≠.early->h.roundOf=n ->
  (∀r d a b e,aP r d a->b1 k a b d e->bc a b->dg j i a b->kP p o h s g r e b)->cg p o (G (h.ab q (.code u::s)) g) i
section
variable {q:af P}{aP:fF}
def b4.bw(m:b4 q F s aP J k):df q F s aP J k:=λp g j d h o a e b _ i=>m p g j d h o a e b i
theorem df.seq{N z}(T:df q F N (wo (df q F z aP) aP) J k):df q F (.seq N z) aP J k:=by
 intro W R U e B K g A i b h;refine .ctl e a (λ_=>pE) λV d=>?_;refine T V R (U.rely d e) (e.rely d) B (.code z::K) g A i b ?_;intro r O Q w o M I E y;have C:=d.aT.trans y;cases r with
 |normal=>exact M w o I E B K g A i b λr S m x p u s t j=>h r S m x p u s t (C.trans j)
 |_=>exact kP.cons (λ_ _=>rfl) D (h _ _ _ _ _ M I E C)
theorem df.block{id}(x:df q F s (uZ id aP) J k):df q F (.block id s) aP J k:=by
 intro B r y e t h i p j g lX;refine .ctl e a (λ_=>zw) λz d=>?_;refine x z r (y.rely d e) (e.rely d) t (.inBlock id::h) i p j g ?_;intro ak dG aq m fW bk C aj o;have O:=d.aT.trans o;cases ak with
 |normal=>
  exact PY
 |exit b=>
  simp[uZ]at bk;split at bk
  .exact RF
  .rename_i u
   intro pre vw;have:=lX (.exit b) dG aq m fW bk C aj O (pre++[.inBlock id]) (λgp=>by
    rw[mq,vw];have:(id==b)=v:=N
    simp[exitTo,this])
   grind
 |ret=>exact lX _ _ _ _ _ bk C aj O
 |panic w=>exact lX _ _ _ _ _ bk C aj O
 |goto A=>exact lX _ _ _ _ _ bk C aj O
 |outgrown=>exact lX _ _ _ _ _ bk C aj O
def bc.jO(a:bc k b){r:Nat->Prop}(h:∀e,r e->e<b.a.heap.size/\∀L∈b.t,e∉L.al):bc k {b with own:=r}:=
 ⟨a.mem,a.len,λj d L aM g=>eB.ca (k:=k) (b:=b) (aq:=k) (aF:={b with own:=r}) ⟨λ_ _ _ a=>a,λ_ d L a i=>⟨d,L,a,i,.refl _ _⟩⟩ a.len (λ_ _=>⟨rfl,λ_=>rfl⟩) (a.box j d L aM g),a.a3,a.lt,h⟩
def bc.bG(e:bc k b){a7}{r:Nat->Prop}(y:b.own a7)(s:∀i,r i->b.own i)(E:¬r a7)(B:∀C,b.D a7 C=n)(w:b.a.heap[a7]?=f (.deferred (f []))):
  bc (k++[.bk]) {b with t:=b.t++[⟨.int .i64 a7,[a7]⟩],own:=r}/\e_ b {b with t:=b.t++[⟨.int .i64 a7,[a7]⟩],own:=r}:=by
 obtain⟨J,I⟩:=e.own a7 y;have q:fz k b (k++[.bk]) {b with t:=b.t++[⟨.int .i64 a7,[a7]⟩],own:=r}:=by refine⟨λ_ _ _ e=>e,λm o L aM d=>⟨o,L,N,?_,.refl _ _⟩⟩;grind
 refine⟨⟨e.mem,by simp[e.len],?_,?_,?_,?_⟩,⟨a,λ_ _ _ e=>e,λ_ _ _=>rfl,e.mem,?_⟩⟩
 .intro m o L aM d;rcases rO d with u|⟨g,rfl⟩
  .have g:m<c k:=by rw[<-e.len];grind
   rw[kb g]at aM;exact(e.box m o L aM u).ca q e.len λ_ _=>⟨a,λ_=>rfl⟩
  rw[g,e.len,ht (bC _)]at aM;simp at aM;subst aM;exact⟨a7,a,w,B⟩
 .intro m t L p d h i cZ j;rcases rO d with k1|⟨z,rfl⟩<;>rcases rO h with x|⟨A,rfl⟩
  .exact e.a3 m t L p k1 x i cZ j
  .grind
  .grind
  grind
 .intro L d i cZ;simp[fG,gO]at d;rcases d with d|rfl
  .exact e.lt L d i cZ
  grind
 .intro i cZ;obtain⟨F,D⟩:=e.own i (s i cZ);grind
 grind
def zf:Option Code->Option Exit
 |none=>f .normal
 |some .ret=>f .ret
 |some (.exit id)=>f (.exit id)
 |_=>n
def df.rangeFunc{bM}{Z}{assign body}{bG}{o'}{aq:ι->m ar}{gj:ι->Loop}(aE:∀b x,b1 F k b J x->bc k b->∃aY:m X,x.eval bM=.func (.func bG) #[] aY.toArray/\b5 k b aY o')(aG:bm q bG (.n (.R (.aP (c k)))::o') (k++[.loop F J {state:=.ready,pending:=n,fn:=0,tmps:=#[],params:=Z,assign:=assign,body:=body,defers:=0}]) res aq)(bj:∀u,(aq u)[c k]?=f (.loop F J (gj u))/\(gj u).state≠.busy)(h:∀u,∃ak,zf (gj u).pending=f ak/\aP ak J ((aq u).set (c k) .N++[.bk])):df q F (.rangeFunc bM Z assign body) aP J k:=by
 intro b x bb aI i A ai bK d aQ bh;obtain⟨⟨fn,aH,Y,H⟩,bU⟩:=aG;refine .next a λe aN=>?_;have aa:=q.bO aN;have y:=aI.rely aa;have E:=bb.rely aa aI;obtain⟨aY,br,Q⟩:=aE e x E y;generalize aO:e.a.heap.size=a7;have bR:=λe1=>ack (P:=P) (e1:=e1) (h:=A) (ai:=ai) (Z:=Z) (assign:=assign) (body:=body) (i:=i) (p:=e.a) aQ d aH Y H br;rw[aO]at bR;let w1:au:={e.a with heap:=e.a.heap.push (.deferred (f []))}
 let aT:Loop:={state:=.ready,pending:=n,fn:=i.fn,tmps:=x.tmps,params:=Z,assign:=assign,body:=body,defers:=a7}
 let w2:au:={e.a with heap:=(e.a.heap.push (.deferred (f []))).push (.loop aT)}
 have bP:w2.heap.size=a7+2:=N;have bq:w1.heap.size=a7+1:=N;have aJ:∀i,i<e.a.heap.size->w1.heap[i]?=e.a.heap[i]?:=λi d=>by grind
 have bY:∀i,i<w1.heap.size->w2.heap[i]?=w1.heap[i]?:=λi d=>by grind
 have bH:∀i,i<e.a.heap.size->w2.heap[i]?=e.a.heap[i]?:=λi d=>by grind
 have bs:w2.heap[a7]?=f (.deferred (f [])):=N;have bW:w2.heap[a7+1]?=f (.loop aT):=N;have bu:∀i,e.a.heap.size<=i->∀r,e.D i r=n:=λi d r=>by
  cases t:e.D i r with
  |none=>rfl
  |some af=>have:=y.block t;omega
 let j:Loc:=⟨.func (.yield (a7+1)) #[] #[],[a7+1]⟩
 let K:Loc:=⟨.int .i64 a7,[a7]⟩
 let ah:Loop:={state:=.ready,pending:=n,fn:=0,tmps:=#[],params:=Z,assign:=assign,body:=body,defers:=0}
 obtain⟨bd,bf⟩:=y.cX (cl:=e.D) (bi:=w2) w bH (λ_ _ _=>rfl) (λi d r af t=>by grind) rfl rfl rfl;have bF:fz k e (k++[.loop F J ah]) ⟨e.t++[j],e.D,w2,e.own⟩:=by refine⟨λ_ _ _ bg=>bg,λbQ bT L aM g=>⟨bT,L,N,?_,.refl _ _⟩⟩;grind
 obtain⟨V,bZ⟩:=bd.b0 (bT:=.loop F J ah) (L:=j) bf rfl y ⟨a7+1,x.tmps,i.fn,a7,rfl,bW,E.size,λb4=>(E.aK b4).mono bF y.len,λr=>bu _ w r⟩ (λi d=>by grind)
 have aB:=V.jO (r:=λi=>e.own i∨i=a7) (by
  rintro i (d|rfl)
  .exact V.own i d
  .refine⟨by grind,λL g=>?_⟩;simp[fG,gO]at g;rcases g with g|rfl
   .intro I;have:=y.lt L g i I;omega
   grind)
 have d1:=y.d_;obtain⟨a0,a1⟩:=d1.cX (cl:=e.D) (bi:=w1) w aJ (λ_ _ _=>rfl) (λi d r af t=>by grind) rfl rfl rfl;obtain⟨an,a2⟩:=a0.b0 (bT:=.N) (L:=K) a1 rfl d1 B (λi d=>by grind);obtain⟨a3,a4⟩:=an.cX (cl:=e.D) (bi:=w2) N bY (λ_ _ _=>rfl) (λi d r af t=>by grind) rfl rfl rfl;obtain⟨a5,a_⟩:=a3.b0 (bT:=.N) (L:=j) a4 rfl an B (λi d=>by grind);have aC:e_ ⟨e.t++[K]++[j],e.D,w2,e.own⟩ ⟨e.t++[j],e.D,w2,λi=>e.own i∨i=a7⟩:=by
  refine⟨a,λ_ _ _ bg=>bg,λ_ _ _=>rfl,V.mem,?_⟩;rintro i ((d|rfl)|⟨L,g,d⟩)
  .grind
  .exact .inr ⟨K,by simp,by grind⟩
  grind
 refine⟨_,⟨e.t++[K]++[j],e.D,w2,e.own⟩,_,bR q.b5,⟨⟨_,_,d1,a5,a2.trans a_⟩,.nil⟩,.aO aC (bU _ (Value.func (.yield (a7+1)) #[] #[]::aY) ?_ aB bK _ λu bN af b2 b6 bp S aX=>?_)⟩
 .refine⟨⟨λbT C=>?_,j,?_,a,a⟩,?_⟩
  .rw[ht (bC _)]at C;simp at C;subst C;rfl
  .show (e.t++[j])[c k]?=_;rw[<-y.len,ht (bC _)];simp
  exact Q.mono (k:=k) (b:=e) (aq:=k++[.loop F J ah]) (aF:=⟨e.t++[j],e.D,w2,λi=>e.own i∨i=a7⟩) ⟨bF.mem,bF.box⟩ y.len
 have W:(i.ab {x with defers:={target:=.collected a7,args:=#[]}::x.defers} (.inRangeFunc (a7+1)::A)).finish af=i.ab {x with defers:={target:=.collected a7,args:=#[]}::x.defers} (.endRangeFunc (a7+1)::A):=cX;refine uU (ai:=ai) (s:=i.ab {x with defers:={target:=.collected a7,args:=#[]}::x.defers} (.inRangeFunc (a7+1)::A)) S b6 λb3 bI=>?_;rw[W];refine .next a λR bX=>?_;have bL:=q.bO bX;have aZ:=(S.rely bI).rely bL;have bJ:=(aX.trans bI.aT).trans bL.aT;obtain⟨M,aK⟩:=bj u;have aD:∃L,R.t[c k]?=f L/\L.v=.func (.yield (a7+1)) #[] #[]:=by obtain⟨eg,ag,k1,aR,aS⟩:=bJ.box (c k) (.loop F J ah) j (show(k++[ar.loop F J ah])[c k]?=_ from AU) (by show(e.t++[j])[c k]?=_;rw[<-y.len,ht (bC _)];simp);rw[M]at k1;cases k1;exact⟨ag,aR,aS⟩
 obtain⟨bS,ao,aj,ab,aV,bz,bA,bB⟩:=aZ.fK M aD;obtain⟨O,ae⟩:=aZ.gD (gj:={gj u with state:=.exhausted}) (eg:=.N) M ab aV bz bA bB (.inl rfl);refine⟨_,_,_,ach aV aK,⟨⟨_,_,aZ,O,ae⟩,dw.seen (.fj (mB (ca ab) D) (mB (ca ab) D))⟩,?_⟩;have z:=bJ.trans (ae.too4 aZ);generalize bO:({R with a:={R.a with heap:=R.a.heap.setIfInBounds (a7+1) (.loop {{gj u with state:=.exhausted}with tmps:=bS,fn:=ao,defers:=aj})}}:a6)=o at O ae z;have az:o.own a7:=by rw[z.own];grind
 have ax:o.a.heap[a7]?=f (.deferred (f [])):=by rw[z.a4 a7 (.inr a)];omega
 have aw:∀r,o.D a7 r=n:=λr=>by rw[z.bz a7 N (λL g=>(aB.own a7 (.inr a)).2 L g)];grind
 obtain⟨bD,t2⟩:=O.bG (a7:=a7) (r:=e.own) az (λi d=>by rw[z.own];grind) (λI=>by have:=(y.own a7 I).1;omega) aw ax;refine .aO t2 ?_;have bE:dg k e ((aq u).set (c k) .N++[.bk]) {o with t:=o.t++[⟨.int .i64 a7,[a7]⟩],own:=e.own}:=by
  refine⟨N,λi d=>?_,λi r af t=>z.mem i r af t,λi d b0 r=>?_,λL g i d=>?_,λbQ bT L aM g=>?_,z.os,z.tape,z.output,a⟩
  .show o.a.heap[i]?=_;rw[z.a4 i (.inl d)];exact bH i (y.own i d).1
  .show o.D i r=_;rw[z.bz i N (λL g=>?_)];grind
  .simp only[fG,gO]at g;rcases g with g|rfl
   .rcases z.bR L g i d with av|⟨bV,av,dC⟩
    .grind
    grind
   grind
  have bl:=(cP.1 aM).1;have bk:=(cP.1 g).1;obtain⟨eg,ag,k1,aR,aS⟩:=z.box bQ bT L N N;grind
 have a':b1 F ((aq u).set (c k) .N++[.bk]) {o with t:=o.t++[⟨.int .i64 a7,[a7]⟩],own:=e.own} J {x with defers:={target:=.collected a7,args:=#[]}::x.defers}:=by
  have t:=E.mono bE y.len;obtain⟨bt,T⟩:=E.defers;refine⟨t.size,⟨c ((aq u).set (c k) .N)::bt,⟨⟨N,⟨.int .i64 a7,[a7]⟩,a7,?_,a,a⟩,λI=>?_,T.mono bE.ext⟩⟩,t.aK⟩
  .show (o.t++_)[_]?=_;rw[<-O.len,ht (bC _)];simp
  have av:=T.e7 _ I;grind
 obtain⟨ak,C,bo⟩:=h u;have bx:=bh ak J _ _ _ bo a' bD (aa.aT.trans bE);revert C;show zf (gj u).pending=f ak->cg q bK (G (i.ab _ (((gj u).pending.map Item.code).toList++A)) ai) _;intro C;cases aL:(gj u).pending with
 |none=>rw[aL]at C;cases C;exact bx
 |some s=>
  rw[aL]at C;cases s<;>simp[zf,reduceCtorEq,e']at C
  .subst C;exact bx [] bn
  subst C;exact bx A
def b1.callee{o}{h}(d:look J o=ax (.fn (.func h) [] cap)):∀g a,b1 F k g J a->bc k g->∃e:m X,a.eval (.tmp o)=.func (.func h) #[] e.toArray/\b5 k g e (fj cap):=by
 intro g a p _;have b:=p.aK o;rw[d]at b;have b:=b8 b;show ∃e:m X,a.tmps.getD o I=.func (.func h) #[] e.toArray/\_;generalize a.tmps.getD o I=y at b;cases b with
 |fn s j d i q r t u w x=>
  grind[qj]
def bm.e6{h}{fn}{args}{aq:ι->m ar}(u:P.funcs[h]?=f fn)(r:(fn.name== "runtime.NumGoroutine")=v)(o:fn.body=f s)(C:ay args.length fn.ntmps=l)(D:kF args k->df q fn.ntmps s (λB w g=>∃t,bZ fn k.length (res t) (aq t) B w g) (ib 0 args) k):bm q h args k res aq:=by refine⟨⟨fn,u,r,by grind⟩,λe z b a=>?_⟩;exact(bm.hA u r o (fA C) λI y h E A F i x p d j=>D ⟨e,z,b,a⟩ I y h E A F i x p d j).2 e z b a
def SG(fn:Func)(e:y)(a:m ar):fF:=λi j g=>
 (i=.ret∨i=.normal)/\g=a/\jX a=l/\∃b h d,oK j fn.results.toList=f b/\pq b=f h/\kt h e=f d/\U d
def bm.bN{i}{fn}{args}{aq:ι->m ar}(Y:P.funcs[i]?=f fn)(au:(fn.name== "runtime.NumGoroutine")=v)(K:fn.body=f s)(W:ay args.length fn.ntmps=l)(an:b4 q fn.ntmps s (λak af g=>∃X,SG fn (res X) (aq X) ak af g) (ib 0 args) k):bm q i args k res aq:=by
 refine⟨⟨fn,Y,au,by grind⟩,λaB z O N V h J=>?_⟩;obtain⟨ao,aF⟩:=b5.get O;let t:aG:={fn:=i,tmps:=#[],todo:=[],defers:=[],mode:=.run,kind:=.normal,roundOf:=n}
 have ah:Frame.enter P i z.toArray .normal=t.ab {tmps:=z.toArray++Array.replicate (fn.ntmps-z.toArray.size) I,defers:=[]} [.code s]:=by simp[Frame.enter,Frame.ab,Y,K,t]
 rw[ah];have W:=fA W;refine an aB {tmps:=z.toArray++Array.replicate (fn.ntmps-z.toArray.size) I,defers:=[]} ⟨by grind,⟨[],B⟩,λo=>?_⟩ N t [] h V D ?_
 .rw[yR];simp[g5,dx,sD];have:=aF o;rcases dY o (c z) with aI|aH
  .exact Pc
  rw[xa w];trivial
 rintro ak ag g T e ⟨aa,S,rfl,aw,u,ai,ax,E,F,ab,Q⟩ M r U;have fin:∀b d,c0 T d->b.fn=i->b.tmps=e.tmps->b.defers=e.defers->b.mode=.returning->b.kind=.normal->cg q V (G b h) d:=by
  intro b d a x y aj A C;have j:=M.rely a r;obtain⟨aC,aE,ae,aD⟩:=MI (P:=P) j E F;obtain⟨p,R⟩:=j.defers;have H:e.defers=[]:=by
   cases p with
   |nil=>cases az:e.defers with
    |nil=>rfl
    |cons ai u=>rw[az]at R;exact R.elim
   |cons av p=>exact absurd rfl (vO aw _ (ca (R.e7 av D)))
  refine J aa b aC _ ⟨x,A,by grind,C,fn,by grind,λZ _=>?_⟩ (pr ab Q ae) (r.rely a) (U.trans a.aT);rw[y];exact⟨aE Z,λak S=>by rw[aD Z #[]]at S;grind⟩
 rcases S with rfl|rfl
 .intro pre;exact .ctl r rfl (λ_=>EB rfl) λd a=>fin _ d a rfl rfl (hU _) rfl rfl
 exact .ctl r rfl (λ_=>Ez rfl) λd a=>fin _ d a rfl rfl (hU _) rfl rfl
end
structure uC{P:aD}(q:af P)(F:Nat)(aV:Array ao)(J:bM)(k:m ar)(E:Nat->y)(s:Nat->bM)(idx:Nat->Option Nat)(last:Nat):Prop where
 cT:∀e r,aV[e]?=f r->∀ak∈r.after,eY ak=l->ak.on<e
 e1:∀e r O,aV[e]?=f r->r.dst=f O->idx O=f e/\O<F
 dU:∀O e,idx O=f e->∃r,aV[e]?=f r/\r.dst=f O
 R:∀e r,aV[e]?=f r->e≠last->aT q F aV.toList r (s e) k (E e) k
 e0:∀e r,aV[e]?=f r->e≠last->∀o k b aa,bx k b aa (match idx o with|some u=>(if ∃ak∈r.after,eY ak=l/\ak.on=u then E u else .any)|none=>look J o)->bx k b aa (look (s e) o)
 hk:∀r,aV[last]?=f r->∀u,u<aV.size->u≠last->∃ak∈r.after,eY ak=l/\ak.on=u
 ei:last<aV.size
section
variable {q:af P}{E:Nat->y}{s:Nat->bM}{idx:Nat->Option Nat}{last:Nat}
theorem KW{a o}(i:∀b,b<aV.size->L.getD b l=l):Region.linearise.go .any aV a o L []=[]:=by
 cases a with
 |zero=>exact DF o L
 |succ j=>
  have d:aL .any aV L=[]:=by
   cases d:aL .any aV L with
   |nil=>rfl
   |cons e g=>
    have h:e∈aL .any aV L:=N;grind[pt]
  grind[vI]
def uC.eR(t:uC q F aV J k E s idx last){W:ag->a6->Prop}{y:aG}{D}(A:y.kind≠.early){cH}(aa:∀d i,i.tmps.size=F->(∀b,bx k d (i.tmps.getD b I) (match idx b with|some m=>if m=last then .any else E m|none=>look J b))->i.defers=[]->bc k d->dg k cH k d->cg q W (G (y.ab i (.inRegion aV [last]::D)) ai) d):
  ∀C L,L.size=aV.size->c (L.toList.filter (λy=>!y))<=C->¬L.getD last v=l ->
   (∀e x,aV[e]?=f x->L.getD e v=l->∀g∈x.after,eY g=l->L.getD g.on v=l) ->
   ∀d i,mf F k d (gL J E idx L) i->i.defers=[]->bc k d->dg k cH k d ->
   ∀b,cg q W (G (y.ab i (.inRegion aV (Region.linearise.go .any aV C b L [])::D)) ai) d:=by
 intro C;induction C with
 |zero=>
  intro L aj ab an aE d i r S u O b;exfalso;have T:L[last]'(by have:=t.ei;omega)∈L.toList:=by simp
  have az:=t.ei;cases A:L[last]'w with
  |true=>exact an (by simp[hH,iQ (by omega:last<L.size),A])
  |false=>
   have:L[last]'w∈L.toList.filter (λy=>!y):=jm.2 ⟨T,by grind⟩;grind
 |succ C ak=>
  intro L aj ab an aE d i r S u O b;rw[vI];cases aw:(aL .any aV L)[b % c (aL .any aV L)]? with
  |none=>
   exfalso;have ah:aL .any aV L=[]:=by
    cases ah:aL .any aV L with
    |nil=>rfl
    |cons aN aM=>
     grind[Nat.mod_lt]
   have ax:∀e,e<aV.size->L.getD e v=l:=by
    intro e;induction e using Nat.strongRecOn with
    |_ e au=>
     intro B;cases A:L.getD e v with
     |true=>rfl
     |false=>
      have T:e∈aL .any aV L:=pt.2 ⟨aV[e],iQ B,by
       grind,λg X V=>by
       have:=t.cT e _ (iQ B) g X V
       grind⟩
      grind
   exact an (ax last t.ei)
  |some e=>
   have B:=ca aw;obtain⟨x,o,ar,af⟩:=pt.1 B;have az:e<aV.size:=(jk.1 o).1;have H:¬L.getD e v=l:=N;by_cases ao:e=last
   .subst ao;have Q:Region.linearise.go .any aV C (b / c (aL .any aV L)) (L.setIfInBounds e l) []=[]:=by
     refine KW λm ae=>?_;have aq:(L.setIfInBounds e l).getD m v=l:=by
      rw[mF w];by_cases g:m=e
      .grind
      obtain⟨Z,X,V,rfl⟩:=t.hk x o m ae g;grind
     grind
    simp[Q];refine aa d i r.size (λb=>?_) S u O;have:=r.aK b;unfold gL at this;cases h:idx b with
    |none=>grind
    |some m=>
     simp only[h]at this⊢;obtain⟨vQ,bz,_⟩:=t.dU _ _ h;by_cases g:m=e
     .rw[bl g];trivial
     rw[bj g];obtain⟨Z,X,V,rfl⟩:=t.hk x o m (jk.1 bz).1 g;grind
   have aI:(L.setIfInBounds e l).size=aV.size:=N;have aH:c ((L.setIfInBounds e l).toList.filter (λy=>!y))<=C:=by have z:L.toList[e]?=f v:=RU;grind[xY]
   have av:∀m U,aV[m]?=f U->(L.setIfInBounds e l).getD m v=l->∀g∈U.after,eY g=l->(L.setIfInBounds e l).getD g.on v=l:=wQ;have aJ:¬(L.setIfInBounds e l).getD last v=l:=wQ
   have aC:b1 F k d (s e) i:=r.fh λb k d R M=>t.e0 e x o ao b k d R (by
    unfold gL at M;cases h:idx b with
    |none=>grind
    |some m=>
     simp only[h]at M⊢;split
     .grind
     .trivial)
   have aK:∀p R,dg k d k p->bx k p R (E e)->mf F k p (gL J E idx (L.setIfInBounds e l)) (i.put x.dst R):=by
    intro p R K M;cases S:x.dst with
    |none=>
     refine⟨r.size,r.defers.imp λ_ z=>z.mono K.ext,λb=>?_⟩;have j:=(r.aK b).mono K.ext u.len;simp only[Act.put];unfold gL at j⊢;cases h:idx b with
     |none=>grind
     |some m=>
      exact PV
    |some Y=>
     obtain⟨aF,aB⟩:=t.e1 e x Y o S;refine⟨by simp[Act.put,r.size],r.defers.imp λ_ z=>z.mono K.ext,λb=>?_⟩;simp only[Act.put];by_cases g:Y=b
     .subst g;have aP:Y<i.tmps.size:=by rw[r.size];exact aB
      simp only[hH,uP aP,ia];unfold gL;simp only[aF];rw[bl ((mF w).2 (.inl a))];exact M
     have j:=(r.aK b).mono K.ext u.len;simp only[hH]at j⊢;rw[sL g];unfold gL at j⊢;cases h:idx b with
     |none=>grind
     |some m=>
      exact PV
   have:=t.R e x o ao d i aC u y D ai W e (Region.linearise.go .any aV C (b / c (aL .any aV L)) (L.setIfInBounds e l) []) A N;simp only[w8]at this;exact this λR p M aD K=>ak _ aI aH aJ av p _ (aK _ _ K M) (by cases x.dst<;>exact S) aD (O.trans K) _
theorem uC.region(B:uC q F aV J k E s idx last)(N:P.follows Departure.mixedOrders=l){A:ag->a6->Prop}{p:aG}{i}(u:p.kind≠.early){cH}{w7}{id}(t:b1 F k cH J w7)(M:w7.defers=[])(y:bc k cH)(O:∀o j,j.tmps.size=F->(∀d,bx k o (j.tmps.getD d I) (match idx d with|some w=>if w=last then .any else E w|none=>look J d))->j.defers=[]->bc k o->dg k cH k o->cg q A (G (p.ab j (.inRegion aV [last]::i)) ai) o):
  cg q A (G (p.ab w7 (.code (.region id aV l)::i)) ai) cH:=by
 refine .next a λb h=>?_;have h:=q.bO h;have g:=y.rely h;have C:=t.rely h y;have x:cO k b k {b with a:={b.a with drawn:=b.a.drawn+1}}:=cO.same rfl rfl rfl rfl;have z:bc k {b with a:={b.a with drawn:=b.a.drawn+1}}:=g.same rfl;have K:=h.aT.trans (x.too4 g);refine⟨_,{b with a:={b.a with drawn:=b.a.drawn+1}},#[],EA,⟨⟨k,k,g,z,x⟩,.nil⟩,?_⟩;simp[Region.schedule,N,Bool.true_or,dx];refine B.eR u (cH:=cH) O aV.size _ D D wJ FI _ w7 ?_ M z K _;have m:=C.mono (x.too4 g) g.len;refine⟨m.size,m.defers,λd=>?_⟩;unfold gL;cases Q:idx d with
 |none=>exact m.aK d
 |some w=>
  simp only;rw[bj]
  .exact m.aK d
  exact wJ
end
def dX(q:af P)(x:Nat)(a:m ao)(t:ao)(w:bM)(j:m ar)(z:ι->y)(e:ι->m ar):Prop:=
 ∀i k,b1 x j i w k->bc j i->∀(o:aG) s g (p:ag->a6->Prop) r b,o.kind≠.early->a.toArray[r]?=f t ->
  (∀h u d,bx (e h) d u (z h)->bc (e h) d->dg j i (e h) d->cg q p (G (o.ab (k.put t.dst u) (.inRegion a.toArray b::s)) g) d)->cg q p (G (o.ab k (.inRegion a.toArray (r::b)::s)) g) i
def pO:m ao->Nat->(Nat->y)->m (Option Nat×y)
 |[],_,_=>[]
 |d::e,a,b=>(d.dst,b a)::pO e (a+1) b
def Fg{g:Nat->y}:∀{e:m ao}{b a:Nat},(pO e b g)[a]?=(e[a]?).map λd=>(d.dst,g (b+a))
 |[],b,a=>by simp[pO]
 |d::h,b,0=>by simp[pO]
 |d::h,b,a+1=>by simp[pO,n9];rw[Fg,show b+1+a=b+(a+1) by omega]
def en(a:m ao)(b:bM)(g:Nat->y)(d:Nat):bM:=f' (λe=>eo e (c' (a.getD d ez).after.toList)) 0 (pO a 0 g) (mS a b)
def oq(a:m ao)(b:bM)(d:Nat->y):bM:=f' (λ_=>l) 0 (pO a 0 d) (mS a b)
def pd(a:Nat):m ao->Bool
 |[]=>l
 |b::d=>match ft a b.dst with|true=>pd a d|false=>v
def IT{F}:∀{e:m ao},pd F e=l->∀(a:Nat)b,e[a]?=f b->ft F b.dst=l
 |[],_,a,b,d=>by grind
 |i::j,d,a,b,g=>by
  simp[pd]at d;split at d
  .rename_i h;cases a with
   |zero=>grind
   |succ a=>exact IT d a b N
  grind
def o_:m ao->Nat->Bool
 |[],_=>l
 |b::d,a=>match tq a (c' b.after.toList)with|true=>o_ d (a+1)|false=>v
def GZ:∀{i:m ao}{h:Nat},o_ i h=l->∀(a:Nat)d,i[a]?=f d->∀g∈c' d.after.toList,g<h+a
 |[],_,_,a,d,e=>by grind
 |o::p,h,e,a,d,b=>by
  simp[o_]at e;split at e
  .rename_i j;cases a with
   |zero=>simp at b;subst b;exact DJ j
   |succ a=>intro g k;have:=GZ e a d N g k;omega
  grind
def xn(pre:Nat->Bool):m Nat->Bool
 |[]=>v
 |a::b=>match pre a with|true=>xn pre b|false=>l
theorem GP{pre:Nat->Bool}:∀{d:m Nat},xn pre d=l->∃b∈d,pre b=v
 |[],a=>by cases a
 |b::g,a=>by
  simp[xn]at a;split at a
  .obtain⟨s,e,i⟩:=GP a;grind
  grind
def oh(pre:Nat->Bool)(b:Nat):m ao->Nat->Bool
 |[],_=>l
 |e::d,a=>match pre a with
  |true=>oh pre b d (a+1)
  |false=>match ad a b with
   |true=>oh pre b d (a+1)
   |false=>match xn pre (c' e.after.toList)with|true=>oh pre b d (a+1)|false=>v
theorem Ic{pre:Nat->Bool}{A}:∀{h:m ao}{d:Nat},oh pre A h d=l->∀(a:Nat)e,h[a]?=f e->pre (d+a)=v->d+a≠A->∃o∈c' e.after.toList,pre o=v
 |[],_,_,a,e,g=>by grind
 |q::p,d,g,a,e,b=>by
  intro i j;simp[oh]at g;cases a with
  |zero=>
   simp at b;subst b;simp[kh]at i j;grind[Nat.eq_of_beq_eq_true,GP]
  |succ a=>
   have k:oh pre A p (d+1)=l:=N;exact Ic k a e N N w
section
variable {q:af P}{idx:Nat->Option Nat}
def Zw{h:Nat->y}{j}(q:∀a k b g,bx k b g (match idx a with|some i=>(if ∃d∈r.after,eY d=l/\d.on=i then h i else .any)|none=>look J a)->bx k b g (look (en aV.toList J h e) a))(p:mf F k b (gL J h idx L) j)(s:∀d∈r.after,eY d=l->L.getD d.on v=l):b1 F k b (en aV.toList J h e) j:=p.fh λa k b g m=>q a k b g (by
 unfold gL at m;cases o:idx a with
 |none=>grind
 |some i=>
  simp only[o]at m⊢;split
  .grind
  .trivial)
def aeG{s p:Nat->y}{d}{o}(t:∀g,r.dst=f g->idx g=f e/\g<F)(N:∀g m,idx g=f m->∃r,aV[m]?=f r/\r.dst=f g)(A:aV[e]?=f r)(M:e<L.size)(O:∀m,L.getD m v=l->p m=s m)(w:c b.t=c k)(i:dg k b d aF)(j:mf F k b (gL J s idx L) o)(K:bx d aF aa (p e)):mf F d aF (gL J p idx (L.setIfInBounds e l)) (o.put r.dst aa):=by
 have old:∀h,idx h≠f e->bx d aF (o.tmps.getD h I) (gL J p idx (L.setIfInBounds e l) h):=by intro h Q;have x:=(j.aK h).mono i.ext w;unfold gL at x⊢;grind[mF]
 cases E:r.dst with
 |none=>
  refine⟨j.size,j.defers.imp λ_ q=>q.mono i.ext,λh=>?_⟩;refine old h λz=>?_;grind
 |some g=>
  obtain⟨B,D⟩:=t g E;refine⟨by simp[Act.put,j.size],j.defers.imp λ_ q=>q.mono i.ext,λh=>?_⟩;simp[Act.put];by_cases u:g=h
  .subst u;have C:g<o.tmps.size:=by rw[j.size];exact D
   simp[hH,uP C,ia];unfold gL;simp only[B];rw[bl ((mF M).2 (.inl a))];exact K
  have:=old h (λz=>by grind);simp[hH]at this⊢;grind
def SY{Tg:∀a e,aV[a]?=f e->∀b∈e.after,eY b=l->b.on<a}(o:L.size=aV.size)(k:aL .any aV L=[]):∀a,a<aV.size->L.getD a v=l:=by
 intro a;induction a using Nat.strongRecOn with
 |_ a g=>
  intro d;cases m:L.getD a v with
  |true=>rfl
  |false=>
   have i:a∈aL .any aV L:=pt.2 ⟨aV[a],iQ d,by grind,λb j h=>by grind⟩;grind
def aaL{o}(a:(aL .any aV L)[o % c (aL .any aV L)]?=n):aL .any aV L=[]:=by
 cases d:aL .any aV L with
 |nil=>rfl
 |cons e b=>
  grind[Nat.mod_lt]
theorem S0(h:L.size=aV.size)(i:c (L.toList.filter (λb=>!b))<=0):∀a,a<aV.size->L.getD a v=l:=by
 intro a g;have d:L[a]'w∈L.toList:=D;cases e:L[a]'w with
 |true=>simp[hH,iQ (by omega:a<L.size),e]
 |false=>
  have:L[a]'w∈L.toList.filter (λb=>!b):=jm.2 ⟨d,by grind⟩;grind
end
def dV(b:Nat)(y:Nat->Bool):Nat->Bool:=λa=>match ad a b with|true=>l|false=>y a
section
variable {q:af P}{C:Type}{E:C->Nat->y}{idx:Nat->Option Nat}{br:C->(Nat->Bool)->m ar}{g3:C->(Nat->Bool)->Prop}{s:Nat}
def ko(L:Array Bool):Nat->Bool:=λa=>L.getD a v
def T9(a:e<L.size):ko (L.setIfInBounds e l)=dV e (ko L):=by funext u;have b:=mF (L:=L) (e:=e) (u:=u) a;simp[ko,dV];grind[Nat.eq_of_beq_eq_true,Nat.beq_refl]
def TK{s}(i:L.size=j)(h:∀e,s<=e->¬L.getD e v=l):j-s<=c (L.toList.filter (λa=>!a)):=by
 have k:(L.toList.drop s).filter (λa=>!a)=L.toList.drop s:=by rw[sz];intro a g;obtain⟨d,b,rfl⟩:=ha g;have:=h (s+d) w;simp[sB,ng]at b;simp[hH,iQ (by omega:s+d<L.size),ia]at this;grind
 grind[List.drop_sublist]
theorem n3.iz(all)(s):n3 all (List.range' s (c all-s)) (all.drop s):=by
 have key:∀a j,(∀u r,a[u]?=f r->all[j+u]?=f r)->n3 all (List.range' j (c a)) a:=by
  intro a;induction a with
  |nil=>intro j _;trivial
  |cons r b x=>
   exact Rb
 have:=key (all.drop s) s λu r t=>by grind
 grind
structure uw{P:aD}(q:af P)(F:Nat)(aV:Array ao)(J:bM){C:Type}(E:C->Nat->y)(br:C->(Nat->Bool)->m ar)(g3:C->(Nat->Bool)->Prop)(idx:Nat->Option Nat)(s:Nat):Prop where
 cT:∀e r,aV[e]?=f r->∀ak∈r.after,eY ak=l->ak.on<e
 e1:∀e r O,aV[e]?=f r->r.dst=f O->idx O=f e/\O<F
 dU:∀O e,idx O=f e->∃r,aV[e]?=f r/\r.dst=f O
 R:∀κ (y:Nat->Bool) e r,g3 κ y->aV[e]?=f r->e<s->y e=v->(∀ak∈r.after,eY ak=l->y ak.on=l)->(∀u Lu,aV[u]?=f Lu->y u=l->∀ak∈Lu.after,eY ak=l->y ak.on=l)->dX q F aV.toList r (en aV.toList J (E κ) e) (br κ y) (λbk:{Sr:C // (∀u,y u=l->E Sr u=E κ u)/\g3 Sr (dV e y)}=>E bk.1 e) (λbk=>br bk.1 (dV e y))
 e0:∀(E:Nat->y) e r,aV[e]?=f r->∀o k b aa,bx k b aa (match idx o with|some u=>(if ∃ak∈r.after,eY ak=l/\ak.on=u then E u else .any)|none=>look J o)->bx k b aa (look (en aV.toList J E e) o)
 fin:∀(E:Nat->y) o k b aa,bx k b aa (match idx o with|some u=>E u|none=>look J o)->bx k b aa (look (oq aV.toList J E) o)
 gX:∀e r,aV[e]?=f r->s<=e->∀L:Array Bool,(∀e r,aV[e]?=f r->L.getD e v=l->∀ak∈r.after,eY ak=l->L.getD ak.on v=l)->(∀ak∈r.after,eY ak=l->L.getD ak.on v=l)->∀h,h<e->L.getD h v=l
 gg:s<=aV.size
 h3:∀κ (y:Nat->Bool),g3 κ y->(∀e,e<s->y e=l)->∀e,s<=e->e<aV.size->E κ e=.any
def Kh(b:L.size=j)(a:e<j):L.getD e l=v↔¬L.getD e v=l:=N
theorem uw.seq(r:uw q F aV J E br g3 idx s):∀k a(L:Array Bool)y,L.size=aV.size->s<=a->a<=aV.size->aV.size-a<=k->(∀o,o<aV.size->(L.getD o v=l↔o<a)) ->
  Region.linearise.go .any aV k y L []=List.range' a (aV.size-a):=by
 intro k;induction k with
 |zero=>
  grind[DF]
 |succ k V=>
  intro a L y B W X Y A;by_cases Q:a=aV.size
  .grind [KW]
  .rw[vI];have u:a<aV.size:=w;have S:∀b j,aV[b]?=f j->L.getD b v=l->∀i∈j.after,eY i=l->L.getD i.on v=l:=λb j d h i x g=>by have m:=(jk.1 d).1;have e:=(A b m).1 h;have C:=r.cT b j d i x g;grind
   have T:∀b,b∈aL .any aV L->b=a:=λb h=>by
    obtain⟨j,d,t,U⟩:=pt.1 h;have m:=(jk.1 d).1;have K:¬b<a:=λO=>(Kh B m).1 t ((A b m).2 O);rcases dY a b with e|e
    .have:=r.gX b j d w L S U a e;grind
    omega
   have R:a∈aL .any aV L:=pt.2 ⟨aV[a],iQ u,(Kh B u).2 (λD=>by grind),λi x g=>by
    have:=r.cT a _ (iQ u) i x g
    grind⟩
   have M:0<c (aL .any aV L):=List.length_pos_of_mem R;have z:=p7 y M;rw[bJ z];have p:=T _ (xe z);simp[p];rw[V (a+1) _ _ N w w w (λo I=>by grind[mF])];rw[show aV.size-a=(aV.size-(a+1))+1 by omega,List.range'_succ]
def uw.eR(m:uw q F aV J E br g3 idx s){aP:ag->a6->Prop}{t:aG}{x}(Y:t.kind≠.early){dM}{cH}(X:∀b y d h,g3 b y->(∀e,e<s->y e=l)->b1 F (br b y) d (oq aV.toList J (E b)) h->bc (br b y) d->dg dM cH (br b y) d->cg q aP (G (t.ab h (.inRegion aV (List.range' s (aV.size-s))::x)) ai) d):
  ∀r b L,g3 b (ko L)->L.size=aV.size->c (L.toList.filter (λt=>!t))<=r->(∀o,s<=o->¬L.getD o v=l) ->
   (∀e z,aV[e]?=f z->L.getD e v=l->∀D∈z.after,eY D=l->L.getD D.on v=l) ->
   ∀d h,mf F (br b (ko L)) d (gL J (E b) idx L) h->bc (br b (ko L)) d->dg dM cH (br b (ko L)) d ->
   ∀k,cg q aP (G (t.ab h (.inRegion aV (Region.linearise.go .any aV r k L [])::x)) ai) d:=by
 have fin:∀b L d h r k,g3 b (ko L)->L.size=aV.size->c (L.toList.filter (λt=>!t))<=r->(∀o,s<=o->¬L.getD o v=l)->(∀e,e<s->L.getD e v=l)->mf F (br b (ko L)) d (gL J (E b) idx L) h->bc (br b (ko L)) d->dg dM cH (br b (ko L)) d->cg q aP (G (t.ab h (.inRegion aV (Region.linearise.go .any aV r k L [])::x)) ai) d:=by
  intro b L d h r k A M R O aj C i p;have W:=m.gg;rw[m.seq r s L k M (bC _) W (by have aD:=TK (j:=aV.size) (s:=s) M O;omega) (λo I=>⟨λak=>by grind,λak=>aj o ak⟩)]
  exact X b _ d h A aj (C.fh λk ax d ar H=>m.fin (E b) k ax d ar (by
   unfold gL at H;cases u:idx k with
   |none=>grind
   |some o=>
    simp only[u]at H⊢;obtain⟨z,g,_⟩:=m.dU _ _ u;rcases dY o s with B|B
    .grind
    .rw[m.h3 b _ A aj o B (jk.1 g).1];trivial)) i p
 intro r;induction r with
 |zero=>
  intro b L A M R O V d h C i p k;have W:=m.gg;grind[S0]
 |succ r ab=>
  intro b L A M R O V d h C i p k;have W:=m.gg;cases ae:(aL .any aV L)[k % c (aL .any aV L)]? with
  |none=>exact fin b L d h _ k A M R O (λe u=>SY (Tg:=m.cT) M (aaL ae) e w) C i p
  |some e=>
   have u:=ca ae;obtain⟨z,g,ao,ah⟩:=pt.1 u;have aq:e<aV.size:=(jk.1 g).1;rcases dY e s with Q|Q
   rotate_left
   .exact fin b L d h _ k A M R O (λo I=>m.gX e z g Q L V ah o w) C i p
   rw[vI,ae];have av:¬L.getD e v=l:=N;have aF:c ((L.setIfInBounds e l).toList.filter (λt=>!t))<=r:=by
    have B:L.toList[e]?=f v:=by rw[GC,iQ (by omega:e<L.size)];simpa[hH,iQ (by omega:e<L.size)]using av
    grind[xY]
   have au:∀S K,aV[S]?=f K->(L.setIfInBounds e l).getD S v=l->∀D∈K.after,eY D=l->(L.setIfInBounds e l).getD D.on v=l:=wQ;have a:b1 F (br b (ko L)) d (en aV.toList J (E b) e) h:=Zw (m.e0 (E b) e z g) C ah;have:=m.R b (ko L) e z A g Q (by unfold ko;grind) ah V d h a i t x ai aP e (Region.linearise.go .any aV r (k / c (aL .any aV L)) (L.setIfInBounds e l) []) Y N;simp only[w8]at this;refine this λaE ar af H U T=>?_;obtain⟨aB,az,an⟩:=aE;have aw:=T9 (L:=L) (e:=e) w;simp only at H U T;rw[<-aw]at H U T an;exact ab aB _ an N aF (λo I=>by grind[mF]) au af _ (aeG (λaC Z=>m.e1 e z aC g Z) m.dU g w (λS aa=>az S aa) i.len T C H) U (p.trans T) _
def b4.reg(aD:P.follows Departure.mixedOrders=l)(x:Nat)(t:C->Nat->y)(O:C->(Nat->Bool)->m ar)(g:C->(Nat->Bool)->Prop)(an:C)(aS:g an λ_=>v)(aB:O an (λ_=>v)=k)(aj:lu all=l)(a4:o_ all 0=l)(a5:pd F all=l)(a8:x<=c all)(R:∀e,x<=e->e<c all->∀L:Nat->Prop,(∀e,e<c all->L e->∀i∈c' (all.getD e ez).after.toList,L i)->(∀i∈c' (all.getD e ez).after.toList,L i)->∀K,K<e->L K)(B:∀j (y:Nat->Bool),g j y->(∀e,e<x->y e=l)->∀e,x<=e->e<c all->t j e=.any)(ae:∀j (y:Nat->Bool) e r,g j y->all[e]?=f r->e<x->y e=v->(∀i∈c' r.after.toList,y i=l)->(∀h ab,all[h]?=f ab->y h=l->∀i∈c' ab.after.toList,y i=l)->dX q F all r (en all J (t j) e) (O j y) (λaJ:{aN:C // (∀h,y h=l->t aN h=t j h)/\g aN (dV e y)}=>t aJ.1 e) (λaJ=>O aJ.1 (dV e y))){aP:fF}(aC:∀j y,g j y->(∀e,e<x->y e=l)->fq q F all (all.drop x) (aP .normal) (oq all J (t j)) (O j y))(id:Nat):
  b4 q F (.region id all.toArray l) aP J k:=by
 have S:∀e:Nat,all.toArray[e]?=all[e]?:=λe=>by simp
 let idx:Nat->Option Nat:=λo=>(aA (c all)).find? (λe=>decide ((all.getD e ez).dst=f o));have ba:∀o h,idx o=f h->∃r,all[h]?=f r/\r.dst=f o:=N;have a0:∀e r E,all[e]?=f r->r.dst=f E->idx E=f e:=by
  intro e r E cx u;have bp:e<c all:=(cP.1 cx).1;cases aG:idx E with
  |none=>
   have:=uH.1 aG e N;grind
  |some h=>
   grind[DZ]
 have bb:∀o,jV o all=l↔∃h,idx o=f h:=by grind[Di,vv]
 have G:∀e r,all[e]?=f r->all.getD e ez=r:=λe r bd=>by grind
 have u:uw q F all.toArray J t O g idx x:=by
  refine⟨?_,?_,?_,?_,?_,?_,λe r cx V L aT aV K aE=>?_,by grind,λj y av aq e p s=>B j y av aq e p N⟩
  .intro e r cx i ac z;rw[S]at cx;have:=GZ a4 e r cx i.on (l6.2 ⟨i,by grind,z,rfl⟩);omega
  .intro e r E cx u;rw[S]at cx;exact⟨a0 e r E cx u,lg (IT a5 e r cx) E u⟩
  .grind
  .intro j y e r av cx Z T aF aX;rw[S]at cx;exact ae j y e r av cx Z T (λi ac=>by grind[l6]) λh r I aR i ac=>by grind[l6]
  .intro t e r cx o k b aa ai;rw[S]at cx;show bx k b aa (look (en all J t e) o);unfold en;rw[G e r cx];rcases vK (A:=λh=>eo h (c' r.after.toList)) (J:=mS all J) (o:=o) (d:=pO all 0 t) (e:=0)with⟨h,a',p,s,w⟩|w
   .rw[w];rw[Fg]at p;cases I:all[h]? with
    |none=>grind
    |some aI=>
     simp[I,lK,e',lL,cV]at p;rw[a0 h aI o I p.1]at ai;simp only at ai;rw[bl]at ai
     .grind
     simp[cV]at s;obtain⟨i,aO,aQ,x⟩:=l6.1 (qI s);grind
   rw[w,tp];split
   .trivial
   grind
  .intro t o k b aa ai;show bx k b aa (look (oq all J t) o);unfold oq;rcases vK (A:=λ_=>l) (J:=mS all J) (o:=o) (d:=pO all 0 t) (e:=0)with⟨h,a',p,s,w⟩|w
   .rw[w];rw[Fg]at p;grind
   rw[w,tp];split
   .trivial
   grind
  rw[S]at cx;refine R e V (cP.1 cx).1 (λK=>L.getD K v=l) (λa_ aY a9 i ac=>?_) (λi ac=>?_) K aE
  .grind [l6]
  grind[l6]
 intro b aO a6 X aQ aH ax ao z U;refine .next a λQ ah=>?_;have ah:=q.bO ah;have ag:=X.rely ah;have H:=a6.rely ah X;have M:cO k Q k {Q with a:={Q.a with drawn:=Q.a.drawn+1}}:=cO.same rfl rfl rfl rfl;have Y:bc k {Q with a:={Q.a with drawn:=Q.a.drawn+1}}:=ag.same rfl;have a1:=ah.aT.trans (M.too4 ag);refine⟨_,{Q with a:={Q.a with drawn:=Q.a.drawn+1}},#[],EA,⟨⟨k,k,ag,Y,M⟩,.nil⟩,?_⟩;simp only[Region.schedule,aD,Bool.true_or,dx];have W:ko (Array.replicate all.toArray.size v)=λ_=>v:=by funext e;simp[ko,hH,xh];split<;>simp
 refine u.eR z (dM:=k) (cH:=b) (λj y aL au av aq az s af=>?_) all.toArray.size an _ N D D ?_ ?_ _ aO ?_ N N _
 .refine aC j y av aq aL au az s aQ aH ax ao _ z ?_ λa3 a2 aM aw aK f3 w a7=>U .normal _ _ aM aw aK f3 w (af.trans a7);grind[n3.iz]
 .intro e _ bp;simp[hH,xh]at bp;split at bp<;>simp at bp
 .exact FI
 rw[W,aB];have ak:=H.mono (M.too4 ag) ag.len;refine⟨ak.size,ak.defers,λo=>?_⟩;unfold gL;cases aZ:idx o with
 |none=>exact ak.aK o
 |some h=>
  simp only;rw[bj]
  .exact ak.aK o
  exact wJ
def dX.to{p:Type}{s:ι->y}{b:ι->m ar}{t:p->y}{o:p->m ar}(A:dX q F all r J k s b)(D:∀d,∃e,s d=t e/\b d=o e):dX q F all r J k t o:=by intro O w z i x e g u C a h j B;refine A O w z i x e g u C a h j λd S Q K M N=>?_;obtain⟨R,E,I⟩:=D d;grind
def aT.tocI{d:Type}{A}{B:d->y}{z:d->m ar}(K:aT q F all r J k A aq)(p:d)(e:A=B p)(g:aq=z p):dX q F all r J k B z:=by subst e g;exactλN D I j E s b C M a i o h=>K N D I j E s b C M a i o λO x t u w=>h p O x t u w
end
section
variable {q:af P}
theorem dX.aZ{C:ι->y}{d:ι->m ar}(Q:r.guard=n)(M:∀g h,bc k g->(∀D,bx k g (h D) (bE J D))->∃(e:ι)(b:a6)(j:X),(ab h r).run P g.a=.ok (.value j) b.a/\bx (d e) b j (C e)/\bc (d e) b/\cO k g (d e) b/\dw g ((ab h r).events P g.a #[])):dX q F all r J k C d:=by intro g E K i S U I R T z w x u;refine rz w x (jf Q) λO p=>?_;have o:=i.rely p;obtain⟨e,b,j,s,t,B,A,N⟩:=M O E.eval o (eM (K.rely p i));exact⟨_,b,j,s,.inl a,⟨⟨k,d e,o,B,A⟩,N⟩,u e j b t B (p.aT.trans (A.too4 o))⟩
def dX.dj{j}(t:aT q F all r J k j aq):dX q F all r J k (λ_:Unit=>j) (λ_=>aq):=
 λx o s g p w b m u a e h d=>t x o s g p w b m u a e h λy i=>d () y i
def aT.aL{a}(d:a1 P r (bE J) k a aq)(b:r.guard=n):aT q F all r J k a aq:=.aZ (λ_ _ _ _=>jf b) d
def aT.eval{d}(a0:b3 P ac)(a:a' q CT)(e:iI ac CT bf all J k r=f (d,n,cp))(b:U cp):aT q F all r J k d k:=dT a0 a e b
def aT.w{E}(a0:b3 P ac:=by exact bb)(lV:a' q CT:=by first|assumption|exact a'.nil)(t:iI ac CT [] all J k r=f (E,n,[]):=by rfl):aT q F all r J k E k:=dT a0 lV t B
def q'(i:af P)(h:Nat)(a:m ao)(g:bM)(d:m ar)(e:Nat->y)(pre:Nat->Bool):m ao->Nat->Prop
 |[],_=>True
 |j::k,b=>(match pre b with|true=>aT i h a j (en a g e b) d (e b) d|false=>True)/\q' i h a g d e pre k (b+1)
def ra(i:af P)(h:Nat)(a:m ao)(g:bM)(d:m ar)(e:Nat->y)(j:Nat):m ao->Nat->Prop
 |[],_=>True
 |k::o,b=>(match ad b j with|true=>True|false=>aT i h a k (en a g e b) d (e b) d)/\ra i h a g d e j o (b+1)
theorem q'.get{h:Nat->y}{pre:Nat->Bool}:∀{i:m ao}{d:Nat},q' q F all J k h pre i d->∀(b:Nat)e,i[b]?=f e->pre (d+b)=l->aT q F all e (en all J h (d+b)) k (h (d+b)) k
 |[],_,_,b,e,g=>by grind
 |o::p,d,g,0,e,a=>λx=>by simp at a;subst a;have j:=g.1;grind
 |o::p,d,g,b+1,e,a=>λx=>by have:=q'.get g.2 b e N N;grind
theorem ra.get{h:Nat->y}{A}:∀{i:m ao}{d:Nat},ra q F all J k h A i d->∀(b:Nat)e,i[b]?=f e->d+b≠A->aT q F all e (en all J h (d+b)) k (h (d+b)) k
 |[],_,_,b,e,g=>by grind
 |o::p,d,g,0,e,a=>λx=>by simp at a;subst a;have j:=g.1;simp only[kh]at x;grind[Nat.eq_of_beq_eq_true]
 |o::p,d,g,b+1,e,a=>λx=>by have:=ra.get g.2 b e N w;grind
def kW(pre:Nat->Bool)(d:Nat->y)(e:ι->Nat->y)(b:ι)(a:Nat):y:=match pre a with|true=>d a|false=>e b a
def DX{s}{pre:Nat->Bool}{o:Nat->y}{j:ι->Nat->y}{t:ι->m ar}{br:ι->(Nat->Bool)->m ar}(R:pre A=v)(T:oh pre A all 0=l)(same:∀d b,pre b=l->j d b=o b)(C:∀b g,all[b]?=f g->pre b=l->aT q F all g (en all J o b) k (o b) k)(q0:∀d (y:Nat->Bool) b g,all[b]?=f g->b≠A->b<s->y b=v->(∀e w,all[e]?=f w->y e=l->∀u∈c' w.after.toList,y u=l)->aT q F all g (en all J (j d) b) (br d y) (j d b) (br d (dV b y)))(B:∀g,all[A]?=f g->dX q F all g (en all J o A) k (λd=>j d A) t)(Q:∀d (y:Nat->Bool),(∀b,y b=l->pre b=l)->t d=br d (dV A y)):
  ∀i (y:Nat->Bool) b g,(i.isSome=y A/\(i=n->∀b,y b=l->pre b=l))->all[b]?=f g->b<s->y b=v->(∀u∈c' g.after.toList,y u=l)->(∀d w,all[d]?=f w->y d=l->∀u∈c' w.after.toList,y u=l) ->
   dX q F all g (en all J (i.elim o j) b) (i.elim k λd=>br d y) (λK:{D:Option ι // (∀d,y d=l->D.elim o j d=i.elim o j d)/\(D.isSome=dV b y A/\(D=n->∀e,dV b y e=l->pre e=l))}=>K.1.elim o j b) (λK=>K.1.elim k λd=>br d (dV b y)):=by
 intro i y b g N r z x I p;have U:∀{e},dV b y e=l->e=b∨y e=l:=λ{e} h=>by unfold dV at h;grind[Nat.eq_of_beq_eq_true]
 have S:∀{e},e≠b->dV b y e=y e:=λ{e} h=>by unfold dV;grind[Nat.eq_of_beq_eq_true]
 by_cases M:b=A
 .subst M;cases i with
  |some d=>grind
  |none=>
   refine(B g r).to λd=>⟨⟨f d,λe h=>same d e (N.2 a e h),?_,λE=>by cases E⟩,a,Q d y (N.2 a)⟩
   unfold dV;grind[Nat.beq_refl]
 cases i with
 |none=>
  have O:pre b=l:=by grind[Ic]
  exact(C b g r O).tocI ⟨n,λ_ _=>rfl,by grind,λ_ e h=>by grind⟩ a a
 |some d=>exact(q0 d y b g r M z x p).tocI ⟨f d,λ_ _=>rfl,by grind,λE=>by cases E⟩ rfl rfl
def y4{s}{pre:Nat->Bool}{b:Option ι}{y:Nat->Bool}(h:b.isSome=y A/\(b=n->∀a,y a=l->pre a=l))(e:A<s)(g:∀a,a<s->y a=l):∃d,b=f d:=by
 cases b with
 |some d=>grind
 |none=>grind
def g.dh(O:P.follows Departure.mixedOrders=l)(A)(pre:Nat->Bool)(r:Nat->y)(u:ι->Nat->y)(d:ι->m ar){id}(z:lu aV.toList=l)(B:o_ aV.toList 0=l)(C:pd F aV.toList=l)(p:Nat.blt A (c aV.toList)=l)(D:pre A=v)(E:oh pre A aV.toList 0=l)(s:q' q F aV.toList J k r pre aV.toList 0)(q0:∀b,ra q F aV.toList J (d b) (kW pre r u b) A aV.toList 0)(afv:dX q F aV.toList (aV.toList.getD A ez) (en aV.toList J r A) k (λb=>kW pre r u b A) d)(M:∀b,g q F be av .normal (oq aV.toList J (kW pre r u b)) (d b)):g q F be (.code (.region id aV l)::av) .normal J k:=by
 have p:=fA p;have:=b4.reg (q:=q) (F:=F) (J:=J) (k:=k) O (all:=aV.toList) (c aV.toList) (λh:Option ι=>h.elim r (kW pre r u)) (λh _=>h.elim k d) (λh y=>h.isSome=y A/\(h=n->∀e,y e=l->pre e=l)) n ⟨rfl,λ_ _ I=>by cases I⟩ a z B C (bC _)
  (λe i j=>absurd j (p'.2 i)) (λh y _ _ e i j=>absurd j (p'.2 i))
  (DX (br:=λb _=>d b) D E (λb e w=>by simp only[kW,w]) (λe t o w=>by have:=s.get e t o N;grind) (λb y e t o x _ _ _=>by have:=(q0 b).get e t o N;grind)
   (λt K=>by grind) (λ_ _ _=>rfl))
  (aP:=g q F be av) (λh y Q R=>by obtain⟨b,rfl⟩:=y4 Q p R;rw[uJ];exact .nil (M b)) id
 exact wF
end
section
variable {q:af P}
def wv(a:m ao)(b:Nat):m Nat->Bool
 |[]=>v
 |d::e=>match eo b (c' (a.getD d ez).after.toList)with|true=>l|false=>wv a b e
def N8{all}{e}:∀{h:m Nat},wv all e h=l->∃b,b∈h/\eo e (c' (all.getD b ez).after.toList)=l
 |[],a=>by cases a
 |b::k,a=>by
  simp only[wv]at a;cases g:eo e (c' (all.getD b ez).after.toList)with
  |true=>exact⟨b,by simp,g⟩
  |false=>
   simp only[g]at a;obtain⟨j,i,d⟩:=N8 a;exact⟨j,by simp[i],d⟩
def uS(a:m ao):Nat->m Nat->Bool
 |0,_=>l
 |d+1,b=>match eo d b with
  |true=>uS a d b
  |false=>match wv a d b with|true=>uS a d b|false=>v
def A_{all}:∀{d:Nat}{e:m Nat},uS all d e=l->∀a,a<d->eo a e=l∨∃g,eo g e=l/\eo a (c' (all.getD g ez).after.toList)=l
 |0,_,_,a,k=>by omega
 |d+1,e,b,a,k=>by
  simp[uS]at b;cases i:eo d e with
  |true=>
   simp[i]at b;by_cases j:a=d
   .subst j;exact .inl i
   exact A_ b a w
  |false=>
   simp[i]at b;cases h:wv all d e with
   |false=>simp[h]at b
   |true=>
    simp[h]at b;by_cases j:a=d
    .subst j;obtain⟨g,k1,o⟩:=N8 h;exact .inr ⟨g,vM k1,o⟩
    exact A_ b a w
def g.hz(G:P.follows Departure.mixedOrders=l)(A last)(pre:Nat->Bool)(r:Nat->y)(u:ι->Nat->y)(j h:ι->m ar){id}(ab:lu aV.toList=l)(ae:o_ aV.toList 0=l)(ah:pd F aV.toList=l)(z:Nat.blt A (c aV.toList)=l)(ak:pre A=v)(aq:oh pre A aV.toList 0=l)(aa:ad (last+1) (c aV.toList)=l)(V:uS aV.toList last (c' (aV.toList.getD last ez).after.toList)=l)(ai:pre last=v)(au:ad last A=v)(I:q' q F aV.toList J k r pre aV.toList 0)(q0:∀a,ra q F aV.toList J (j a) (kW pre r u a) A aV.toList.dropLast 0)(t:dX q F aV.toList (aV.toList.getD A ez) (en aV.toList J r A) k (λa=>kW pre r u a A) j)(E:∀a,aT q F aV.toList (aV.toList.getD last ez) (en aV.toList J (kW pre r u a) last) (j a) (u a last) (h a))(p:∀a,g q F be av .normal (oq aV.toList J (kW pre r u a)) (h a)):g q F be (.code (.region id aV l)::av) .normal J k:=by
 have ag:=dp aa;have aw:last≠A:=by grind[Nat.beq_refl]
 have z:=fA z;have:=b4.reg (q:=q) (F:=F) (J:=J) (k:=k) G (all:=aV.toList) (c aV.toList) (λs:Option ι=>s.elim r (kW pre r u)) (λs y=>s.elim k λa=>match y last with|true=>h a|false=>j a) (λs y=>s.isSome=y A/\(s=n->∀e,y e=l->pre e=l)) n ⟨rfl,λ_ _ K=>by cases K⟩ rfl ab ae ah (bC _)
  (λe b i=>absurd i (p'.2 b)) (λs y _ _ e b i=>absurd i (p'.2 b))
  (DX (br:=λa y=>match y last with|true=>h a|false=>j a) ak aq (λa e Q=>by simp[kW,Q]) (λe B o Q=>by have:=I.get e B o (by rwa [cV]);rwa [cV]at this)
   (λa y e B o Y X D x=>by
    by_cases an:e=last
    .subst an;have b:=E a;rw[show aV.toList.getD e ez=B by simp[al,o]]at b;simp[D,dV,sK];rw[show kW pre r u a e=u a e by simp[kW,ai]];exact b
    .have M:=(cP.1 o).1;have aj:aV.toList.dropLast[e]?=f B:=N;have b:=(q0 a).get e B aj (by rwa [cV]);rw[cV]at b;have O:ad last e=v:=uj;have C:y last=v:=by
      cases C:y last with
      |false=>rfl
      |true=>
       have W:=bJ (l:=aV.toList) (by omega:last<c aV.toList);have Z:∀p T,aV.toList[p]?=f T->aV.toList.getD p ez=T:=λp T K=>by simp[al,K]
       rw[Z _ _ W]at V;rcases A_ V e w with i|⟨p,i,U⟩
       .grind [qI]
       have af:=x last _ W C p (qI i);cases ao:aV.toList[p]? with
       |none=>rw[show aV.toList.getD p ez=ez by simp[al,ao]]at U;simp[ez,c',eo]at U
       |some ok=>
        grind[qI]
     simp[dV,O,C];exact b)
   (λB R=>by rw[show aV.toList.getD A ez=B by simp[al,R]]at t;exact t)
   (λa y S=>by
    have C:y last=v:=N
    simp[dV,au,C]))
  (aP:=g q F be av) (λs y H S=>by
   obtain⟨a,rfl⟩:=y4 H z S;rw[uJ];simp[Option.elim,S last w]
   exact .nil (p a)) id
 exact wF
end
def jr(a:bA):X:=.string ⟨a.toArray⟩
def Tr{a}{b}(d:a.data.toList=b):Value.string a=jr b:=by subst d;simp[jr]
theorem EO{a}(d:Rd bB aa (.S a)):aa=jr a/\dU aa=l:=by
 cases d with
 |S b _=>exact⟨Tr b,rfl⟩
section
variable {q:af P}{E:Nat->y}{br:(Nat->Bool)->m ar}
def nq:m ao->m (m Bool)->m (m Bool)
 |[],x=>x
 |r::a7,x=>d (lQ x (c' r.after.toList)) λs=>nq a7 (x++[s])
 where d:m Bool->(m Bool->m (m Bool))->m (m Bool)
 |[],bk=>bk []
 |true::a7,bk=>d a7 λa7=>bk (l::a7)
 |false::a7,bk=>d a7 λa7=>bk (v::a7)
theorem yy:∀d(a:m Bool->m (m Bool)),nq.d d a=a d
 |[],a=>rfl
 |true::b,a=>by simp[nq.d];rw[yy b]
 |false::b,a=>by simp[nq.d];rw[yy b]
def Ib{a:m ao}{y:Nat->Bool}(q:∀(b:Nat)d,a[b]?=f d->y b=l->∀h∈c' d.after.toList,y h=l):
  ∀k e,(∀j,k[j]?=a[c e+j]?)->(∀(b:Nat) g,e[b]?=f g->∀d,a[b]?=f d->(∀h∈c' d.after.toList,y h=l)->∀i,gD g i=l->y i=l) ->
   ∀(b:Nat) (g:m Bool),(nq k e)[b]?=f g->∀d,a[b]?=f d->(∀h∈c' d.after.toList,y h=l)->∀i,gD g i=l->y i=l
 |[],e,_,p=>p
 |d::k,e,o,p=>by
  simp[nq];rw[yy];refine Ib q k _ (λj=>?_) ?_
  .have:=o (j+1);grind
  intro b g r;have s:=o 0;simp[mn,kh]at s;rcases Nat.lt_trichotomy b (c e) with u|rfl|t
  .grind
  .rw[ht (bC _)]at r;grind[B']
  grind
def hx(a:m ao)(d e:Nat):Bool:=match(nq a [])[d]? with|some b=>gD b e|none=>v
def G0{y:Nat->Bool}(j:∀(a:Nat)b,all[a]?=f b->y a=l->∀g∈c' b.after.toList,y g=l):∀d b,all[d]?=f b->(∀g∈c' b.after.toList,y g=l)->∀a,hx all d a=l->y a=l:=by
 intro d b h i a e;unfold hx at e;split at e
 .rename_i s k;exact Ib j all [] D D d s k b h i a e
 grind
def SV{y:Nat->Bool}(k:∀(a:Nat)j,all[a]?=f j->y a=l->∀m∈c' j.after.toList,y m=l)(p:y e=v):∀a,(a=e∨hx all a e=l)->y a=v:=by
 intro a i;rcases i with rfl|i
 .exact p
 cases o:y a with
 |false=>rfl
 |true=>
  have b:∃d,all[a]?=f d:=by
   cases b:all[a]? with
   |some d=>grind
   |none=>
    exfalso;have q:c (nq all [])=c all:=by
     have:∀g h,c (nq g h)=c h+c g:=by
      intro g;induction g with
      |nil=>intro h;simp[nq]
      |cons j g r=>intro h;simp[nq];grind[yy]
     grind
    unfold hx at i;grind
  obtain⟨d,b⟩:=b;have:=G0 k a d b (k a d b o) e i;grind
def bV(j:af P)(i:Nat)(a:m ao)(h:bM)(g:Nat->y)(e:(Nat->Bool)->m ar)(b:Nat)(k:ao):Prop:=
 ∀y:Nat->Bool,(∀d,hx a b d=l->y d=l)->(∀d,(d=b∨hx a d b=l)->y d=v)->aT j i a k (en a h g b) (e y) (g b) (e (dV b y))
def um{P}(g:af P)(d:Nat)(a:m ao)(b:bM)(i:Nat->y)(e:(Nat->Bool)->m ar):m ao->Nat->Prop
 |[],_=>True
 |j::k,h=>bV g d a b i e h j/\um g d a b i e k (h+1)
theorem um.get{all}:∀{h:m ao}{g:Nat},um q F all J E br h g->∀d b,h[d]?=f b->bV q F all J E br (g+d) b
 |[],_,_,d,b,e=>by grind
 |i::j,g,e,0,b,a=>by simp at a;subst a;exact e.1
 |i::j,g,e,d+1,b,a=>by have:=um.get e.2 d b N;grind
def g.b9{id}(A:P.follows Departure.mixedOrders=l)(o:Nat->y)(j:(Nat->Bool)->m ar)(C:j (λ_=>v)=k)(t:lu aV.toList=l)(u:o_ aV.toList 0=l)(w:pd F aV.toList=l)(i:um q F aV.toList J o j aV.toList 0)(D:∀y,(∀e,e<c aV.toList->y e=l)->g q F be av .normal (oq aV.toList J o) (j y)):g q F be (.code (.region id aV l)::av) .normal J k:=by
 have:=b4.reg (q:=q) (F:=F) (J:=J) (k:=k) A (all:=aV.toList) (c aV.toList) (λ_:Unit=>o) (λ_=>j) (λ_ _=>True) () B C t u w (bC _)
  (λe b d=>absurd d (p'.2 b)) (λr y _ _ e b d=>absurd d (p'.2 b))
  (λr y e s _ h _ z x p=>by have b:=i.get e s h;rw[cV]at b;exact(b y (G0 p e s h x) (SV p z)).tocI ⟨(),λ_ _=>rfl,B⟩ a a)
  (aP:=g q F be av) (λr y _ E=>by rw[uJ];exact .nil (D y E)) id
 exact wF
end
section
variable {q:af P}{E:Nat->y}{i:Bool->Bool->Bool->m ar}{f1 f2 f3:Nat}
abbrev kS(e:Bool->Bool->Bool->m ar)(a b d:Nat):(Nat->Bool)->m ar:=λy=>e (y a) (y b) (y d)
def pL{y:Nat->Bool}(a:ad u e=v):dV e y u=y u:=by simp only[dV,a]
def Fb{y:Nat->Bool}:dV e y e=l:=Al
def bV.bJ(a:ad f1 e=v)(b:ad f2 e=v)(j:ad f3 e=v)(k:∀d g h,aT q F all r (en all J E e) (i d g h) (E e) (i d g h)):bV q F all J E (kS i f1 f2 f3) e r:=by intro y _ _;show aT q F all r _ (i (y f1) (y f2) (y f3)) _ (i (dV e y f1) (dV e y f2) (dV e y f3));rw[pL a,pL b,pL j];exact k _ _ _
def bV.cK(a0:b3 P ac:=by exact bb)(lV:a' q CT:=by first|assumption|exact a'.nil)(t:∀x s O,iI ac CT [] all (en all J E e) (i x s O) r=f (E e,n,cp):=by intro x s O;cases x<;>cases s<;>cases O<;>rfl)(cY:ad f1 e=v:=by rfl)(dC:ad f2 e=v:=by rfl)(ak:ad f3 e=v:=by rfl)(cx:U cp:=by simp only[U,a9];omega):bV q F all J E (kS i f1 f2 f3) e r:=.bJ cY dC ak λx s O=>aT.eval a0 lV (t x s O) cx
def bV.aC(a0:b3 P ac:=by exact bb)(lV:a' q CT:=by first|assumption|exact a'.nil)(t:∀x s O,iI ac CT [] all (en all J E e) (i x s O) r=f (E e,n,[]):=by intro x s O;cases x<;>cases s<;>cases O<;>rfl)(cY:ad f1 e=v:=by rfl)(dC:ad f2 e=v:=by rfl)(ak:ad f3 e=v:=by rfl):bV q F all J E (kS i f1 f2 f3) e r:=.cK (cp:=[]) a0 lV t cY dC ak B
def bV.dQ(d:ad f1 e=l)(p:ad f1 e=l)(b:ad f2 e=v)(j:ad f3 e=v)(o:∀g h,aT q F all r (en all J E e) (i v g h) (E e) (i l g h)):bV q F all J E (kS i f1 f2 f3) e r:=by intro y _ m;have k:=dp d;subst k;show aT q F all r _ (i (y f1) (y f2) (y f3)) _ (i (dV f1 y f1) (dV f1 y f2) (dV f1 y f3));rw[Fb,pL b,pL j,m f1 (.inl a)];exact o _ _
def bV.dR(g:ad f2 e=l)(b:ad f1 e=v)(m:ad f3 e=v)(d:hx all f3 e=l)(p:ad f2 e=l)(o:∀h,aT q F all r (en all J E e) (i h v v) (E e) (i h l v)):bV q F all J E (kS i f1 f2 f3) e r:=by intro y _ j;have k:=dp g;subst k;show aT q F all r _ (i (y f1) (y f2) (y f3)) _ (i (dV f2 y f1) (dV f2 y f2) (dV f2 y f3));rw[Fb,pL b,pL m,j f2 (.inl a),j f3 (.inr d)];exact o _
def bV.dS(j:ad f3 e=l)(b:ad f1 e=v)(d:ad f2 e=v)(h:hx all e f2=l)(p:ad f3 e=l)(o:∀k,aT q F all r (en all J E e) (i k l v) (E e) (i k l l)):bV q F all J E (kS i f1 f2 f3) e r:=by intro y a0 g;have m:=dp j;subst m;show aT q F all r _ (i (y f1) (y f2) (y f3)) _ (i (dV f3 y f1) (dV f3 y f2) (dV f3 y f3));rw[Fb,pL b,pL d,g f3 (.inl a),a0 f2 h];exact o _
end
def xo(a:Nat->Bool):m Nat->Bool
 |[]=>v
 |b::d=>match a b with|true=>l|false=>xo a d
def GQ{e:Nat->Bool}:∀{d:m Nat},xo e d=l->∃b∈d,e b=l
 |[],a=>by cases a
 |b::j,a=>by
  simp[xo]at a;split at a
  .grind
  obtain⟨i,g,h⟩:=GQ a;grind
def v9(a:m ao)(d:Nat):Nat->m Nat->Bool
 |0,b=>eo d b
 |g+1,b=>match eo d b with|true=>l|false=>xo (λe=>v9 a d g (c' (a.getD e ez).after.toList)) b
def zn{all}{h}{L:Nat->Prop}(i:∀j,j<c all->L j->∀a∈c' (all.getD j ez).after.toList,L a):∀{k:Nat}{d:m Nat},v9 all h k d=l->(∀a∈d,L a)->L h
 |0,d,b,e=>e h (qI b)
 |k+1,d,b,e=>by
  simp only[v9]at b;split at b
  .grind [qI]
  obtain⟨a,q,g⟩:=GQ b;rcases dY a (c all) with o|o
  .exact zn i g (i a o (e a q))
  have:all.getD a ez=ez:=N;rw[this]at g;exact zn i g (λr p=>by simp[ez,c']at p)
def uV(a:m ao)(b:Nat)(d:m Nat):Nat->Bool
 |0=>l
 |e+1=>match v9 a e b d with|true=>uV a b d e|false=>v
def Bm{all}{h}{d}:∀{b:Nat},uV all h d b=l->∀a,a<b->v9 all a h d=l
 |0,_,a,g=>by omega
 |b+1,e,a,g=>by
  simp[uV]at e;split at e
  .rename_i i;by_cases j:a=b
   .grind
   exact Bm e a w
  grind
def vc(a:m ao)(d:Nat):Nat->Nat->Bool
 |_,0=>l
 |b,e+1=>match uV a d (c' (a.getD b ez).after.toList) b with|true=>vc a d (b+1) e|false=>v
def Cn{all}{g}:∀{b e:Nat},vc all g b e=l->∀a,b<=a->a<b+e->uV all g (c' (all.getD a ez).after.toList) a=l
 |b,0,_,a,h,i=>by omega
 |b,e+1,d,a,h,i=>by
  simp[vc]at d;split at d
  .rename_i s;by_cases j:a=b
   .grind
   exact Cn d a w w
  grind
section
variable {q:af P}
def ts(b:Nat)(pre:Nat->Bool)(e:Nat->y)(g:ι->Nat->y)(d:ι)(a:Nat):y:=match Nat.blt a b with|true=>kW pre e g d a|false=>.any
def g.eI(ae:P.follows Departure.mixedOrders=l)(A s U)(pre:Nat->Bool)(j:Nat->y)(z:ι->Nat->y)(e:ι->m ar){id}(S:lu aV.toList=l)(T:o_ aV.toList 0=l)(V:pd F aV.toList=l)(Z:pre A=v)(ab:oh pre A aV.toList 0=l)(R:Nat.blt s (c aV.toList)=l)(h:Nat.blt A s=l)(Y:∀b,pre b=l->b<s)(o:vc aV.toList U s (c aV.toList-s)=l)(x:q' q F aV.toList J k j pre aV.toList 0)(q0:∀d,ra q F aV.toList J (e d) (ts s pre j z d) A (aV.toList.take s) 0)(Q:dX q F aV.toList (aV.toList.getD A ez) (en aV.toList J j A) k (λd=>ts s pre j z d A) e)(E:∀d,g q F be (.aj aV.toList (aV.toList.drop s)::av) .normal (oq aV.toList J (ts s pre j z d)) (e d)):g q F be (.code (.region id aV l)::av) .normal J k:=by
 have R:=fA R;have h:=fA h;have:=b4.reg (q:=q) (F:=F) (J:=J) (k:=k) ae (all:=aV.toList) s (λi:Option ι=>i.elim j (ts s pre j z)) (λi _=>i.elim k e) (λi y=>i.isSome=y A/\(i=n->∀b,y b=l->pre b=l)) n ⟨rfl,λ_ _ W=>by cases W⟩ a S T V w
  (λb r B L af p E D=>zn af (Bm (Cn o b r w) E D) p)
  (λi y I K b r B=>by
   obtain⟨d,rfl⟩:=y4 I h K;have:Nat.blt b s=v:=by
    cases C:Nat.blt b s with
    |false=>rfl
    |true=>have:=fA C;omega
   simp[Option.elim,ts,this])
  (DX (br:=λd _=>e d) Z ab (λd b p=>by have:Nat.blt b s=l:=AT (Y b p);simp[ts,this,kW,p])
   (λb u t p=>by have:=x.get b u t N;grind)
   (λd y b u t O M _ _=>by
    have aa:(aV.toList.take s)[b]?=f u:=N
    have:=(q0 d).get b u aa N;grind)
   (λu X=>by grind) (λ_ _ _=>rfl))
  (aP:=g q F be av) (λi y I K=>by obtain⟨d,rfl⟩:=y4 I h K;exact E d) id
 exact wF
end
def eh(b:Nat)(e:an)(h:X):X->(Nat->Option Obj)->Prop:=λg a=>g=.pointer (f ⟨b,0,n⟩)/\a b=f (.cells #[h] e (0,0))/\∀d,d≠b->a d=n
section
variable {q:af P}
def aT.gn(a0:b3 P ac){o C}(d){e}(an:oS all J r=l)(u:r.op=.load o (.global C))(I:da d k=f (.K (eh C W aa)))(s:b0 ac o=f e)(ae:dU aa=l)(S:hq e [.c (.val aa)]=f (.R (.c (.val aa)))):
  aT q F all r J k (ax (.val aa)) k:=by
 intro b T ag E i av ai au aw O D K A;refine rz D K (j5 an _ _ _ ag) λh Y=>?_;have m:=E.rely Y;have aM:=ew I;have ao:d<c h.t:=by rw[m.len];grind
 have w:=bJ ao;generalize h.t[d]=L at w;obtain⟨af,⟨ah,x,aq⟩,H,Z,ar⟩:=m.box d _ L aM w;have y:=H C _ x;have G:C∈L.al:=(Z C).2 N
 have X:T.eval (.global C)=.pointer (f ⟨C,0,n⟩):=rfl;have M:bP k h [aa] [.c (.val aa)]:=⟨Rd.val ae,B⟩;obtain⟨R,V,Q⟩:=tJ (b:=h) (k:=k) (P:=P) (a0 o e s) (i:=C) (off:=0) (z:=[aa]) (ai:=[.c (.val aa)]) (ak:=.R (.c (.val aa))) (λU az t=>by
  simp only[aH,y]
  grind) M S
 refine⟨.value R,h,R,by simp[ab,u,X,Instr.loadAt,Instr.sureAddr,V],.inl a,⟨⟨k,k,m,m,.refl _ _⟩,?_⟩,A R h Q m Y.aT⟩;intro p g;have aj:p∈(loadVar o ⟨C,0,n⟩).events P h.a #[]:=by
  have ak:ab T.eval r=(do pure (.value (<-loadVar o ⟨C,0,n⟩))):=by simp[ab,u,X,Instr.loadAt,Instr.sureAddr]
  rw[ak]at g;simpa[V]using g
 obtain⟨U,t,rfl⟩:=pe (a0 o e s) (j:=1) (λU t=>⟨aa,by simp only[aH,y];grind⟩) (by have:=sh S;grind) p aj;exact qo (ca w) G
end
section
variable {q:af P}
def un{P}(i:af P)(h:Nat)(a:m ao)(g:bM)(b:m ar)(e:Nat->y):m y->m ao->Nat->Prop
 |_::o,k::j,d=>aT i h a k (en a g e d) b (e d) b/\un i h a g b e o j (d+1)
 |[],_,_=>True
 |_::_,[],_=>False
theorem un.get{all}{o:Nat->y}:∀{i:m y}{j:m ao}{h:Nat},un q F all J k o i j h->∀a e,j[a]?=f e->a<c i->aT q F all e (en all J o (h+a)) k (o (h+a)) k
 |[],_,_,_,a,e,_,b=>absurd b (iS _)
 |_::i,[],_,g,a,e,_,b=>g.elim
 |p::i,r::j,h,g,0,e,d,_=>by cases d;exact g.1
 |p::i,r::j,h,g,a+1,e,d,b=>by have:=un.get g.2 a e d N;grind
def g.gf(C:P.follows Departure.mixedOrders=l)(ah)(s){id}(u:lu aV.toList=l)(x:o_ aV.toList 0=l)(z:pd F aV.toList=l)(i:ay (c ah) (c aV.toList)=l)(e:vc aV.toList s (c ah) (c aV.toList-c ah)=l)(h:un q F aV.toList J k (λd=>ah.getD d .any) ah aV.toList 0)(r:g q F be (.aj aV.toList (aV.toList.drop (c ah))::av) .normal (oq aV.toList J λd=>ah.getD d .any) k):g q F be (.code (.region id aV l)::av) .normal J k:=by
 have i:=fA i;have:=b4.reg (q:=q) (F:=F) (J:=J) (k:=k) C (all:=aV.toList) (c ah) (λ_:Unit=>λd=>ah.getD d .any) (λ_ _=>k) (λ_ _=>True) () B a u x z i
  (λd b j L D A r o=>zn D (Bm (Cn e d b w) r o) A)
  (λt y _ _ d b j=>by grind)
  (λt y d E _ p m _ _ _=>by have b:=h.get d E p m;rw[cV]at b;exact b.tocI ⟨(),λ_ _=>rfl,B⟩ a a)
  (aP:=g q F be av) (λt y _ _=>r) id
 exact wF
end
section
variable {q:af P}
def p0{e:Type}(w:af P)(u:Nat)(k:fF)(t:m iv)(s:e->Prop)(r:e->bM)(p:e->m ar)(q:e->Nat)(x:Nat)(y:e):fF:=λo d h=>match o with
 |.normal=>∃i j,x<=j/\s i/\q i<q y/\iM d (r i)/\qB j (r i)=l/\∃a b,h=a++b/\c a=j/\(kr j a=l/\jX b=l)/\rf a (p i)
 |o=>g w u k t o d h
def g.hl{A:Type}(V:Nat)(z:A->Prop)(e:A->bM)(b_:A->m ar)(S:A->Nat)(h){cT}(y:i_ J (e h)=f Z)(au:U Z)(aG:jw k (b_ h)=f cT)(ao:U cT)(aC:c k=V)(H:z h)(round:∀h,z h->g q F (p0 q F be av z e b_ S V h) [.code s] .normal (e h) (b_ h)):g q F be (.code (.loop s)::av) .normal J k:=by
 intro ah aQ aw t X R I B b K;have ae:=jW aG ao;obtain⟨aM,M,_⟩:=ae ah t;refine xq (λaf d aF=>∃bD,z bD/\b1 F (b_ bD) aF (e bD) d/\bc (b_ bD) aF/\dg k ah (b_ bD) aF/\S bD=af) ?_ ?_ ⟨h,H,(aw.le (eO y au)).al ae t,aM,M.too4 t,a⟩
 .rintro j d aF ⟨bD,p,Q,C,O,ak⟩;exact Pm
 rintro af d aF ⟨bD,p,Q,C,O,rfl⟩ az;refine round bD p aF d Q C X (.inLoop s::R) I B b ?_;intro ak aN aj u E ag x r i;cases ak with
 |normal=>
  obtain⟨ai,aH,ab,aq,aE,aD,aO,o,T,rfl,aa,⟨G,an⟩,aJ⟩:=ag;have W:=r.drop N;obtain⟨aL,Y,aI⟩:=aJ _ W;have f3:=x.le aD;have ax:e_ u (u.cut (c o)):=⟨rfl,λ_ _ _ aB=>aB,λ_ _ _=>rfl,r.mem,λX b=>b.imp id λ⟨L,aP,b⟩=>⟨L,g4 aP,b⟩⟩
  refine .aO ax (az E (u.cut (c o)) (S ai) aE ⟨ai,aq,⟨f3.size,f3.defers.imp λ_ cY=>(cY.drop an).mono Y.ext,λaK=>aI _ _ ((f3.aK aK).drop (vz N))⟩,aL,?_,a⟩);exact((O.trans i).drop w).trans (Y.too4 W)
 |_=>exact kP.cons (λ_ _=>rfl) D (K _ _ _ _ _ ag x r (O.trans i))
def g.fu{e:Type}{p}{o:e->Prop}{a:e->bM}{d:e->m ar}{h:e->Nat}{r}{u}(j)(b){cT}(i:p<=j)(y:i_ J (a b)=f Z)(A:U Z)(w:qB j (a b)=l)(s:vR j k=l)(t:jw (k.take j) (d b)=f cT)(B:U cT)(z:kr j (k.take j)=l)(C:o b)(x:h b<h r):
  g q F (p0 q F be u o a d h p r) [] .normal J k:=
 ⟨b,j,i,C,x,eO y A,w,k.take j,k.drop j,(uM j k).symm,by grind[Nat.le_of_ble_eq_true,y6],⟨z,(y6 s).2⟩,jW t B⟩
def g.fG{r:Type}{s}{j:r->Prop}{e:r->bM}{h:r->m ar}{o:r->Nat}{p}{id}{x i y}(t:i4 id x=n)(u:i4 id i=f y)(z:g q F be y .normal J k):
  g q F (p0 q F be i j e h o s p) (.code (.exit id)::x) .normal J k:=
 b4.mono (g.bs (Q:=λa b=>p0 q F be i j e h o s p .normal a b) t u z) λd a b A=>by
  have key:∀w d,g q F (λd a b=>match d with
    |.normal=>p0 q F be i j e h o s p .normal a b
    |d=>g q F be i d a b) w d a b->g q F (p0 q F be i j e h o s p) w d a b:=by
   have d:(λd a b=>match d with
    |.normal=>p0 q F be i j e h o s p .normal a b
    |d=>g q F be i d a b)=p0 q F be i j e h o s p:=by funext d a b;cases d<;>rfl
   grind
  exact key _ _ A
end
def db(d:bM)(a:m Nat):bM:=a.map λb=>(b,look d b)
section
variable {q:af P}
def g.dH{h:Type}(j)(aY)(e:h->Prop)(b:h->bM)(d:h->m ar)(o:h->Nat)(a){cT}(r:i_ J (db J aY++b a)=f Z)(t:U Z)(p:jw k (d a)=f cT)(u:U cT)(i:c k=j)(w:e a)(round:∀a,e a->g q F (ml q F be av e (λa=>db J aY++b a) d o j a) [.code s] .normal (db J aY++b a) (d a)):g q F be (.code (.loop s)::av) .normal J k:=
 .aH j e (λa=>db J aY++b a) d o a r t p u i w round
end
section
variable {q:af P}{E:Nat->y}{ak:Bool->Bool->Bool->Bool->m ar}{f1 f2 f3 f4:Nat}
abbrev mD(g:Bool->Bool->Bool->Bool->m ar)(a b d e:Nat):(Nat->Bool)->m ar:=λy=>g (y a) (y b) (y d) (y e)
theorem N2{y:Nat->Bool}(a:ad u e=v):dV e y u=y u:=by simp only[dV,a]
theorem aeC{y:Nat->Bool}:dV e y e=l:=Al
def bV.jJ(h:ad f1 e=v)(i:ad f2 e=v)(k:ad f3 e=v)(j:ad f4 e=v)(m:∀a b d g,aT q F all r (en all J E e) (ak a b d g) (E e) (ak a b d g)):bV q F all J E (mD ak f1 f2 f3 f4) e r:=by intro y _ _;grind[N2]
def bV.jK(a0:b3 P ac)(lV:a' q CT)(cx:U cp)(t:∀x i s O,iI ac CT [] all (en all J E e) (ak x i s O) r=f (E e,n,cp):=by intro x i s O;cases x<;>cases i<;>cases s<;>cases O<;>rfl)(cY:ad f1 e=v:=by rfl)(dC:ad f2 e=v:=by rfl)(C:ad f3 e=v:=by rfl)(aj:ad f4 e=v:=by rfl):bV q F all J E (mD ak f1 f2 f3 f4) e r:=.jJ cY dC C aj λx i s O=>aT.eval a0 lV (t x i s O) cx
def bV.aU(a0:b3 P ac:=by exact bb)(lV:a' q CT:=by first|assumption|exact a'.nil)(t:∀x i s O,iI ac CT [] all (en all J E e) (ak x i s O) r=f (E e,n,[]):=by intro x i s O;cases x<;>cases i<;>cases s<;>cases O<;>rfl)(cY:ad f1 e=v:=by rfl)(dC:ad f2 e=v:=by rfl)(C:ad f3 e=v:=by rfl)(aj:ad f4 e=v:=by rfl):bV q F all J E (mD ak f1 f2 f3 f4) e r:=.jK (cp:=[]) a0 lV B t cY dC C aj
def bV.eb(a:ad f2 f1=v)(g:ad f3 f1=v)(b:ad f4 f1=v)(e:hx all f2 f1=l)(h:hx all f3 f1=l)(d:hx all f4 f1=l)(i:aT q F all r (en all J E f1) (ak v v v v) (E f1) (ak l v v v)):bV q F all J E (mD ak f1 f2 f3 f4) f1 r:=Ak
def bV.eT(a:ad f1 f2=v)(g:ad f3 f2=v)(d:ad f4 f2=v)(b:hx all f2 f1=l)(h:hx all f3 f2=l)(e:hx all f4 f2=l)(i:aT q F all r (en all J E f2) (ak l v v v) (E f2) (ak l l v v)):bV q F all J E (mD ak f1 f2 f3 f4) f2 r:=Ak
def bV.eU(a:ad f1 f3=v)(b:ad f2 f3=v)(g:ad f4 f3=v)(h:hx all f3 f1=l)(e:hx all f3 f2=l)(d:hx all f4 f3=l)(i:aT q F all r (en all J E f3) (ak l l v v) (E f3) (ak l l l v)):bV q F all J E (mD ak f1 f2 f3 f4) f3 r:=Ak
def bV.eV(a:ad f1 f4=v)(b:ad f2 f4=v)(g:ad f3 f4=v)(h:hx all f4 f1=l)(e:hx all f4 f2=l)(d:hx all f4 f3=l)(i:aT q F all r (en all J E f4) (ak l l l v) (E f4) (ak l l l l)):bV q F all J E (mD ak f1 f2 f3 f4) f4 r:=Ak
end
section
variable {ac:m (Nat×cq)}
def a1.jT(a0:b3 P ac){T p U X:ae}(af:r.op=.slice o T (f p) (f U) (f X)){G a5}(ah:b0 ac o=f G)(L:G.desc=.slice W)(ai:b0 ac W=f a5){eU}{q d m}{e u A}(an:∀ag s,bx k ag s (η T)->Rd ag.D s (.B eU a5.size j V))(aj:η p=ax (.int q e))(ak:η U=ax (.int d u))(aP:η X=ax (.int m A))(Z:0<=e)(aG:e<=u)(av:u<=A)(aw:A<=j):
  a1 P r η k (ax (.B v a5.size (u.toNat-e.toNat) (fJ e.toNat V))) k:=by
 refine .aR λb I az C=>?_;have S:=an b _ (C T);have get:∀h R s,η h=ax (.int R s)->I h=.int R s:=λh R s y=>by have t:=C h;rw[y]at t;replace t:=b8 t;generalize I h=aC at t;cases t;rfl
 have Q:=get p q e aj;have M:=get U d u ak;have Y:=get X m A aP;obtain⟨aa,g,z,H,aE,aF,aH,a,aB⟩:=S.b1;rw[H]at S;have K:=(a0 o G ah).run_underlying (p:=b.a);rw[L]at K;have em:((A.toNat:Nat):Int)=A:=rn w;have ar:((u.toNat:Nat):Int)=u:=rn w;have x:(aS l j g (f (.int q e)) (f (.int d u)) (f (.int m A))).run P b.a=.ok (e.toNat,u.toNat,A.toNat) b.a:=by simp[aS,run_sliceBound (P:=P) b.a m A g _ w w,run_sliceBound (P:=P) b.a d u A.toNat _ w w,run_sliceBound (P:=P) b.a q e u.toNat _ Z w]
 have ao:(aS l j g (f (.int q e)) (f (.int d u)) (f (.int m A))).events P b.a #[]=#[]:=by simp[aS,run_sliceBound (P:=P) b.a m A g _ w w,run_sliceBound (P:=P) b.a d u A.toNat _ w w,lk (P:=P) b.a m A g _ w w,lk (P:=P) b.a d u A.toNat _ w w,lk (P:=P) b.a q e u.toNat _ Z w]
 refine⟨.slice (if A.toNat=e.toNat then aa else aa.map (·.add (e.toNat*a5.size))) (u.toNat-e.toNat) (A.toNat-e.toNat),?_,?_,by simp[ab,af,H,Q,M,Y,Instr.sliceAt,K,Instr.slice,x,ao]⟩
 .simp[ab,af,H,Q,M,Y,Instr.sliceAt,K,Instr.slice,x,(a0 W a5 ai).bc]
 cases S with
 |B aq F au _ _ _ O N B E=>
  refine Rd.B aq (F+e.toNat*a5.size) (λh u=>au (e.toNat+h) u) w w D (λh y=>O _ w) (λaD=>?_) (λh y u J i=>?_) (λh y u J i=>E _ w u J i)
  .rw[bj w,N w];simp[g6]
  have:=B (e.toNat+h) w u J i;grind
end
def ji(i:X)(k:m Int):X->(Nat->Option Obj)->Prop:=λo e=>o=i/\∃j a h,i=.map (f j)/\(∀g,e g=if g=j then f (.map a h)else n)/\MapKept.Stamped a h /\
 (∀d∈a.toList,∃b,d.key=.int .i64 b/\d.val=.bool l/\a8 .i64 b)/\∀b,b∈k↔∃d∈a.toList,d.key=.int .i64 b
structure SI(k:m ar)(b:a6)(i:Nat)(aj:X)(d:m Int)(L:Loc)(a7:Nat)(V:Array MapEntry)(s:Nat):Prop where
 b4:b.t[i]?=f L
 v:L.v=aj
 cm:aj=.map (f a7)
 a_:MapKept.Stamped V s
 cw:∀ak∈V.toList,∃j,ak.key=.int .i64 j/\ak.val=.bool l/\a8 .i64 j
 mem:∀j,j∈d↔∃ak∈V.toList,ak.key=.int .i64 j
 heap:b.a.heap[a7]?=f (.map V s)
 al:∀i,i∈L.al↔i=a7
def ji.open{aj}{d}(bR:bc k b)(o:k[i]?=f (.K (ji aj d))):∃L g a h,SI k b i aj d L g a h:=by have e:i<c b.t:=h_;obtain⟨q,⟨j,g,a,h,m,w,r,t,p⟩,s,u,_⟩:=bR.box i _ _ o (bJ e);exact⟨_,g,a,h,bJ e,j,m,r,t,p,s g _ N,λi=>by grind⟩
section
variable {ac T bk:an}{E bD ef:ae}{aj:X}{d:m Int}{j:Int}
def KJ{b:Array MapEntry}(g:∀a∈b.toList,∃d,a.key=.int .i64 d/\a.val=.bool l/\a8 .i64 d):∀a∈b.toList,MapKept.IsKey (.int .i64) a.key:=λa e=>by obtain⟨d,h,_⟩:=g a e;exact hK
def Em{aj}{a}(e:bx k b aa a)(d:a=cM aj):aa=aj:=by subst d;exact Rd.bd e
def Mp{j}{a}(e:bx k b aa a)(d:a=ax (.int .i64 j)):aa=.int .i64 j/\a8 .i64 j:=by subst d;have:=b8 e;generalize aa=g at this;cases this;exact bv
def a1.jN(w:r.op=.lookup ac E bD v)(a0:P.underlying ac=f (.map T bk))(e:P.underlying T=f (.int .i64))(S:∀J,(zeroValue bk).run P J=.ok (.bool v) J)(C:k[i]?=f (.K (ji aj d)))(R:η E=cM aj)(y:η bD=ax (.int .i64 j)):a1 P r η k (ax (.bool (d.contains j))) k:=by
 refine a1.dv λo Y B q=>?_;obtain⟨L,s,z,aa,b⟩:=ji.open B C;have p:=(Em (q E) R).trans b.cm;obtain⟨Q,G⟩:=Mp (q bD) y;obtain⟨U,x⟩:=Kc (O:=.int .i64) (h:=.int .i64 j) rfl (KJ b.cw);have A:ie o ⟨.obj s,v,v⟩:=mB (ca b.b4) ((b.al s).2 a);have key:∃g:Bool,(Instr.lookup ac (.map (f s)) (.int .i64 j) v).run P o.a=.ok (.bool g) o.a/\(Instr.lookup ac (.map (f s)) (.int .i64 j) v).events P o.a #[]=#[⟨.obj s,v,v⟩]/\g=d.contains j:=by
  cases U with
  |none=>
   obtain⟨m,t⟩:=K1 (ok:=v) a0 e b.heap x (λ_=>S o.a)
   exact⟨v,m,t,by
    symm;rw[<-p9,A0,b.mem]
    rintro⟨u,M,e⟩;exact x.c5 a u M e⟩
  |some F=>
   obtain⟨X,g⟩:=F;obtain⟨m,t⟩:=K1 (ok:=v) (ef:=I) a0 e b.heap x (λw=>by cases w);obtain⟨u,V,W,Z⟩:=x.gI X g rfl;have D:u∈z.toList:=N;obtain⟨_,_,H,_⟩:=b.cw u D;exact⟨l,m.trans (show Result.ok g o.a=_ by grind),t,by symm;rw[A0,b.mem];grind⟩
 obtain⟨g,m,t,K⟩:=key;refine⟨.bool g,?_,by rw[<-K];exact Rd.bool,?_⟩
 .simp only[ab,w,p,Q,cK,m,c_,d']
 simp only[ab,w,p,Q,aC,m,t,aE,Sem.events_pure];exact .R A
def a1.jP(ae:r.op=.mapUpdate ac E bD ef)(a0:P.underlying ac=f (.map T bk))(C:P.underlying T=f (.int .i64))(F:k[i]?=f (.K (ji aj d)))(ak:η E=cM aj)(ai:η bD=ax (.int .i64 j))(ah:η ef=ax (.bool l)):a1 P r η k .any (k.set i (.K (ji aj (d++[j])))):=by
 intro p J B u;obtain⟨L,m,q,aa,e⟩:=ji.open B F;have z:=(Em (u E) ak).trans e.cm;obtain⟨Z,aw⟩:=Mp (u bD) ai;have Y:J ef=.bool l:=by have:=u ef;rw[ah]at this;have:=b8 this;generalize J ef=X at this;cases this;rfl
 obtain⟨ao,K⟩:=Kc (O:=.int .i64) (h:=.int .i64 j) rfl (KJ e.cw);have x:∀X,ie p ⟨.obj m,X,v⟩:=λX=>mB (ca e.b4) ((e.al m).2 a);have G:=(jk.1 e.heap).1;have key:∃b o,(Instr.mapUpdate ac (.map (f m)) (.int .i64 j) (.bool l)).run P p.a=.ok () {p.a with heap:=p.a.heap.setIfInBounds m (.map b o)}/\(Instr.mapUpdate ac (.map (f m)) (.int .i64 j) (.bool l)).events P p.a #[]=#[⟨.obj m,v,v⟩,⟨.obj m,l,v⟩] /\
   MapKept.Stamped b o/\(∀g∈b.toList,∃j,g.key=.int .i64 j/\g.val=.bool l/\a8 .i64 j)/\∀R,R∈d++[j]↔∃g∈b.toList,g.key=.int .i64 R:=by
  cases ao with
  |none=>
   obtain⟨w,I⟩:=N3 (E:=.bool l) a0 C e.heap K;refine⟨_,_,w,I,MapKept.stamped_push e.a_ (K.c5 a),λg Q=>?_,λR=>?_⟩
   .rw[Array.toList_push,fG]at Q;rcases Q with Q|Q
    .exact e.cw g Q
    grind
   rw[fG,e.mem,Array.toList_push];constructor
   .rintro(⟨g,t,A⟩|t)
    .grind
    simp_all
   grind
  |some W=>
   obtain⟨V,aq⟩:=W;obtain⟨g,t,A,av⟩:=K.gI V aq rfl;have U:g∈q.toList:=N;obtain⟨_,_,ag,_⟩:=e.cw g U;have ar:q.modify V (λg=>{key:=.int .i64 j,val:=.bool l,born:=g.born})=q:=by
    apply Array.ext_getElem?;intro af;rw[A1];split
    .rename_i bp;subst bp;rw[t,<-A,<-ag];rfl
    simp
   obtain⟨w,I⟩:=N3 (E:=.bool l) a0 C e.heap K;refine⟨q,aa,w.trans (show Result.ok () {p.a with heap:=p.a.heap.setIfInBounds m (.map (q.modify V λg=>{key:=.int .i64 j,val:=.bool l,born:=g.born}) aa)}=_ by grind),I,e.a_,e.cw,λR=>?_⟩;rw[fG,e.mem];constructor
   .rintro(y|y)
    .exact y
    grind
   grind
 obtain⟨b,o,w,I,an,H,aP⟩:=key;have M:=B.cd (j_:=ji aj (d++[j])) (cv:=L) (bi:={p.a with heap:=p.a.heap.setIfInBounds m (.map b o)}) F e.b4 rfl D (λi _ s=>by show(p.a.heap.setIfInBounds m _)[i]?=_;rw[sL (by rintro rfl;exact s ((e.al m).2 rfl))]) (λi s=>.inl s)
  ⟨λi=>if i=m then f (.map b o)else n,⟨e.v,m,b,o,e.cm,λ_=>rfl,an,H,aP⟩,λi au s=>by grind,λi=>by rw[e.al];by_cases g:i=m<;>simp[g]⟩ a a a
 have S:p.t.set i L=p.t:=by
  apply qa;intro af;by_cases g:i=af
  .subst g;rw[iy (cP.1 e.b4).1,e.b4]
  grind
 rw[S]at M;refine⟨.skip,_,?_,a,M.1,M.2,?_⟩
 .simp only[ab,ae,z,Z,Y,cK,w,c_,d']
 simp only[ab,ae,z,Z,Y,aC,w,I,aE,Sem.events_pure];exact .fj (x _) (x _)
end
section
variable {q:af P}{ac:an}
def g.hP(p:r.op=.makeMap ac n)(u:r.guard=n)(w:ft F r.dst=l)(x:∀j,g q F be (.aj all bq::av) .normal (gi r.dst (cM j) J) (k++[.K (ji j [])])):g q F be (.aj all (r::bq)::av) .normal J k:=by
 refine g.cD (ι:=X) (λj=>cM j) (λj=>k++[.K (ji j [])]) u w (λb z D e=>?_) x;let bi:au:={b.a with heap:=b.a.heap.push (.map #[] 0)}
 have A:bi.heap[b.a.heap.size]?=f (.map #[] 0):=N;have B:bi.heap.size=b.a.heap.size+1:=N;obtain⟨t,s⟩:=e.cX (cl:=b.D) (bi:=bi) N (λh d=>by grind) (λ_ _ _=>rfl) (λh d r y i=>by have:=e.block i;omega) rfl rfl rfl;obtain⟨m,t2⟩:=t.b0 s rfl e (bT:=.K (ji (.map (f b.a.heap.size)) [])) (L:=⟨.map (f b.a.heap.size),[b.a.heap.size]⟩)
  ⟨λh=>if h=b.a.heap.size then f (.map #[] 0)else n,⟨rfl,_,#[],0,rfl,λ_=>rfl,MapKept.stamped_empty 0,λo E=>by grind,λC=>by simp⟩,λh r d=>by
   grind,λh=>by by_cases o:h=b.a.heap.size<;>simp[o],λh d r=>by
   simp at d;subst d;show b.D _ _=n;cases i:b.D b.a.heap.size r with
   |none=>rfl
   |some y=>have:=e.block i;omega⟩ (λh d=>by grind)
 refine⟨.map (f b.a.heap.size),.value (.map (f b.a.heap.size)),_,.map (f b.a.heap.size),?_,.inl a,Rd.val a,m,t2,?_⟩
 .simp[ab,p,Instr.makeMap,run_newObj,bi]
 simp[ab,p,Instr.makeMap];exact .nil
end
section
variable {ac:m (Nat×cq)}
def a1.hQ(a0:b3 P ac){E p F:ae}(aa:r.op=.slice o E (f p) (f F) n){H a5}(ak:b0 ac o=f H)(ao:H.desc=.slice W)(au:b0 ac W=f a5){C h T}{t s}{e u}(az:η E=cE d (.B C h T j))(O:a5.size=h){aP R}(B:k[d]?=f (.q aP R C V))(av:η p=ax (.int t e))(aw:η F=ax (.int s u))(aB:0<=e)(aC:e<=u)(aD:T+u<=C):a1 P r η k (cE d (.B C h (T+e.toNat) (u.toNat-e.toNat))) k:=by
 subst O;refine .aR λg q N m=>?_;have aj:=m E;rw[az]at aj;have ai:=aj;change cB k g (q E) (.O d _)at ai;obtain⟨S,⟨Z,I,b,Y,X,af,aJ,an,U,G⟩,y,ag⟩:=ai;have aI:C<=Y:=by
  obtain⟨L,ar,Q⟩:=(ag _ _ _ _ B).2 rfl;rcases N.box d _ L B ar with⟨rfl,rfl⟩|⟨i,hf,z,aG,rfl,_,_,aq,_⟩
  .exact g5 _
  rw[U]at Q;cases Q;exact aq
 have D:=m p;rw[av]at D;replace D:=b8 D;generalize ah:q p=aE at D;cases D;have x:=m F;rw[aw]at x;replace x:=b8 x;generalize M:q F=aF at x;cases x;have J:=(a0 o H ak).run_underlying (p:=g.a);rw[ao]at J;have A:(aS l j b (f (.int t e)) (f (.int s u)) n).run P g.a=.ok (e.toNat,u.toNat,b) g.a:=by simp[aS,run_sliceBound (P:=P) g.a s u b _ w w,run_sliceBound (P:=P) g.a t e u.toNat _ w w]
 have K:(aS l j b (f (.int t e)) (f (.int s u)) n).events P g.a #[]=#[]:=by
  simp[aS,run_sliceBound (P:=P) g.a s u b _ w w,run_sliceBound (P:=P) g.a t e u.toNat _ w w,
   lk (P:=P) g.a s u b _ w w,lk (P:=P) g.a t e u.toNat _ w w]
 refine⟨.slice (if b=e.toNat then Z else Z.map (·.add (e.toNat*a5.size))) (u.toNat-e.toNat) (b-e.toNat),?_,⟨S,⟨_,I,_,Y,a,by omega,by omega,an,U,λaH=>?_⟩,y,ag⟩,by simp[ab,aa,X,ah,M,Instr.sliceAt,J,Instr.slice,A,K]⟩
 .simp[ab,aa,X,ah,M,Instr.sliceAt,J,Instr.slice,A,(a0 W a5 au).bc]
 obtain⟨i,rfl,rfl⟩:=G w;exact Rg
end
section
open Go.ChangeMaps (setBlock)
section
def Xt(p)(ty)(b i d m)(seen)(V)(clock)(s:p.heap[b]?=f (.mapIter (f i) d seen m))(u:p.heap[i]?=f (.map V clock))(A:∀j∈V.toList,j.born<d)(D:d<=m):
    ∀g∈(Instr.next (.pointer (f ⟨b,0,n⟩)) v ty).events P p #[],g.sync=v/\(g.loc=.obj b∨g.loc=.obj i):=by
  have J:(getObj b).run P p=.ok (.mapIter (f i) d seen m) p:=by simp[getObj,Sem.run,s]
  have F:(getObj i).run P p=.ok (.map V clock) p:=by simp[getObj,Sem.run,u]
  have Q:∀V,(getObj b).events P p V=V.push ⟨.obj b,v,v⟩:=λV=>by simp only[getObj,Sem.events,Sem.runT,s];rfl
  have I:∀V,(getObj i).events P p V=V.push ⟨.obj i,v,v⟩:=λV=>by simp only[getObj,Sem.events,Sem.runT,u];rfl
  have K:∀w1 q h,w1.heap[b]?=f (.mapIter (f i) d seen m)->(setObj b (.mapIter (f i) d q clock)).events P w1 h=h.push ⟨.obj b,l,v⟩:=λw1 q h e=>by simp[setObj,Sem.events,Sem.runT,e];rfl
  have z:∀w1 o,w1.heap[b]?=f (.mapIter (f i) d seen m)->∃w2,(setObj b o).run P w1=.ok () w2:=λw1 o e=>⟨{w1 with heap:=w1.heap.setIfInBounds b o},by simp[setObj,Sem.run,e]⟩
  simp only[Instr.next,aC,J,F,Q,I,aE,next_test_false seen V d m A D,kg,dn];generalize y:((if(Array.filter (λj=>decide (j.born<d)) (Array.filter (λg=>!seen.contains g.born) V)).isEmpty=l then #[n]else #[])++Array.map f (Array.filter (λj=>decide (j.born<d)) (Array.filter (λg=>!seen.contains g.born) V)++Array.filter (λj=>decide (j.born≥d)) (Array.filter (λg=>!seen.contains g.born) V)))=L;have M:∃r w1,(w1=p∨w1=p.drew)/\(choose (Question.mapNext L.size)).run P p=.ok r w1/\∀V,(choose (Question.mapNext L.size)).events P p V=V:=by
    by_cases w:L.size<=1
    · exact⟨0,p,Or.inl a,by simp[choose,Sem.run,Question.forced,w],λV=>by simp⟩
    · exact⟨_,p.drew,Or.inr a,by simp only[choose,Sem.run,Question.forced,bw,w,dn,Question.cut];rfl,λV=>by simp⟩
  obtain⟨r,w1,E,B,C⟩:=M;have t:w1.heap[b]?=f (.mapIter (f i) d seen m):=by rcases E with rfl|rfl<;>exact s
  simp only[B,C,aE];intro g k;have fin:g∈(#[⟨.obj b,v,v⟩,⟨.obj i,v,v⟩,⟨.obj b,l,v⟩]:Array aN):=by
    cases x:L[r]? with
    |none=>rw[x]at k;simp[stuck,Sem.events,Sem.runT]at k;rcases k with e|e<;>simp[e]
    |some o=>
      rw[x]at k;cases o with
      |none=>simp at k;rcases k with e|e<;>simp[e]
      |some j=>
        obtain⟨w2,N⟩:=z w1 (.mapIter (f i) d (seen.push j.born) clock) t;simp[K w1 _ _ t]at k;rcases k with e|e|e<;>simp[e]
  simp at fin;rcases fin with rfl|rfl|rfl<;>simp
def Vu(p)(a i d)(seen:Array Nat)(V)(clock)(b)(e:p.heap[a]?=f (.mapIter (f i) d (seen.push b.born) clock))(g:p.heap[i]?=f (.map V clock))(q:b∈V.toList)(r:(V.toList.map (·.born)).Nodup):
    (Instr.entry (.pointer (f ⟨a,0,n⟩))).events P p #[]=#[⟨.obj a,v,v⟩,⟨.obj i,v,v⟩]:=by
  have h:V.find? (·.born==b.born)=f b:=by rw[<-Array.find?_toList];grind[find_born]
  have m:(getObj a).run P p=.ok (.mapIter (f i) d (seen.push b.born) clock) p:=by simp[getObj,Sem.run,e]
  have j:(getObj i).run P p=.ok (.map V clock) p:=by simp[getObj,Sem.run,g]
  have o:∀V,(getObj a).events P p V=V.push ⟨.obj a,v,v⟩:=λV=>by simp only[getObj,Sem.events,Sem.runT,e];rfl
  have k:∀V,(getObj i).events P p V=V.push ⟨.obj i,v,v⟩:=λV=>by simp only[getObj,Sem.events,Sem.runT,g];rfl
  simp only[Instr.entry,aC,m,j,o,k,aE,Array.back?_push,iz,kg,dn,h];rfl
def k7(h e:Nat)(b:Array Nat):X->(Nat->Option Obj)->Prop:=λi a=>∃d:Nat,i=.pointer (f ⟨d,0,n⟩)/\a=λg=>if g=d then f (.mapIter (f h) e b e)else n
def ur(H:X->(Nat->Option Obj)->Prop)(e:Nat)(b:Array MapEntry)(d:Nat):Prop:=∀g a,H g a->a e=f (.map b d)
variable {q:af P}
def bc.ei(bR:bc k b)(aM:k[d]?=f (.K H)){g}{V}{s}(h:ur H g V s):b.a.heap[g]?=f (.map V s)/\∃L∈b.t,g∈L.al:=by have e:d<c b.t:=h_;obtain⟨i,a,j,m,o⟩:=bR.box d _ b.t[d] aM (bJ e);have:=h _ _ a;grind
def bc.hd(bR:bc k b){j s}{dA}(aM:k[d]?=f (.K (k7 j s dA))):∃a:Nat,b.t[d]?=f ⟨.pointer (f ⟨a,0,n⟩),((b.t[d]?).map (·.al)).getD []⟩/\b.a.heap[a]?=f (.mapIter (f j) s dA s)/\∀L,b.t[d]?=f L->∀e,e∈L.al↔e=a:=by
  have h:d<c b.t:=h_;have i:=bJ h;obtain⟨m,⟨a,o,p⟩,g,t,r⟩:=bR.box d _ b.t[d] aM i;refine⟨a,?_,g a _ N,λL q e=>?_⟩
  · rw[i];simp[<-o]
  grind
def g.range{o N D}{u A}(j:r.op=.range o (.tmp N))(ag:r.dst=f D)(W:r.guard=n)(G:ft F r.dst=l)(E:P.underlying o=f (.map u A)){a7}(R:∀b m,b1 F k b J m->bc k b->m.eval (.tmp N)=.map (f a7)){qH:Nat}{H:X->(Nat->Option Obj)->Prop}{V}{s}(aM:k[qH]?=f (.K H))(O:ur H a7 V s)(ai:g q F be (.aj all bq::av) .normal ((D,.n (.R (.aP (c k))))::J) (k++[.K (k7 a7 s #[])])):g q F be (.aj all (r::bq)::av) .normal J k:=by
  refine g.cD (ι:=Unit) (λ_=>.n (.R (.aP (c k)))) (λ_=>k++[.K (k7 a7 s #[])]) W G ?_ λ_=>by exact hK
  intro b m M h;have I:=R b m M h;obtain⟨x,L,af,T⟩:=h.ei aM O;have B:=run_range_map b.a o u A a7 V s E x;have C:(Instr.range o (.map (f a7))).events P b.a #[]=#[⟨.obj a7,v,v⟩]:=by
    have Z:∀V,(getObj a7).events P b.a V=V.push ⟨.obj a7,v,v⟩:=λV=>by simp only[getObj,Sem.events,Sem.runT,x];rfl
    have ae:∀r K V,(newObj r).events P K V=V:=λr K V=>by simp
    simp[Instr.range,run_underlying E,MapKept.run_getObj_map x,Z,ae]
  have ah:∀d,b.a.heap.size<=d->∀r,b.D d r=n:=λd e r=>by
    cases i:b.D d r with
    |none=>rfl
    |some aa=>have:=h.block i;omega
  let bi:au:=b.a.alloc (.mapIter (f a7) s #[] s);have Q:bi.heap.size=b.a.heap.size+1:=by show(b.a.heap.push _).size=_;simp
  have aj:bi.heap[b.a.heap.size]?=f (.mapIter (f a7) s #[] s):=lZ _ _;obtain⟨y,Y⟩:=h.cX (cl:=b.D) (bi:=bi) w (λd e=>i6 _ _ e) (λ_ _ _=>rfl) (λd e r aa i=>by grind) rfl rfl rfl;obtain⟨p,t⟩:=y.b0 (bT:=.K (k7 a7 s #[])) (L:=⟨.pointer (f ⟨b.a.heap.size,0,n⟩),[b.a.heap.size]⟩) Y rfl h
    ⟨λd=>if d=b.a.heap.size then f (.mapIter (f a7) s #[] s)else n,⟨_,rfl,rfl⟩,λd r e=>by grind,λd=>by by_cases S:d=b.a.heap.size<;>simp[S],λd e r=>by grind⟩
    (λd e=>by grind)
  refine⟨(),.value (.pointer (f ⟨b.a.heap.size,0,n⟩)),_,.pointer (f ⟨b.a.heap.size,0,n⟩),?_,.inl a,⟨λbT z=>?_,⟨.pointer (f ⟨b.a.heap.size,0,n⟩),[b.a.heap.size]⟩,?_,a,a⟩,p,t,?_⟩
  · simp[ab,j,I,cK,B,c_,d'];rfl
  · rw[ht (bC _)]at z;simp at z;subst z;rfl
  · show(b.t++_)[c k]?=_
    rw[<-h.len,ht (bC _)];simp
  · exact yk (dw.of_eq C (.R (mB af T))) (by simp[ab,j,I])
def b1.j8{d}(g:look J d=cM aa):∀b a,b1 F k b J a->bc k b->a.eval (.tmp d)=aa:=λb a e _=>by have:=e.aK d;rw[g]at this;exact Rd.bd this
inductive sv (V:Array MapEntry) (dA:Array Nat)
  |over (t:∀ak∈V.toList,ak.born∈dA)
  |R (ak:MapEntry) (t:ak∈V.toList) (ju:ak.born∉dA)
def sv.db{V}{dA}:sv V dA->y
  |.over _=>.T [.R (.c (.bool v))]
  |.R a _ _=>.T [.R (.c (.bool l)),.R (.v a.key),.R (.v a.val)]
def sv.a1{V}{dA}:sv V dA->Array Nat
  |.over _=>dA
  |.R a _ _=>dA.push a.born
def g.next{A W}{ty}(cx:r.op=.next (.tmp A) v)(aD:r.type=ty)(aa:r.dst=f W)(ae:r.guard=n)(K:ft F r.dst=l){qH kq:Nat}(ah:look J A=.n (.R (.aP kq))){a7 s}{dA}(T:k[kq]?=f (.K (k7 a7 s dA))){H:X->(Nat->Option Obj)->Prop}{V}(aM:k[qH]?=f (.K H))(ag:ur H a7 V s)(Z:MapKept.Stamped V s)(ax:∀b∈V.toList,dU b.key=l/\dU b.val=l)(an:∀t:sv V dA,g q F be (.aj all bq::av) .normal ((W,t.db)::J) (k.set kq (.K (k7 a7 s t.a1)))):g q F be (.aj all (r::bq)::av) .normal J k:=by
  refine g.cD (ι:=sv V dA) (λt=>t.db) (λt=>k.set kq (.K (k7 a7 s t.a1))) ae K ?_ λt=>by rw[aa];exact an t
  intro h aj af p;obtain⟨e,j,x,G⟩:=p.hd T;have u:aj.eval (.tmp A)=.pointer (f ⟨e,0,n⟩):=by
    have:=af.aK A;rw[ah]at this;obtain⟨_,L,S,u,_⟩:=(show cB _ h _ (.aP kq)from this)
    rw[j]at S;cases S;exact u
  obtain⟨U,L,S,aC⟩:=p.ei aM ag;have au:=ca j;have aw:=(G _ j e).2 a;have Y:dw h ((Instr.next (.pointer (f ⟨e,0,n⟩)) v r.type).events P h.a #[]):=by
    intro b o;obtain⟨ar,O|O⟩:=Xt h.a r.type e a7 s s dA V s x U Z.1 (bC _) b o
    · obtain⟨M,wr,aP⟩:=b;grind[mB]
    · obtain⟨M,wr,aP⟩:=b;grind[mB]
  have ao:k.set kq (.K (k7 a7 s dA))=k:=m6;rcases run_next_at (P:=P) h.a r.type e a7 s s dA V s x U Z.1 (bC _)with⟨ai,C⟩|⟨b,o,w1,Q,C⟩
  · have aq:∀b∈V.toList,b.born∈dA:=by intro b o;have:=Array.eq_empty_of_size_eq_zero ai;unfold leftOf at this;grind[Array.filter_eq_empty_iff]
    refine⟨.over aq,.value (.tuple #[.bool v]),h,_,?_,.inl a,⟨[.bool v],a,Rd.bool,B⟩,?_,?_,?_⟩
    · simp[ab,cx,u,cK,C,c_,d']
    · show bc (k.set kq (.K (k7 a7 s dA))) h
      grind
    · show cO k h (k.set kq (.K (k7 a7 s dA))) h
      rw[ao];exact .refl _ _
    · exact yk Y OO
  · have I:b∈V.toList/\b.born∉dA:=by simp[leftOf]at o;grind
    have z:w1.heap=h.a.heap/\w1.os=h.a.os/\w1.tape=h.a.tape/\w1.output=h.a.output:=by rcases Q with rfl|rfl<;>exact⟨rfl,rfl,rfl,rfl⟩
    have az:e<h.a.heap.size:=p.lt _ au e aw;have y:e<w1.heap.size:=N;obtain⟨R,t2⟩:=p.cd (d:=kq) (j_:=k7 a7 s (dA.push b.born)) (cv:=⟨.pointer (f ⟨e,0,n⟩),((h.t[kq]?).map (·.al)).getD []⟩) (bi:=setBlock w1 e (.mapIter (f a7) s (dA.push b.born) s)) T j rfl
      (by simp[setBlock,z.1]) (λi m ak=>by
        have aB:e≠i:=N;simp[setBlock]
        grind) (λi m=>.inl m)
      ⟨λi=>if i=e then f (.mapIter (f a7) s (dA.push b.born) s)else n,⟨e,rfl,rfl⟩,λi r m=>by
        by_cases w:i=e
        · subst w
          simp[dx]at m;cases m;simp[setBlock];grind
        grind,λi=>by
        rw[G _ j i]
        by_cases w:i=e<;>simp[w]⟩ (by simp[setBlock,z.2.1]) (by simp[setBlock,z.2.2.1]) (by simp[setBlock,z.2.2.2])
    obtain⟨D,E⟩:=ax b I.1;refine⟨.R b I.1 I.2,.value (.tuple #[.bool l,b.key,b.val]),_,_,?_,.inl a,⟨[.bool l,b.key,b.val],a,Rd.bool,Rd.val D,Rd.val E,B⟩,R,t2,?_⟩
    · simp[ab,cx,u,cK,C,c_,d']
    · exact yk Y OO
def g.entry{p u}(i:r.op=.entry (.tmp p))(M:r.dst=f u)(R:r.guard=n)(z:ft F r.dst=l){qH kq:Nat}(Q:look J p=.n (.R (.aP kq))){a7 s:Nat}{dA:Array Nat}{ak:MapEntry}(D:k[kq]?=f (.K (k7 a7 s (dA.push ak.born)))){V:Array MapEntry}(aM:k[qH]?=f (.K H))(I:ur H a7 V s)(t:MapKept.Stamped V s)(w:ak∈V.toList){bD:y}(E:∀e:a6,bx k e (.tuple #[ak.key,ak.val]) bD)(S:g q F be (.aj all bq::av) .normal ((u,bD)::J) k):g q F be (.aj all (r::bq)::av) .normal J k:=by
  refine g.cD (ι:=Unit) (λ_=>bD) (λ_=>k) R z ?_ λ_=>by exact hK
  intro e A C d;obtain⟨j,b,h,N⟩:=d.hd D;have m:A.eval (.tmp p)=.pointer (f ⟨j,0,n⟩):=by
    have:=C.aK p;rw[Q]at this;obtain⟨_,L,o,m,_⟩:=(show cB _ e _ (.aP kq)from this)
    rw[b]at o;cases o;exact m
  obtain⟨x,L,o,B⟩:=d.ei aM I;have K:=run_entry_at (P:=P) e.a j a7 s dA V s ak h x w t.2.1;have O:=Vu (P:=P) e.a j a7 s dA V s ak h x w t.2.1;refine⟨(),.value (.tuple #[ak.key,ak.val]),e,_,?_,.inl a,E e,d,.refl _ _,?_⟩
  · simp[ab,i,m,cK,K,c_,d']
  · exact yk (dw.of_eq O (.fj (mB (ca b) ((N _ b j).2 a)) (mB o B))) (by simp[ab,i,m])
end
end
inductive fy where
 |nil (x:Option Addr)
 |row (i cap:Nat)
def c5(b:fy)(g:Nat):X:=match b with
 |.nil d=>.slice d 0 0
 |.row e a=>.slice (f ⟨e,0,n⟩) g a
def tP(bQ)(j):dU (c5 bQ j)=l:=by cases bQ<;>rfl
def Fc(a:m X):Nat->m M:=λb=>[.val (a.getD b I)]
section
variable {q:af P}
def b4.e5{aP}{dG:ι->bM}{aq:ι->m ar}(I:∀e g,b1 F k e J g->bc k e->∃(b:ι)(a:a6),a.a=e.a/\b1 F (aq b) a (dG b) g/\bc (aq b) a/\cO k e (aq b) a)(M:∀b,b4 q F s aP (dG b) (aq b)):b4 q F s aP J k:=by intro e g O d C w o B u t;obtain⟨b,a,N,E,z,y⟩:=I e g O d;have A:=y.too4 d;refine .aO (.of d z N A) ?_;exact M b a g E z C w o B u λD K i x j Q p r h=>t D K i x j Q p r (A.trans h)
def g.gM(d){y:ar}(h:ι->ar)(t:k[d]?=f y)(r:∀i L,eB k i y L->∃j,(∀aq,eB aq i (h j) L)/\fV y L (h j) L)(D:∀j,g q F be (.code s::av) .normal J (k.set d (h j))):g q F be (.code s::av) .normal J k:=by
 refine b4.e5 (dG:=λ_=>J) (aq:=λj=>k.set d (h j)) (λi M z bR=>?_) D;have O:d<c k:=(cP.1 t).1;have E:d<c i.t:=h_;have A:=bJ E;generalize i.t[d]=L at A;obtain⟨j,I,Q⟩:=r i L (bR.box d _ L t A);have w:fz k i (k.set d (h j)) i:=by
  refine⟨λ_ _ _ r=>r,λm o p b e=>?_⟩;by_cases x:d=m
  .subst x;rw[t]at b;cases b;rw[A]at e;cases e;simp_all
  exact⟨o,p,by grind,e,.refl _ _⟩
 have u:cO k i (k.set d (h j)) i:=
  ⟨bC _,λ_ _ _=>rfl,λ_ _ _ r=>r,λ_ _ _ _=>rfl,λL r N C=>.inr ⟨L,r,C⟩,w.box,rfl,rfl,rfl,rfl⟩
 refine⟨j,i,a,⟨z.size,z.defers.imp λ_ B=>B.mono u.ext,λK=>(z.aK K).mono u.ext bR.len⟩,⟨bR.mem,by simp[bR.len],?_,bR.a3,bR.lt,bR.own⟩,u⟩;intro m o p b e;by_cases x:d=m
 .subst x;simp_all
 rw[kJ x]at b;exact(bR.box m o p b e).ca w bR.len λ_ _=>⟨a,λ_=>rfl⟩
def g.gA(d)(b:ι->X->(Nat->Option Obj)->Prop)(h:k[d]?=f (.K H))(p:∀j a,H j a->∃e,b e j a)(i:∀e,g q F be (.code s::av) .normal J (k.set d (.K (b e)))):g q F be (.code s::av) .normal J k:=
 g.gM d (λe=>.K (b e)) h (λr L ⟨a,m,o⟩=>let ⟨e,bp⟩:=p _ _ m;⟨e,λ_=>⟨a,bp,o⟩,rfl⟩) i
def g.gN(d){W h}(a:Nat->m M)(x:k[d]?=f (.q W h j V))(I:∀b,b<j->c (a b)=h)(N:∀A b,b<j->∀(i:Nat) p,(a b)[i]?=f p->∃s,(V b)[i]?=f s/\∀o,Rd A o s->Rd A o p)(y:g q F be (.code s::av) .normal J (k.set d (.q W h j a))):g q F be (.code s::av) .normal J k:=by
 refine g.gM (ι:=Unit) d (λ_=>.q W h j a) x (λU L u=>⟨(),λC=>?_,λ_=>rfl,bC _⟩) λ_=>y;rcases u with T|⟨D,Z,z,X,r,t,Y,O,S,B,Q⟩
 .exact .inl T
 refine .inr ⟨D,Z,z,X,r,t,Y,O,S,⟨B.len,I,λb e i p w=>?_⟩,Q⟩;obtain⟨s,aa,R⟩:=N U.D b e i p w;obtain⟨o,K,E⟩:=B.rd b e i s aa;exact⟨o,K,R o E⟩
end
def ny:M->Bool
 |.int _ _|.bool _|.S _|.bp|.bD|.ds|.val _=>l
 |_=>v
def nx:Q->Bool
 |.c a=>ny a
 |.any=>l
 |_=>v
def yE:m Q->Bool
 |[]=>l
 |a::b=>match nx a with|true=>yE b|false=>v
def vu:E1->Bool
 |.R b=>nx b
 |.agg a=>yE a
def yD:m E1->Bool
 |[]=>l
 |a::b=>match vu a with|true=>yD b|false=>v
def yC:y->Bool
 |.n b=>vu b
 |.T a=>yD a
 |.any=>l
section
theorem vt{a}{s}(b:ny s=l)(d:Rd bB aa s):Rd a aa s:=by
 cases d<;>first|(simp[ny]at b;done)|skip
 case int cY=>exact .int cY
 case bool=>exact .bool
 case S cY dC=>exact .S cY dC
 case bp=>exact .bp
 case bD=>exact .bD
 case ds=>exact .ds
 case val cY=>exact .val cY
def Ki{a}(d:nx a=l)(e:cB k b aa a):cB aq aF aa a:=by
 cases a with
 |c g=>exact vt d e
 |any=>exact e
 |_=>simp[nx]at d
def Kk:∀{z:m X}{a:m Q},yE a=l->bP k b z a->bP aq aF z a
 |[],[],_,_=>trivial
 |[],_::_,_,d=>d.elim
 |_::_,[],_,d=>d.elim
 |i::z,h::a,e,d=>by
  simp[yE]at e;cases g:nx h with
  |false=>grind
  |true=>simp[g]at e;exact⟨Ki g d.1,Kk e d.2⟩
def Dh{E}(a:vu E=l)(d:eC k b aa E):eC aq aF aa E:=by
 cases E with
 |R i=>exact Ki a d
 |agg h=>obtain⟨z,e,g⟩:=d;exact⟨z,e,Kk a g⟩
def Kj:∀{z:m X}{a:m E1},yD a=l->e4 k b z a->e4 aq aF z a
 |[],[],_,_=>trivial
 |[],_::_,_,d=>d.elim
 |_::_,[],_,d=>d.elim
 |i::z,h::a,e,d=>by
  simp[yD]at e;cases g:vu h with
  |false=>grind
  |true=>simp[g]at e;exact⟨Dh g d.1,Kj e d.2⟩
def Zz{a}(d:yC a=l)(e:bx k b aa a):bx aq aF aa a:=by
 cases a with
 |n j=>exact Dh d e
 |T i=>obtain⟨z,g,h⟩:=e;exact⟨z,g,Kj d h⟩
 |any=>trivial
end
def qM:m ar->Bool
 |[]=>l
 |.K _::a=>qM a
 |.N::a=>qM a
 |_=>v
def LA:∀{e:m ar},qM e=l->∀a∈e,(∃H,a=.K H)∨a=.N
 |[],_,a,aM=>by grind
 |b::g,h,a,aM=>by
  have d:((∃H,b=.K H)∨b=.N)/\qM g=l:=by cases b<;>simp_all[qM]
  rcases fh.1 aM with rfl|aM
  .exact d.1
  exact LA d.2 a aM
def AI(i:m ar)(j:Nat)(p:X)(k o:Nat)(h:Nat->m M):Prop:=
 ∀e,bc i e->∃L d,e.t[j]?=f L/\(∀a b g,e.D a b=f g->d a b=f g)/\(∀a,a∉L.al->∀b,d a b=e.D a b)/\(∀a b g,d a b=f g->e.a.cell? ⟨a,b,n⟩=f g) /\
  (∀a∈L.al,∀b,e.D a b=n)/\Rd d p (.B v k o h)
section
variable {q:af P}
def b5.hO{k}{b}{i}:∀{z:m X}{a:m y}{T:Nat}{e:X},b5 k b z a->z[T]?=f e->bx k b e i->b5 k b z (a.set T i)
 |[],[],_,_,_,d,_=>by grind
 |[],_::_,_,_,d,_,_=>d.elim
 |_::_,[],_,_,d,_,_=>d.elim
 |o::z,j::a,0,e,d,h,g=>by simp at h;subst h;exact⟨g,d.2⟩
 |o::z,j::a,T+1,e,d,h,g=>⟨d.1,b5.hO (T:=T) d.2 N g⟩
def pV(j:m ar)(k g:m y):Prop:=
 ∀e z,bc j e->b5 j e z k->∃(i:Nat->Prop) (d:Mem),(∀a,i a->∃L∈e.t,a∈L.al)/\(∀a b h,e.D a b=f h->d a b=f h)/\(∀a,¬i a->∀b,d a b=e.D a b) /\
  (∀a b h,d a b=f h->e.a.cell? ⟨a,b,n⟩=f h)/\(∀a,i a->∀b,e.D a b=n)/\b5 j {e with D:=d} z g
def pV.refl(k)(bf):pV k bf bf:=λe z b d=>⟨λ_=>False,e.D,λ_ a=>a.elim,λ_ _ _ a=>a,λ_ _ _=>rfl,b.mem,λ_ a=>a.elim,d⟩
def pV.step{bf e}(I:pV k bf e)(o T){r}{h}(O:e[o]?=f (cM r))(x:AI k T r h j V):pV k bf (e.set o (ax (.B v h j V))):=by
 classical
 intro q z i y;obtain⟨t,d,aa,R,W,G,Q,B⟩:=I q z i y;obtain⟨L,m,C,H,M,U,X,S⟩:=x q i;have p:∀a b g,d a b=f g->(d a b).or (m a b)=f g:=λa b g s=>by grind
 have w:∀a b g,m a b=f g->(d a b).or (m a b)=f g:=λa b g s=>by
  cases D:d a b with
  |none=>grind
  |some A=>
   grind
 refine⟨λa=>t a∨a∈L.al,λa b=>(d a b).or (m a b),N,λa b g s=>p a b g (R a b g s),N,?_,?_,?_⟩
 .intro a b g s;cases D:d a b with
  |none=>grind
  |some A=>grind
 .grind
 have u:fz k {q with D:=d} k {q with D:=λa b=>(d a b).or (m a b)}:=⟨p,λY t L aM C=>⟨t,L,aM,C,.refl _ _⟩⟩
 have K:=B.mono u i.len;obtain⟨Z,F⟩:=b5.get B;have E:o<c z:=N;have J:z[o]?=f r:=by have:=F o;rw[O,bJ E]at this;have:=Rd.bd (show Rd d z[o] (.val r)from this);grind
 exact K.hO J (show bx k {q with D:=λa b=>(d a b).or (m a b)} r (ax (.B v h j V))from Rd.mono w S)
end
def ct(j:an)(i:Nat)(e:fy)(g:Nat)(b:m X):X->(Nat->Option Obj)->Prop:=λp d=>p=.nilFunc/\(∀q∈b,dU q=l)/\c b=g*i/\match e with
 |.nil _=>g=0/\d=λ_=>n
 |.row k a=>g<=a/\a<=9223372036854775807/\∃h,c (b++h)=a*i/\d=λo=>if o=k then f (.cells (b++h).toArray j (0,0))else n
def mc(b:Nat)(a:m X):Nat->m M:=λd=>((a.drop (d*b)).take b).map .val
def N5{h}{ah}(a:c ah=j*h)(bp:e<j):c (mc h ah e)=h:=by have:e*h+h<=j*h:=Ga;simp[mc,a];omega
def N4{h}{ah}{s}(b:(mc h ah e)[u]?=f s):∃a,ah[e*h+u]?=f a/\s=.val a:=by simp[mc,ni,iA,p6]at b;grind
def ct.lookup{h cap}{ah}(d:ct W h (.row i cap) j ah aa lc):∃a,c (ah++a)=cap*h/\lc i=f (.cells (ah++a).toArray W (0,0))/\∀b,(lc b).isSome=l↔b=i:=by obtain⟨_,_,_,_,_,a,e,g⟩:=d;grind
def Rd.j9{cap h}{ah}(q:∀s∈ah,dU s=l)(d:c ah=j*h)(g:j<=cap)(p:cap<=9223372036854775807)(u:∀m,bB i m=ah[m]?):Rd bB (.slice (f ⟨i,0,n⟩) j cap) (.B v h j (mc h ah)):=by refine Rd.eu (bB:=bB) (h:=h) (j:=j) (V:=mc h ah) (z:=ah) (x:=f ⟨i,0,n⟩) (i:=i) (off:=0) (cap:=cap) (o:=v) ⟨d,λr b=>N5 d b,λr b y t e=>?_⟩ bn g p D (λA k w=>by grind);obtain⟨k,a,rfl⟩:=N4 e;exact⟨k,a,.val (q k (ca a))⟩
section
variable {q:af P}
def ct.fB{h d}{bQ}{ah}(e:k[d]?=f (.K (ct W h bQ j ah)))(V:Nat->m M)(C:∀a,a<j->c (V a)=h/\∀J b g E,(V a)[b]?=f g->ah[a*h+b]?=f E->Rd J E g):AI k d (c5 bQ j) h j V:=by
 intro q bR;have ab:=(cP.1 e).1;have X:d<c q.t:=h_;have r:=bJ X;generalize q.t[d]=L at r;obtain⟨O,H,R,F,u⟩:=bR.box d _ L e r;cases bQ with
 |nil K=>
  obtain⟨_,_,_,rfl,_⟩:=H;exact⟨L,q.D,r,λ_ _ _ S=>S,λ_ _ _=>rfl,bR.mem,u,Rd.dK⟩
 |row i cap=>
  obtain⟨ai,af,Z,aa⟩:=H.lookup;obtain⟨ag,G,A,U,Q,_⟩:=H;have I:=(F i).2 N
  have Y:=R i _ Z;obtain⟨s,t⟩:=bR.ft (i:=i) (z:=ah) (u i I) (λp ao T=>by
   simp[aH,Y]
   grind)
  refine⟨L,λy p=>if y=i then ah[p]? else q.D y p,r,t,λy aP p=>bj N,s.mem,u,?_⟩;refine Rd.eu (h:=h) (j:=j) (V:=V) (z:=ah) (x:=f ⟨i,0,n⟩) (i:=i) (off:=0) (cap:=cap) (o:=v) ⟨A,λa bp=>(C a bp).1,λa bp b g w=>?_⟩ bn U Q D (λak an aj=>by grind);have ae:b<h:=N;have B:a*h+b<c ah:=by rw[A];have:a*h+h<=j*h:=Ga;omega
  exact⟨ah[a*h+b],bJ B,(C a bp).2 _ b g _ w (bJ B)⟩
def ei.fv{h}{E aC:ae}(K:j9 P r E aC W a5)(aa:a5.size=h){bQ}{ah}(T:bE J E=cM (c5 bQ j))(Y:k[d]?=f (.K (ct W h bQ j ah))){sg}{dI:Nat->m M}(bp:bE J aC=ax (.B sg h 1 dI)){h9}(bK:c h9=h)(bC:∀bB g (t:Nat) bt,(dI 0)[t]?=f bt->Rd bB g bt->h9[t]?=f g/\dU g=l)(x:(j+1)*a5.bytes<=140737488355328):
  ei P F r J k (λbf:fy=>cM (c5 bf (j+1))) λbf=>k.set d (.K (ct W h bf (j+1) (ah++h9))):=by
 intro b aD aM bR;obtain⟨bY,t2,a0,bU,Z,A,G,y,Q⟩:=K.op;have bl:=(cP.1 Y).1;have ar:d<c b.t:=h_;have R:=bJ ar;generalize b.t[d]=L at R;obtain⟨bS,aB,bN,aK,aF⟩:=bR.box d _ L Y R;have bd:=ca R;have ak:=eM aM E;rw[T]at ak;have ak:=Rd.bd ak;have S:=eM aM aC;rw[bp]at S;have S:=b8 S;have aP:=aB.2.1;have H:=aB.2.2.1;have bV:∀i,b.a.heap.size<=i->∀r,b.D i r=n:=λi x r=>by
  cases bm:b.D i r with
  |none=>rfl
  |some g=>have:=bR.block bm;omega
 have mk:∀q B cap,c5 bQ j=.slice B j cap->cap<j+1->bc (k.map λ_=>.N) {b with D:=q}->(∀e r g,b.D e r=f g->q e r=f g) ->
   Rd q (.slice B j cap) (.B v h j (mc h ah))->(∀{O},dw {b with D:=q} O->dw b O) ->
   ∃a0 aw af g,(ab aD.eval r).run P b.a=.ok aw af.a/\(aw=.value g∨(aw=.skip/\g=I))/\bx (k.set d (.K (ct W h a0 (j+1) (ah++h9)))) af g (cM (c5 a0 (j+1)))/\bc (k.set d (.K (ct W h a0 (j+1) (ah++h9)))) af/\cO k b (k.set d (.K (ct W h a0 (j+1) (ah++h9)))) af/\dw b ((ab aD.eval r).events P b.a #[]):=by
  intro q B cap aS s aj aG aI ag;have a4:Rd ({b with D:=q}:a6).D (aD.eval aC) (.B sg a5.size 1 dI):=by rw[aa];exact S.mono aG
  have ai:Rd ({b with D:=q}:a6).D (.slice B j cap) (.B v a5.size j (mc h ah)):=N;obtain⟨z,u,bq,o,X,f3,f4,f5⟩:=v_ (P:=P) (b:={b with D:=q}) (ty:=r.type) A G y Q K.elem aj ai a4 s x K.bytes;have f6:=vg (P:=P) (b:={b with D:=q}) (ty:=r.type) A G y Q K.elem aj ai a4 s x K.bytes;rw[aa]at o f4;have bH:=o.len;have bA:c ah+h=(j+1)*h:=N;have aQ:0<h:=by have:=K.size;omega
  have aJ:∀t,t<h->∃g,z[j*h+t]?=f g/\h9[t]?=f g/\dU g=l:=λt bk=>by
   have aX:=o.bF j w;have aZ:cj j (mc h ah) dI j=dI 0:=by simp[cj]
   rw[aZ]at aX;obtain⟨g,a1,a2⟩:=o.rd j w t ((dI 0)[t]'w) N;grind
  have aV:z=ah++h9:=by
   apply qa;intro V;by_cases bu:V<c ah
   .have A:V / h<j:=sA N;have bF:=uG V h;have aY:=N5 (h:=h) H A;have bz:cj j (mc h ah) dI (V / h)=mc h ah (V / h):=by simp[cj,A]
    have aO:V % h<c (mc h ah (V / h)):=by rw[aY];exact p7 _ aQ
    obtain⟨g,a1,a2⟩:=o.rd (V / h) w (V % h) ((mc h ah (V / h))[V % h]) N;obtain⟨bZ,bW,bX⟩:=N4 (bJ aO);grind[Rd.bd]
   grind
  subst aV;have aq:∀E∈h9,dU E=l:=λE T=>by grind[List.getElem_of_mem]
  let bi:au:=b.a.drew.alloc (.cells (ah++h9++u).toArray W);have bn:bi.heap[b.a.heap.size]?=f (.cells (ah++h9++u).toArray W (0,0)):=lZ b.a.drew _;have bG:bi.heap.size=b.a.heap.size+1:=Ou;obtain⟨az,bb⟩:=bR.cd (d:=d) (j_:=ct W h (.row b.a.heap.size bq) (j+1) (ah++h9)) (cv:=⟨L.v,[b.a.heap.size]⟩) (bi:=bi) Y R rfl w
   (λi x _=>i6 b.a.drew _ x) (λi x=>by grind)
   ⟨λe=>if e=b.a.heap.size then f (.cells (ah++h9++u).toArray W (0,0))else n,⟨aB.1,λE T=>by grind,by grind,X,f3,u,by omega,rfl⟩,λi r x=>by grind,λi=>by by_cases bu:i=b.a.heap.size<;>simp[bu]⟩ a a a
  refine⟨.row b.a.heap.size bq,.value (.slice (f ⟨b.a.heap.size,0,n⟩) (j+1) bq),_,_,?_,.inl a,Rd.val a,az,bb,?_⟩
  .rw[ll Z,ak,aS];simp[cK,d'];exact hK
  grind[ll,i2]
 cases bQ with
 |nil B=>
  obtain⟨_,_,_,rfl,_⟩:=aB;refine mk b.D B 0 a D (by have:=bR.d_;omega) (λ_ _ _ K=>K) Rd.dK (λK=>K)
 |row i cap=>
  obtain⟨u,bM,ao,bh⟩:=aB.lookup;obtain⟨aT,_,_,s,br,_⟩:=aB;have a7:i∈L.al:=(aK i).2 N;have a':=bN i _ ao;have bs:=aF i a7;have bg:=bR.lt L bd i a7;have aL:∀r g,ah[r]?=f g->b.a.cell? ⟨i,r,n⟩=f g:=by intro r g Z;simp[aH,a'];grind
  obtain⟨aE,an⟩:=bR.ft (i:=i) (z:=ah) bs aL;have ag:∀{O:Array aN},dw {b with D:=λe r=>if e=i then ah[r]? else b.D e r} O->dw b O:=λbj=>
   bj.gH (i:=i) bd a7 an λe r g ak=>by grind
  have aI:=Rd.j9 (bB:=λe r=>if e=i then ah[r]? else b.D e r) (i:=i) (cap:=cap) (ah:=ah) aP H s br (λr=>by simp);by_cases a_:j+1<=cap
  .have a4:Rd ({b with D:=λe r=>if e=i then ah[r]? else b.D e r}:a6).D (aD.eval aC) (.B sg a5.size 1 dI):=by rw[aa];exact S.mono an
   obtain⟨C,o,X⟩:=Et (P:=P) (b:={b with D:=λe r=>if e=i then ah[r]? else b.D e r}) (ty:=r.type) (j:=j) (i:=i) (cap:=cap) A G y Q K.elem aE a' N a4 a_;have f6:=CA (P:=P) (b:=b) (ty:=r.type) (j:=j) (i:=i) (cap:=cap) A G y Q K.elem bR a' N (E:=aD.eval aC) (sg:=sg) (dI:=dI) N a_ bd a7 (λr _=>bs r);rw[aa]at o X;have aR:c C=h:=by have:=o.len;omega
   have bI:=o.bF 0 w;have aJ:∀t,t<h->∃g,C[t]?=f g/\h9[t]?=f g/\dU g=l:=λt bk=>by obtain⟨g,a1,a2⟩:=o.rd 0 w t ((dI 0)[t]'w) (bJ w);grind
   have bP:C=h9:=m6;subst bP;have aq:∀E∈C,dU E=l:=λE T=>by grind[List.getElem_of_mem]
   have bD:j*h+h<=cap*h:=by rw[<-o5];exact hc _ a_
   have bL:h<=c u:=N;have bO:((ah++u).take (j*h)++C++(ah++u).drop (j*h+c C))=ah++C++u.drop h:=by rw[<-H,aR];simp
   rw[bO]at X;have bo:(b.a.setRow i (ah++C++u.drop h).toArray).heap[i]?=f (.cells (ah++C++u.drop h).toArray W (0,0)):=setRow_heap b.a i _ _ W _ a';have av:∀e,e≠i->(b.a.setRow i (ah++C++u.drop h).toArray).heap[e]?=b.a.heap[e]?:=λe a3=>setRow_other b.a i e _ a3;obtain⟨az,bb⟩:=bR.cd (d:=d) (j_:=ct W h (.row i cap) (j+1) (ah++C)) (cv:=L) (bi:=b.a.setRow i (ah++C++u.drop h).toArray) Y R rfl D
    (λe a3 bT=>av e N) (λe a3=>.inl a3)
    ⟨λe=>if e=i then f (.cells (ah++C++u.drop h).toArray W (0,0))else n,⟨aT,λE T=>by grind,by grind,a_,br,u.drop h,by grind,rfl⟩,λe r a3=>by grind,λe=>by grind⟩ a a a
   refine⟨.row i cap,.value (.slice (f ⟨i,0,n⟩) (j+1) cap),_,_,?_,.inl a,Rd.val a,az,bb,?_⟩
   .rw[ll Z,ak];simp only[cK,d',c5];exact hK
   rw[ll Z,ak];exact i2 f6
  exact mk _ (f ⟨i,0,n⟩) cap a w aE an aI ag
def g.fv{h}{x y:ae}(D:j9 P r x y W a5)(I:a5.size=h){u}(C:r.dst=f u)(K:r.guard=n)(O:ft F r.dst=l){bQ}{ah}(N:bE J x=cM (c5 bQ j))(i:k[d]?=f (.K (ct W h bQ j ah))){p}{b:Nat->m M}(E:bE J y=ax (.B p h 1 b)){h9}(A:c h9=h)(B:∀z s (w:Nat) t,(b 0)[w]?=f t->Rd z s t->h9[w]?=f s/\dU s=l)(e:(j+1)*a5.bytes<=140737488355328)(o:∀a:fy,g q F be (.aj all bq::av) .normal ((u,cM (c5 a (j+1)))::J) (k.set d (.K (ct W h a (j+1) (ah++h9))))):g q F be (.aj all (r::bq)::av) .normal J k:=
 g.cD (ι:=fy) (λa=>cM (c5 a (j+1))) (λa=>k.set d (.K (ct W h a (j+1) (ah++h9)))) K O (.fv D I N i E A B e) λa=>by rw[C];exact o a
def g.jy(o)(W)(h){u}(I:look J o=ax (.B l u 0 V))(t:∀e:fy,g q F be (.code s::av) .normal ((o,cM (c5 e 0))::J) (k++[.K (ct W h e 0 [])])):g q F be (.code s::av) .normal J k:=by
 refine b4.e5 (λy K i b=>?_) t;have x:=i.aK o;rw[I]at x;obtain⟨d,w,z,E,_,_,j,_,_⟩:=(b8 x).b1;have j:=j a;subst j;obtain⟨C,m⟩:=b.b0 (bT:=.K (ct W h (.nil d) 0 [])) (L:=⟨.nilFunc,[]⟩) (.refl _ _) rfl b ⟨λ_=>n,⟨rfl,by simp,by simp,rfl,rfl⟩,by simp,by simp,by simp⟩ D;refine⟨.nil d,{y with t:=y.t++[⟨.nilFunc,[]⟩]},rfl,⟨i.size,i.defers.imp λ_ p=>p.mono m.ext,λA=>?_⟩,C,m⟩;simp only[look];cases r:ad o A with
 |false=>exact(i.aK A).mono m.ext b.len
 |true=>
  have B:=dp r;subst B;show Rd _ _ _;rw[E];exact Rd.val a
def g.iD(o d){h}{bQ}{ah}(r:Nat->m M)(af:look J o=cM (c5 bQ j))(w:k[d]?=f (.K (ct W h bQ j ah)))(Z:∀D,D<j->c (r D)=h/\∀X N s V,(r D)[N]?=f s->ah[D*h+N]?=f V->Rd X V s)(K:g q F be (.code s::av) .normal ((o,ax (.B v h j r))::J) (k.set d .N)):g q F be (.code s::av) .normal J k:=by
 refine g.aO (λz aj C e=>?_) K;obtain⟨L,t,T,R,O,ae,Q,ai⟩:=ct.fB w r Z z e;have Y:=(cP.1 w).1;have S:=C.aK o;rw[af]at S;have y:=Rd.bd S;have B:fz k z (k.set d .N) {z with D:=t}:=by
  refine⟨R,λp bT cv b lW=>?_⟩;by_cases u:d=p
  .subst u;rw[w]at b;cases b;exact⟨.N,cv,by grind,lW,a⟩
  exact FD
 have x:cO k z (k.set d .N) {z with D:=t}:=by refine⟨bC _,λ_ _ _=>rfl,R,λA _ I ab=>O A (I L (ca T)) ab,λL aa A i=>.inr ⟨L,aa,i⟩,B.box,rfl,rfl,rfl,rfl⟩
 refine⟨{z with D:=t},rfl,⟨C.size,C.defers.imp λ_ E=>E.mono x.ext,λU=>?_⟩,⟨ae,by simp[e.len],?_,e.a3,e.lt,e.own⟩,x⟩
 .simp only[look];cases i:ad o U with
  |false=>exact(C.aK U).mono x.ext e.len
  |true=>
   have u:=dp i;subst u;show Rd _ _ _;grind
 intro p bT cv b lW;by_cases u:d=p
 .subst u;rw[iy Y]at b;cases b;trivial
 rw[kJ u]at b;exact(e.box p bT cv b lW).ca B e.len λA i=>⟨a,O A λag=>u (e.a3 d p L cv T lW A ag i)⟩
end
structure et(h j:Nat)(V:Nat->m M)(ah:m X):Prop where
 len:c ah=j*h
 ef:∀e,e<j->c (V e)=h
 b4:∀e,e<j->∀u s,(V e)[u]?=f s->∃E,ah[e*h+u]?=f E/\∀bB,Rd bB E s
def et.rd{h}{ah}(k:et h j V ah):∀a,a<j->c (V a)=h/\∀bB e d i,(V a)[e]?=f d->ah[a*h+e]?=f i->Rd bB i d:=λa b=>
 ⟨k.ef a b,λbB e d i g p=>by obtain⟨q,m,o⟩:=k.b4 a b e d g;grind⟩
def NF(b:X):Q->Q
 |.x 0 _ _ _=>.v b
 |a=>a
def E7(d:X):E1->E1
 |.R a=>.R (NF d a)
 |b=>b
def E8(a:X):m E1->m E1
 |[]=>[]
 |b::d=>E7 a b::E8 a d
def NG(b:X):y->y
 |.n d=>.n (E7 b d)
 |.T a=>.T (E8 b a)
 |.any=>.any
def r4(d:Nat):Q->Bool
 |.x 0 _ b _=>ad b d
 |a=>nx a
def vS(d:Nat):E1->Bool
 |.R a=>r4 d a
 |b=>vu b
def vT(a:Nat):m E1->Bool
 |[]=>l
 |b::d=>match vS a b with|true=>vT a d|false=>v
def DY(b:Nat):y->Bool
 |.n d=>vS b d
 |.T a=>vT b a
 |.any=>l
section
variable {h:Nat}{L:Loc}
def aeq(t:b.t[0]?=f L){e}(d:r4 j e=l)(i:cB [ar.x W h j V] b aa e):cB aq aF aa (NF L.v e):=by
 cases e with
 |c x=>exact vt d i
 |any=>exact i
 |x p u w m=>
  cases p with
  |zero=>
   obtain⟨s,_,g⟩:=i;have g:=g W h j V a;have r:=dp d;obtain⟨q,o,k⟩:=g.2 r.symm;rw[t]at o;cases o;show Rd _ _ _;rw[k];exact .val (k▸s.cell)
  |succ p=>simp[r4,nx]at d
 |ptr=>simp[r4,nx]at d
 |aP=>simp[r4,nx]at d
 |O=>simp[r4,nx]at d
def NI(g:b.t[0]?=f L){E}(d:vS j E=l)(e:eC [ar.x W h j V] b aa E):eC aq aF aa (E7 L.v E):=by
 cases E with
 |R i=>exact aeq g d e
 |agg a=>exact Dh (E:=.agg a) d e
def NJ(g:b.t[0]?=f L):∀{z:m X}{a:m E1},vT j a=l->e4 [ar.x W h j V] b z a->e4 aq aF z (E8 L.v a)
 |[],[],_,_=>trivial
 |[],_::_,_,d=>d.elim
 |_::_,[],_,d=>d.elim
 |o::z,k::a,e,d=>by
  simp[vT]at e;cases i:vS j k with
  |false=>grind
  |true=>simp[i]at e;exact⟨NI g i d.1,NJ g e d.2⟩
def NH(d:b.t[0]?=f L){a}(e:DY j a=l)(g:bx [ar.x W h j V] b aa a):bx aq aF aa (NG L.v a):=by
 cases a with
 |n o=>exact NI d e g
 |T m=>obtain⟨z,i,k⟩:=g;exact⟨z,i,NJ d e k⟩
 |any=>trivial
end
def zQ:m ResultVar->Bool
 |[]=>l
 |.tmp _::a=>zQ a
 |.cell _ _::_=>v
def NL{P}{x}:∀{rs:m ResultVar},zQ rs=l->∃z,(∀a,(rs.mapM (io x)).run P a=Result.ok z a)/\dB P (rs.mapM (io x))
 |[],_=>⟨[],by simp,by rw[List.mapM_nil];exact .pure⟩
 |.tmp h::g,e=>by
  obtain⟨z,b,d⟩:=NL (P:=P) (x:=x) (rs:=g) e;refine⟨x.tmps.getD h I::z,λa=>?_,?_⟩
  .simp only[o7,cK,io,d',c_,b]
  rw[o7];exact .bind .pure λ_=>.bind d λ_=>.pure
def mg.tmp{j}{fn}{hM}(r:mg P j hM aa b)(F:P.funcs[j]?=f fn)(C:zQ fn.results.toList=l)(o:∀p s t,b.D p s=f t->b.a.cell? ⟨p,s,n⟩=f t):mg P j hM aa aF:=by
 obtain⟨k,m,D,A,d,B,u⟩:=r;have g:d=fn:=N;subst g;let x:Act:={tmps:=hM.tmps,defers:=[]}
 obtain⟨z,k1,w⟩:=NL (P:=P) (x:=x) C;have h:∀a,(d.results.mapM (io x)).run P a=Result.ok z.toArray a:=λa=>by grind[Array.mapM_eq_mapM_toList,Sem.run_map,Go.Result.andThen_ok]
 have e:∀a,(results d hM.tmps).run P a=.ok (if r:z.toArray.size=1 then z.toArray[0]else .tuple z.toArray) a:=λa=>by unfold results;rw[cK];refine(eF (λE=>Result.andThen E _) (h a)).trans ?_;simp
 have i:dB P (results d hM.tmps):=by
  unfold results;have g:dB P (d.results.mapM (io x)):=by rw[xi];exact .map w
  exact .bind g λ_=>.pure
 have q:=(u b.a o).1;rw[e]at q;cases q;exact⟨k,m,D,A,d,B,λa _=>⟨e a,λg y=>by rw[i a #[]]at y;grind⟩⟩
def Y.thaw{aN:af P}[aN.bZ]{aT}{args}{res}{h}(B:Y aN aT args [] res [.x W h j V]){fn}(ak:P.funcs[aT]?=f fn)(ax:zQ fn.results.toList=l)(bc:DY j res=l)(aP:∀y,y<j->c (V y)=h/\∀aQ∈V y,ny aQ=l):
  bm (ι:={S:fy×m X // et h j V S.2}) aN aT args [] (λS=>NG (c5 S.1.1 j) res) (λS=>[.K (ct W h S.1.1 j S.1.2)]):=by
 refine⟨B.1,λaB z a3 F br aS ag=>B.2 aB z a3 F br aS λZ bl aF au x b d=>?_⟩;have a9:aB.t=[]:=jK F.len;have a0:c aF.t=1:=b.len;obtain⟨L,bb⟩:∃L,aF.t=[L]:=by
  match afr:aF.t with
  |[L]=>grind
  |[]=>grind
  |_::_::_=>grind
 have aO:aF.t[0]?=f L:=N;obtain⟨ah,ai⟩:=b.box 0 _ L rfl aO;rcases ai with⟨⟨bf,aw⟩,o⟩|⟨i,cap,cells,ae,Q,aj,bB⟩
 .subst aw;obtain⟨bd,cap,bn,a5,aX,bg,az,_⟩:=o.b1;have G:cap=0:=az a;subst G;let A:a6:={aF with t:=[⟨.nilFunc,[]⟩]}
  have aY:e_ aF A:=⟨rfl,λ_ _ _ B=>B,λ_ _ _=>rfl,b.mem,λi E=>by grind⟩
  have aK:et h 0 V []:=⟨by simp,λy r=>by omega,λy r=>by omega⟩
  refine .aO aY (ag ⟨(.nil bd,[]),aK⟩ Z bl A (au.tmp ak ax b.mem) ?_ ?_ ?_)
  .have:=NH (aq:=[ar.K (ct W h (.nil bd) 0 [])]) (aF:=A) aO bc x;rw[a5]at this;exact this
  .refine⟨b.mem,a,λK aL p aM e=>?_,?_,by grind,λi E=>⟨(b.own i E).1,by grind⟩⟩
   .cases K with
    |zero=>cases aM;cases e;exact⟨λ_=>n,⟨a,by simp,by simp,a,a⟩,by simp,by simp,by simp⟩
    |succ K=>grind
   grind
  refine⟨d.size,d.a4,d.mem,d.bz,λp e i E=>?_,λK aL p aM=>by grind,d.os,d.tape,d.output,d.own⟩;grind
 .subst ae;have a':i∈(⟨.slice (f ⟨i,0,n⟩) j cap,[i]⟩:Loc).al:=D;have aI:aB.a.heap.size<=i:=by
   rcases d.bR _ N i a' with aa|⟨bp,aa,_⟩
   .exact aa
   grind
  have aV:i<aF.a.heap.size:=b.lt _ N i a';obtain⟨bx,aR,C,bs,bk,bq,_,ab,a1⟩:=ah.b1;cases bs;have ba:c C=j*h:=ab.len;have a7:∀u T,C[u]?=f T->cells[u]?=f T:=λu T J=>by obtain⟨bz,a_,aG,bw⟩:=a1 u T J;cases aG;have:=b.mem _ _ _ bw;simp[aH,Q]at this;simpa using this
  have bh:j*h<=c cells:=by rw[aj];exact hc _ bk
  have aJ:cells.take (j*h)=C:=m6;have a4:C++cells.drop (j*h)=cells:=Gc;have aK:et h j V C:=by refine⟨ba,λy r=>(aP y r).1,λy r bA aQ I=>?_⟩;obtain⟨T,R,aD⟩:=ab.rd y r bA aQ I;grind[vt]
  have H:∀aE∈C,dU aE=l:=λaE a8=>by
   obtain⟨u,J,rfl⟩:=ha a8;have aZ:0<h:=N;have r:u / h<j:=sA N;have bt:u / h*h+u % h=u:=uG u h;have I:u % h<c (V (u / h)):=by rw[(aP _ r).1];exact p7 _ aZ
   obtain⟨T,R,aD⟩:=aK.b4 _ r _ _ (bJ I);rw[bt,bJ J]at R;cases R;exact(aD aB.D).cell
  have bo:∀g s k,aB.D g s=f k->g≠i:=λg s k av aG=>by have:=F.block av;omega
  let U:Mem:=λg s=>if g=i then n else aF.D g s;let O:a6:={aF with t:=[],own:=λaE=>aF.own aE∨aE=i}
  let aC:a6:={O with D:=U}
  let A:a6:={aF with t:=[⟨.nilFunc,[i]⟩],D:=U}
  have M:∀g s k,U g s=f k->aF.D g s=f k:=λg s k q=>by grind
  have ao:e_ aF O:=⟨rfl,λ_ _ _ B=>B,λ_ _ _=>rfl,b.mem,λg t=>by
   rcases t with(t|t)|⟨p,e,_⟩
   .grind
   .exact .inr ⟨_,by rw[bb];simp;rfl,by grind⟩
   grind⟩
  have an:n1 O aC:=⟨rfl,rfl,rfl,M,λg s k q=>by grind⟩
  have bu:e_ aC A:=⟨rfl,λ_ _ _ B=>B,λ_ _ _=>rfl,λg s k q=>b.mem _ _ _ (M _ _ _ q),λg t=>by grind⟩
  refine .aO ao (.b2 af.bZ.ok an (.aO bu (ag ⟨(.row i cap,C),aK⟩ Z bl A (au.tmp ak ax b.mem) ?_ ?_ ?_)))
  .exact NH (L:=⟨.slice (f ⟨i,0,n⟩) j cap,[i]⟩) aO bc x
  .refine⟨λg s k q=>b.mem _ _ _ (M _ _ _ q),a,λK aL p aM e=>?_,?_,λp e g t=>?_,λg t=>⟨(b.own g t).1,λp e=>?_⟩⟩
   .cases K with
    |zero=>
     cases aM;cases e;refine⟨λg=>if g=i then f (.cells (C++cells.drop (j*h)).toArray W (0,0))else n,⟨a,H,ba,bk,bq,cells.drop (j*h),N,a⟩,λg s t=>N,λg=>?_,λg t s=>?_⟩
     .by_cases aG:g=i<;>simp[aG]
     grind
    |succ K=>grind
   .grind
   .grind
   simp[A]at e;subst e;have:=(b.own g t).2 _ (by rw[bb];simp;rfl);grind
  refine⟨d.size,d.a4,λg s k q=>?_,λg t a2 s=>?_,λp e g t=>?_,λK aL p aM=>by grind,d.os,d.tape,d.output,d.own⟩
  .simp only[A,U,bj (bo g s k q)];exact d.mem _ _ _ q
  .have:g≠i:=w;simp[A,U,bj this];exact d.bz g t a2 s
  grind
section
variable {q:af P}
def g.iN{d:Prop}(i:∀b,bc k b->d)(j:d->g q F be (.code s::av) .normal J k):g q F be (.code s::av) .normal J k:=
 λb e h a=>j (i b a) b e h a
def g.fD{d:Prop}(i:∀b,bc k b->d)(j:d->g q F be (.aj all bq::av) .normal J k):g q F be (.aj all bq::av) .normal J k:=
 λb e h a=>j (i b a) b e h a
def ct.len{W}{m e d:Nat}{bQ}{ah}(g:k[d]?=f (.K (ct W m bQ e ah)))(b)(bR:bc k b):c ah=e*m/\e<=9223372036854775807/\(0<e->∃i a,bQ=.row i a)/\∀h,bQ=.nil h->e=0:=by
 have o:d<c b.t:=h_;obtain⟨p,j,_⟩:=bR.box d _ _ g (bJ o);cases bQ with
 |nil h=>obtain⟨_,_,q,rfl,_⟩:=j;grind
 |row i a=>obtain⟨_,_,q,r,s,_⟩:=j;grind
def g.jk(a0:b3 P ac)(E:Nat){w:ae}{e}{eV}{h}{bQ}{ah}(cx:r.op=.call {callee:=.builtin .len,args:=#[w],argTypes:=dt})(N:dt[0]?=f o)(s:b0 ac o=f e)(I:e.desc=.slice eV)(Q:bE J w=cM (c5 bQ j))(t:k[E]?=f (.K (ct W h bQ j ah)))(O:r.guard=n)(x:ft F r.dst=l)(u:g q F be (.aj all bq::av) .normal (gi r.dst (ax (.int .i64 j)) J) k):g q F be (.aj all (r::bq)::av) .normal J k:=by
 refine g.cD (ι:=Unit) (λ_=>ax (.int .i64 j)) (λ_=>k) O x (λm y K i=>?_) λ_=>u;obtain⟨_,B,_,M⟩:=ct.len t m i;have aj:=eM K w;rw[Q]at aj;have aj:=Rd.bd aj;have A:=(a0 o e s).run_underlying (p:=m.a);rw[I]at A;have C:dt[0]?=f o:=N;have z:∃d b,c5 bQ j=.slice d j b:=by
  cases bQ with
  |nil d=>rw[M d rfl];exact⟨d,0,a⟩
  |row R b=>exact⟨_,b,rfl⟩
 obtain⟨d,b,D⟩:=z;rw[D]at aj;refine⟨(),.value (.int .i64 j),m,.int .i64 j,R_,.inl a,Rd.int cX,i,.refl _ _,?_⟩;have:(ab y.eval r).events P m.a #[]=#[]:=R_;rw[this];exact .nil
def vs:m Q->Bool
 |[]=>l
 |.c b::a=>match ny b with|true=>vs a|false=>v
 |_=>v
def nd(z:m X)(a:m Q):Prop:=c z=c a/\∀(d:Nat)b,a[d]?=f (Q.c b)->∃e,z[d]?=f e/\∀g,Rd g e b
def nd.of{k}{b}:∀{z:m X}{d:m Q},vs d=l->bP k b z d->nd z d
 |[],[],_,_=>⟨rfl,λi o e=>by grind⟩
 |[],_::_,_,g=>g.elim
 |_::_,[],_,g=>g.elim
 |r::z,.c s::d,e,g=>by
  simp[vs]at e;cases j:ny s with
  |false=>grind
  |true=>
   simp[j]at e;obtain⟨p,q⟩:=nd.of e g.2;refine⟨by grind,λi o h=>?_⟩;cases i with
   |zero=>simp at h;subst h;exact⟨r,a,λt=>vt j g.1⟩
   |succ i=>grind
 |_::_,.ptr _ _::_,e,_=>by exact cX
 |_::_,.x _ _ _ _::_,e,_=>by exact cX
 |_::_,.aP _::_,e,_=>by exact cX
 |_::_,.O _ _::_,e,_=>by exact cX
 |_::_,.any::_,e,_=>by exact cX
theorem bP.gl{k}{b}:∀{z:m X}{d:m Q},bP k b z d->∀g∈z,AM.dU g=l
 |[],[],_,g,e=>by grind
 |[],_::_,a,_,_=>a.elim
 |_::_,[],a,_,_=>a.elim
 |i::z,h::d,a,g,e=>by
  rcases fh.1 e with rfl|e
  .exact cB.cell a.1
  exact bP.gl a.2 g e
def ei.eP(a0:b3 P ac)(d){S s:ae}{h cap}{ah}{new}{e}(aq:r.op=.store o S s)(Q:b0 ac o=f e)(R:bE J S=cM (.pointer (f ⟨i,off,n⟩)))(ag:mv (bE J s)=f new)(Y:c new=e.size)(O:vs new=l)(u:k[d]?=f (.K (ct W h (.row i cap) j ah)))(Z:off+c new<=c ah):
  ei P F r J k (ι:={z:m X // nd z new}) (λ_=>.any) (λz=>k.set d (.K (ct W h (.row i cap) j (ah.take off++z.1++ah.drop (off+c z.1))))):=by
 intro q t K bR;have w:=eM K S;rw[R]at w;have w:=Rd.bd w;have M:=u9 ag (eM K s);have V:d<c k:=(cP.1 u).1;have aD:d<c q.t:=h_;have T:=bJ aD;generalize q.t[d]=L at T;obtain⟨aJ,C,aM,aH,E⟩:=bR.box d _ L u T;obtain⟨p,ax,aP,U⟩:=ct.lookup C;obtain⟨aI,aO,aw,G,aG,_⟩:=C;have an:i∈L.al:=(aH i).2 N;have ai:=aM i _ aP;let z:=(t.eval s).cells.toList;have ao:nd z new:=nd.of O M;have au:c z=c new:=ao.1;have az:off+0+c z<=(ah++p).toArray.size:=N;have ak:=run_storeCells_at P i off W z 0 (ah++p).toArray q.a ai az M.cell;simp only[kh]at ak;have aB:(ah++p).take off++z++(ah++p).drop (off+c z)=(ah.take off++z++ah.drop (off+c z))++p:=N;rw[aB]at ak;have af:c (ah.take off++z++ah.drop (off+c z))=c ah:=N;have aa:=setRow_heap q.a i (ah++p).toArray ((ah.take off++z++ah.drop (off+c z))++p).toArray W (0,0) ai;have y:∀g,g≠i->(q.a.setRow i ((ah.take off++z++ah.drop (off+c z))++p).toArray).heap[g]?=q.a.heap[g]?:=λg A=>setRow_other q.a i g _ A;obtain⟨aj,t2⟩:=bR.cd (d:=d) (j_:=ct W h (.row i cap) j (ah.take off++z++ah.drop (off+c z))) (cv:=L) (bi:=q.a.setRow i ((ah.take off++z++ah.drop (off+c z))++p).toArray) u T rfl D
  (λg A aL=>y g N) (λg A=>.inl A)
  ⟨λg=>if g=i then f (.cells ((ah.take off++z++ah.drop (off+c z))++p).toArray W (0,0))else n,⟨aI,λS R=>by grind[bP.gl],by grind,G,aG,p,by grind,rfl⟩,λg r A=>by simp_all,λg=>by simp_all⟩ a a a
 have H:(t.eval s).cells.size=e.size:=N;refine⟨⟨z,ao⟩,.skip,_,I,?_,.inr ⟨a,a⟩,B,aj,t2,?_⟩
 .have av:(storeCells ⟨i,off,n⟩ (t.eval s).cells.toList).run P q.a=_:=ak;simp[ab,aq,w,Instr.storeAt,Instr.sureAddr,storeVar,(a0 o e Q).bc,H,av]
 intro x b;have aK:ab t.eval r=(do storeVar o ⟨i,off,n⟩ (t.eval s);pure .skip):=by simp[ab,aq,w,Instr.storeAt,Instr.sureAddr]
 rw[aK]at b;have aF:x∈(storeCells ⟨i,off,n⟩ (t.eval s).cells.toList).events P q.a #[]:=by
  simp[storeVar,aC,(a0 o e Q).bc,H,aE,events_sizeOf,ea,hI,dn,cK,c_,Sem.events_pure]at b;generalize(storeCells ⟨i,off,n⟩ (t.eval s).cells.toList).run P q.a=aN at b;cases aN with
  |ok aR bi=>simpa using b
  |halt S bi=>simpa using b
 rcases nu (t.eval s).cells.toList 0 (ah++p).toArray q.a #[] ai az M.cell x aF with ar|⟨aQ,_,_,rfl⟩
 .grind
 exact oo (ca T) an (E i an _)
def g.eP{ac}(a0:b3 P ac)(d){o}{p s}{W}{h j i cap off}{ah}{new}{e}(y:r.op=.store o p s)(a:b0 ac o=f e)(B:bE J p=cM (.pointer (f ⟨i,off,n⟩)))(x:mv (bE J s)=f new)(u:c new=e.size)(w:vs new=l)(b:k[d]?=f (.K (ct W h (.row i cap) j ah)))(t:off+c new<=c ah)(A:r.guard=n)(C:ft F r.dst=l)(m:∀z,nd z new->g q F be (.aj all bq::av) .normal (gi r.dst .any J) (k.set d (.K (ct W h (.row i cap) j (ah.take off++z++ah.drop (off+c z)))))):g q F be (.aj all (r::bq)::av) .normal J k:=
 g.cD _ _ A C (ei.eP a0 d y a B x u w b t) λz=>m z.1 z.2
def g.swap(e u){i j:X->(Nat->Option Obj)->Prop}(ar:e≠u)(z:k[e]?=f (.K i))(A:k[u]?=f (.K j))(K:∀T p,i T p->T=.nilFunc)(ak:∀T p,j T p->T=.nilFunc)(V:g q F be (.code s::av) .normal J ((k.set e (.K j)).set u (.K i))):g q F be (.code s::av) .normal J k:=by
 refine g.aO (λo ax aa bR=>?_) V;have M:e<c k:=(cP.1 z).1;have Q:u<c k:=(cP.1 A).1;have an:e<c o.t:=h_;have aq:u<c o.t:=h_;obtain⟨x,ae⟩:∃L,o.t[e]?=f L:=⟨_,bJ an⟩;obtain⟨C,ag⟩:∃L,o.t[u]?=f L:=⟨_,bJ aq⟩;have y:=bR.box e _ x z ae;have ab:=bR.box u _ C A ag;have aw:x.v=.nilFunc:=by obtain⟨p,G,_⟩:=y;grind
 have H:C.v=.nilFunc:=by obtain⟨p,G,_⟩:=ab;grind
 let m:a6:={o with t:=(o.t.set e C).set u x}
 have af:∀b,((k.set e (.K j)).set u (.K i))[b]?=if b=u then f (.K i)else if b=e then f (.K j)else k[b]?:=λb=>by grind
 have W:∀b,m.t[b]?=if b=u then f x else if b=e then f C else o.t[b]?:=λb=>by grind
 have Z:∀L∈m.t,L∈o.t:=λL h=>by grind
 have r:fz k o ((k.set e (.K j)).set u (.K i)) m:=by
  refine⟨λ_ _ _ I=>I,λb U L aM h=>?_⟩;rw[af,W];by_cases w:b=u
  .subst w;rw[A]at aM;cases aM;rw[ag]at h;cases h;exact⟨.K i,x,by simp,by simp,by show x.v=_;grind⟩
  by_cases O:b=e
  .subst O;rw[z]at aM;cases aM;rw[ae]at h;cases h;exact⟨.K j,C,by simp[w],by simp[w],by show C.v=_;grind⟩
  exact⟨U,L,by grind,by grind,.refl _ _⟩
 have Y:cO k o ((k.set e (.K j)).set u (.K i)) m:=by exact⟨bC _,λ_ _ _=>rfl,λ_ _ _ I=>I,λ_ _ _ _=>rfl,λL I t d=>.inr ⟨L,Z L I,d⟩,r.box,rfl,rfl,rfl,rfl⟩
 refine⟨m,a,⟨aa.size,aa.defers.imp λ_ K=>K.mono r,λao=>(aa.aK ao).mono r bR.len⟩,⟨bR.mem,by simp[m,bR.len],?_,?_,λL h t d=>bR.lt L (Z L h) t d,λt d=>⟨(bR.own t d).1,λL h=>(bR.own t d).2 L (Z L h)⟩⟩,Y⟩
 .intro b U L aM h;rw[af]at aM;rw[W]at h;split at aM
  .rename_i w;rw[bl w]at h;cases aM;cases h;exact y
  rename_i w;rw[bj w]at h;split at aM
  .rename_i O;rw[bl O]at h;cases aM;cases h;exact ab
  rename_i O;rw[bj O]at h;exact(bR.box b U L aM h).ca r bR.len λt d=>⟨a,λ_=>rfl⟩
 intro b B D E R S t d N;rw[W]at R S;have key:∀b L,(if b=u then f x else if b=e then f C else o.t[b]?)=f L->o.t[if b=u then e else if b=e then u else b]?=f L:=λb L az=>by grind
 have:=bR.a3 _ _ D E (key b D R) (key B E S) t d N;by_cases ah:b=u<;>by_cases ai:B=u<;>by_cases aj:b=e<;>by_cases au:B=e<;>simp_all
def g.jx(a0:b3 P ac){S T:ae}{e}{H U}(aD:r.op=.makeSlice o S T)(ah:b0 ac o=f e)(aK:e.desc=.slice W)(aa:b0 ac W=f a5)(ak:bE J S=ax (.int H j))(an:bE J T=ax (.int U j))(i:j*a5.bytes<=140737488355328)(aT:j<=140737488355328)(ag:r.guard=n)(af:ft F r.dst=l)(aq:∀A d,g q F be (.aj all bq::av) .normal (gi r.dst (cM (c5 (.row A j) j)) J) (k++[.K (ct W a5.size (.row A j) j d)])):g q F be (.aj all (r::bq)::av) .normal J k:=by
 refine g.cD (ι:=Nat×m X) (λx=>cM (c5 (.row x.1 j) j)) (λx=>k++[.K (ct W a5.size (.row x.1 j) j x.2)]) ag af (λb V aC s=>?_) λx=>aq x.1 x.2;have I:=eM aC S;rw[ak]at I;have I:=b8 I;generalize az:V.eval S=aL at I;cases I;have K:=eM aC T;rw[an]at K;have K:=b8 K;generalize y:V.eval T=aN at K;cases K;have ao:=(a0 o e ah).eg;rw[aK]at ao;obtain⟨B,O,R,aO,aQ,aB,br,aR,aS⟩:=(a0 W a5 aa).cY;have C:(B.bytes:Int)*(j:Int)<=281474976710656:=N;have aH:=run_make (P:=P) (w:=b.a) o W B O ao R aB H U j j w (Int.le_refl _) C w;simp[cW]at aH;let d:=(madeCells O.cells (j*B.size)).toList;have G:c d=j*a5.size:=by grind[size_madeCells]
 have aF:∀E∈O.cells.toList,dU E=l:=bP.gl (uv (k:=k) (b:=b) br);have aG:c O.cells.toList=a5.size:=OI;have aJ:∀E∈d,dU E=l:=by intro E aj;simp[d,madeCells,Array.toList_map,hu]at aj;grind[Nat.mod_lt]
 have aM:eB (k++[.K (ct W a5.size (.row b.a.heap.size j) j d)]) {b with a:=b.a.alloc (.cells d.toArray W),t:=b.t++[⟨.nilFunc,[b.a.heap.size]⟩]} (.K (ct W a5.size (.row b.a.heap.size j) j d)) ⟨.nilFunc,[b.a.heap.size]⟩:=by
  refine⟨λQ=>if Q=b.a.heap.size then f (.cells (d++[]).toArray W (0,0))else n,⟨a,aJ,G,bC _,by omega,[],by grind,a⟩,λQ r C=>?_,λQ=>?_,λQ C r=>?_⟩
  .by_cases t:Q=b.a.heap.size
   .subst t;simp[dx]at C;grind[lZ]
   grind
  .by_cases t:Q=b.a.heap.size<;>simp[t]
  simp at C;subst C;cases u:b.D b.a.heap.size r with
  |none=>rfl
  |some E=>have:=s.block u;omega
 have M:bc k {b with a:=b.a.alloc (.cells d.toArray W)}/\cO k b k {b with a:=b.a.alloc (.cells d.toArray W)}:=
  s.cX D (λA i=>i6 b.a _ i) (λA i r=>rfl) (λA i r E u=>by have:=s.block u;omega) a a a
 obtain⟨Y,Z⟩:=M.1.b0 M.2 rfl s aM (λA i=>by simp_all);refine⟨(b.a.heap.size,d),.value (.slice (f ⟨b.a.heap.size,0,n⟩) j j),_,_,?_,.inl a,Rd.val a,Y,Z,?_⟩
 .simp[ab,aD,az,y,aH,d]
 have t:ab V.eval r=(do pure (.value (<-Instr.makeSlice o (.int H j) (.int U j)))):=by simp[ab,aD,az,y]
 rw[t];refine i2 ?_;intro t z;have ai:∀h,(underlying o).run P h=.ok (.slice W) h:=λh=>by simp[underlying,ao]
 have aI:∀h,(typeInfo W).run P h=.ok B h:=λh=>by simp[typeInfo,R]
 have L:∀h,(zeroValue W).run P h=.ok O h:=λh=>by simp[zeroValue,typeInfo,R,aB]
 have aP:∀h,(sizeOf W).run P h=.ok B.size h:=λh=>by simp[sizeOf,typeInfo,R]
 have aw:IntKind.i64.wrap (j:Int)=j:=by grind[IntKind.wrap_i64]
 have ar:¬(j:Int)<0:=w;have au:¬(281474976710656<(B.bytes:Int)*j):=w;simp[Instr.makeSlice,ai,aI,aP,asInt,asIntOf,aw,ar,au]at z;rw[L]at z;simp[aE,(dB.newRow (P:=P)) _ _,ite_self]at z;unfold askRoom at z;split at z
 .have:t=⟨.mark .noRoom,v,l⟩:=by simpa using z
  rw[this];exact .inl a
 simp at z
end
section
variable {h O:Nat}{bz:X}
end
def Zy{a z:m α}{b}(g:b+c z<=c a)(d):(a.take b++z++a.drop (b+c z))[d]?=if b<=d/\d<b+c z then z[d-b]? else a[d]?:=by have e:c (a.take b)=b:=N;grind
def et.fi{h}{d:Nat->m M}{ah}{new}(k:et h j V ah)(e u)(bp:e<j)(r:nd z new)(D:u+c new<=h)(C:∀a,a<j->a≠e->d a=V a)(x:c (d e)=h)(q:∀b g,(d e)[b]?=f g->(u<=b/\b<u+c new/\new[b-u]?=f (Q.c g))∨(¬(u<=b/\b<u+c new)/\(V e)[b]?=f g)):et h j d (ah.take (e*h+u)++z++ah.drop (e*h+u+c z)):=by
 have J:e*h+h<=j*h:=Ga;have I:=r.1;have E:=k.len;have s:e*h+u+c z<=c ah:=w;refine⟨by grind,λa i=>?_,λa i b g B=>?_⟩
 .by_cases o:a=e
  .grind
  rw[C a i o];exact k.ef a i
 rw[Zy s];by_cases o:a=e
 .subst o;rcases q b g B with⟨cY,dC,p⟩|⟨cY,dC⟩
  .rw[bl w,show a*h+b-(a*h+u)=b-u by omega];exact r.2 _ g p
  rw[bj w];exact k.b4 a i b g dC
 have A:(V a)[b]?=f g:=N;have F:b<h:=by rw[<-k.ef a i];grind
 rw[bj ?_]
 .exact k.b4 a i b g A
 rcases Nat.lt_or_gt_of_ne o with y|t
 .have:a*h+h<=e*h:=by rw[<-o5];exact hc _ y
  omega
 have:e*h+h<=a*h:=by rw[<-o5];exact hc _ t
 omega
def et.gE{h}{a:Nat->m M}{ah}(g:et h j V ah)(s:∀b,b<j->a b=V b)(t:c (a j)=h)(y:c z=h)(B:∀(d:Nat)e,(a j)[d]?=f e->∃o,z[d]?=f o/\∀p,Rd p o e):et h (j+1) a (ah++z):=by
 have u:=g.len;refine⟨by grind,λb k=>?_,λb k d e A=>?_⟩
 .by_cases r:b=j
  .grind
  rw[s b w];exact g.ef b w
 by_cases r:b=j
 .grind
 have i:b<j:=w;have q:(V b)[d]?=f e:=N;have x:d<h:=by rw[<-g.ef b i];grind
 have:b*h+h<=j*h:=by rw[<-o5];exact hc _ i
 rw[kb w];exact g.b4 b i d e q
def pB(b:m (Nat×cq))(a:bM):m ResultVar->Option (m y)
 |[]=>f []
 |.tmp i::h=>match pB b a h with
  |some g=>f (look a i::g)
  |none=>n
 |.cell d i::h=>match pB b a h with
  |some g=>match look a d with
   |.n (.R (.c (.Q e)))=>match b0 b i with
    |some k=>match hq k (e.map Q.c)with
     |some j=>f (.n j::g)
     |none=>n
    |none=>n
   |_=>n
  |none=>n
def Ep{P}{ac}(a0:b3 P ac){F}{k}{b}{J}{V}(ab:b1 F k b J V):∀{S:m ResultVar}{d:m y},pB ac J S=f d ->
  ∃z,b5 k b z d/\∀p,(∀i C T,b.D i C=f T->p.cell? ⟨i,C,n⟩=f T)->(S.mapM (io V)).run P p=Result.ok z p/\∀q,∀A∈(S.mapM (io V)).events P p q,A∈q∨∃i C T,A=⟨.cell ⟨i,C,n⟩,v,v⟩/\b.D i C=f T
 |[],d,o=>by cases o;exact⟨[],B,λp _=>⟨by simp,λq A r=>.inl (by simpa using r)⟩⟩
 |.tmp x::an,d,o=>by
  simp[pB]at o;cases W:pB ac J an with
  |none=>grind
  |some aJ=>
   simp[W]at o;subst o;obtain⟨z,af,aP⟩:=Ep a0 ab W;refine⟨V.tmps.getD x I::z,⟨ab.aK x,af⟩,λp D=>?_⟩;obtain⟨k1,R⟩:=aP p D;refine⟨by simp[o7,cK,io,d',c_,k1],λq A r=>R q A ?_⟩;simpa[o7,io,k1]using r
 |.cell u x::an,d,o=>by
  simp[pB]at o;cases W:pB ac J an with
  |none=>grind
  |some aJ=>
   simp[W]at o;have Z:=ab.aK u;generalize look J u=aM at o Z;split at o
   case h_2=>cases o
   rename_i e;cases K:b0 ac x with
   |none=>grind
   |some t=>
    simp[K]at o;cases O:hq t (e.map Q.c)with
    |none=>grind
    |some ag=>
     simp[O]at o;subst o;obtain⟨z,af,aP⟩:=Ep a0 ab W;have G:=b8 Z;generalize aG:V.tmps.getD u I=aL at G;cases G;rename_i i h X M aq;let U:=(aA (c e)).map X;have H:bP k b U (e.map Q.c):=by
      have key:∀j d,(∀g aa,d[g]?=f aa->Rd b.D (X (j+g)) aa)->bP k b ((aA (c d)).map λg=>X (j+g)) (d.map Q.c):=by
       intro j d;induction d generalizing j with
       |nil=>intro _;trivial
       |cons aI d aj=>
        intro Y;rw[fs,w'];refine⟨Y 0 aI a,?_⟩;have:=aj (j+1) (λg aa w=>by have:=Y (g+1) aa N;grind);grind[Function.comp_def]
      have:=key 0 e N;grind
     have ax:∀g s,U[g]?=f s->b.D i (h+g)=f s:=λg s w=>by
      simp[U,ni]at w;by_cases ar:g<c e
      .simp[ar]at w;subst w;exact M g e[g] (bJ ar)
      grind
     let cD:au:={b.a with heap:=b.a.heap}
     have aw:∃s,eC k b s ag/\∀p,(∀i C T,b.D i C=f T->p.cell? ⟨i,C,n⟩=f T)->(loadVar x ⟨i,h,n⟩).run P p=.ok s p:=by
      have ae:=a0 x t K;cases E:t.agg<;>simp[hq,E]at O
      .cases av:da 0 (e.map Q.c)with
       |none=>grind
       |some aH=>
        simp[av]at O;subst O;obtain⟨s,ai,aD⟩:=H.get (ew av);refine⟨s,aD,λp D=>?_⟩;have:=D _ _ _ (ax 0 s ai);simp[loadVar,cK,ae.ez,c_,E];grind[run_load]
      cases av:m2 t.size (e.map Q.c)with
      |none=>grind
      |some r0=>
       simp[av]at O;subst O;obtain⟨ak,aK⟩:=tW av;have ao:=H.take t.size;rw[<-ak]at ao;have ah:c (U.take t.size)=t.size:=N;refine⟨.agg (U.take t.size).toArray,⟨U.take t.size,a,ao⟩,λp D=>?_⟩;have L:=run_loadCells_list (P:=P) p ⟨i,h,n⟩ (U.take t.size) (λg s w=>by grind[g6]);rw[ah]at L;simp[loadVar,cK,ae.ez,c_,E];simp[ae.bc,L]
     obtain⟨s,aB,aF⟩:=aw;refine⟨s::z,⟨aB,af⟩,λp D=>?_⟩;obtain⟨k1,R⟩:=aP p D;have az:(io V (.cell u x))=loadVar x ⟨i,h,n⟩:=by simp[io,aG,asAddr]
     refine⟨by grind[Go.Sem.run_bind,Go.Sem.run_pure,Go.Result.andThen_ok],λq A r=>?_⟩;rw[o7,az]at r;simp[aC,aF p D,aE,k1,Sem.events_pure]at r;rcases R _ A r with r|r
     .rcases DN r with r|r
      .grind
      obtain⟨g,w,rfl⟩:=pe (a0 x t K) (p:=p) (j:=c e) (λg w=>⟨X g,D _ _ _ (M g e[g] (bJ w))⟩) (by have:=sh O;grind) A r;exact .inr ⟨i,h+g,X g,a,M g e[g] (bJ w)⟩
     grind
theorem oZ.fb(a0:b3 P ac){fn}{bf}{m}(t:pB ac J fn.results.toList=f bf)(j:pq bf=f m):oZ P fn J m:=by
 intro A B x e q;obtain⟨z,h,i⟩:=Ep a0 q t;refine⟨_,KI j h,λd r=>?_⟩;obtain⟨k1,u⟩:=i d r;have g:(fn.results.mapM (io e)).run P d=Result.ok z.toArray d:=Sa;have p:∀a,∀b∈(fn.results.mapM (io e)).events P d a,b∈a∨∃k o y,b=⟨.cell ⟨k,o,n⟩,v,v⟩/\x.D k o=f y:=by rw[xi];intro a b s;exact u a b Fv
 constructor
 .unfold results;rw[cK];refine(eF (λw=>Result.andThen w _) (Eq.trans ?_ g)).trans ?_
  .congr 2
  simp
 intro b s;have C:b∈(fn.results.mapM (io e)).events P d #[]:=by unfold results at s;rw[aC]at s;change b∈((fn.results.mapM (io e)).run P d).evThen ((fn.results.mapM (io e)).events P d #[]) _ at s;rw[g]at s;simpa using s
 grind
section
variable {q:af P}
def tF(h:m (Nat×cq))(e:m ResultVar)(b:m Nat)(g:bM)(a:y):Option (m Prop):=
 match pB h g e with
 |some d=>match pq d with
  |some i=>match h0 (c b) a with
   |true=>kt i (fm b a)
   |false=>n
  |none=>n
 |none=>n
def g.cb(a0:b3 P ac){fn}{d}{res}(aY)(e:tF ac fn.results.toList aY J res=f Z)(o:U Z)(m:dz aY k=f aq)(j:l8 aq=l)(i:fl aY=l)(h:∀b,b<d->aY[b]?=f b):
  g q F (k9 P fn d res aq) (.code .ret::av) .normal J k:=by refine g.ret ⟨.inl a,aY,?_⟩;unfold tF at e;grind[oZ.fb]
def Y.bE{i}{fn}{args}{res}(h:P.funcs[i]?=f fn)(e:(fn.name== "runtime.NumGoroutine")=v)(d:fn.body=f s)(m:ay args.length fn.ntmps=l)(o:kF args k->g q fn.ntmps (k9 P fn k.length res aq) [.code s] .normal (ib 0 args) k):Y q i args k res aq:=by refine⟨⟨fn,h,e,by grind⟩,λj z b a=>?_⟩;have:=bm.jb (q:=q) (ι:=Unit) (aq:=λ_=>aq) (res:=λ_=>res) h e d (fA m) (b4.mono (g.aQ (o ⟨j,z,b,a⟩)) λ_ _ _ p=>⟨(),p⟩);exact this.toY.2 j z b a
def bZ.mk{fn}{d}{res}(aY)(e:pC fn.results.toList aY J res=f Z)(m:U Z)(j:dz aY k=f aq)(i:l8 aq=l)(h:fl aY=l)(g:∀b,b<d->aY[b]?=f b):bZ fn d res aq .ret J k:=by refine⟨.inl a,aY,?_⟩;unfold pC at e;grind
end
def GW{t:af P}{i:aG}{h}{x}{bq}{E}(I:i.kind≠.early)(o:aV[e]?=f r)(W:aO r (yielded aV x.tmps)=l)(F:bc k b)(S:∀u,(ab x.eval r).run P u=.ok (.enter E z.toArray) u)(R:∀u,(ab x.eval r).events P u #[]=#[])(V:bm t E cS k res aX)(K:b5 k b z cS)(N:∀m q g,bx (aX m) g q (res m)->bc (aX m) g->dg k b (aX m) g->cg t br (G (i.ab (x.put r.dst q) (.inRegion aV bq::h)) ai) g):
  cg t br (G (i.ab x (.inRegion aV (e::bq)::h)) ai) b:=by
 obtain⟨_,O⟩:=V;refine .next a λD U=>?_;have C:=t.bO U;have A:=F.rely C;have J:b5 k D z cS:=K.mono C.aT.ext F.len;refine⟨_,D,_,tN o W I (S D.a),?_,O _ z J A br _ λm M q T y j d p=>?_⟩
 .refine⟨⟨k,k,A,A,.refl _ _⟩,dw.seen ?_⟩;rw[R];exact .nil
 refine uU (ai:=ai) (s:=i.ab x (.inRegion aV (e::bq)::h)) d y λQ w=>?_;have B:=qr (i:=i) (x:=x) (h:=h) aV e bq q;rw[o]at B;simp only[n7]at B;rw[B];exact N m q Q (j.mono w.aT.ext d.len) (d.rely w) (C.aT.trans (p.trans w.aT))
def g.cL{t:af P}{Y:aZ}(ae:bm t Y cS k res aX)(aH:r.guard=n)(o:r.op=.call {callee:=.value cQ,args:=ah,argTypes:=dt})(s:g7 (bE J cQ)=f (Y,cap))(aB:l3 (ah.toList.map (bE J)++fj cap) cS=f Z)(y:U Z)(H:ft F r.dst=l)(az:∀d,g t F be (.aj all bq::av) .normal (gi r.dst (res d) J) (aX d)):g t F be (.aj all (r::bq)::av) .normal J k:=by
 intro ai W q e aq O w ao idx i a C;cases idx with
 |nil=>exact a.elim
 |cons aJ idx=>
 obtain⟨D,a⟩:=a;have ag:=eM q cQ;unfold g7 at s;split at s
 case h_2=>cases s
 case h_1 vj u7 he=>
  cases s;rw[he]at ag;have aa:=b8 ag;generalize V:W.eval cQ=aw at aa;cases aa with
  |fn z b I m au x ax A aF R=>
   have M:z=[]:=jK I;subst M;have aC:b5 k ai b (fj cap):=qj (λd ar E=>⟨x d,A d N,R d ar E⟩) m;have aE:b5 k ai (ah.toList.map W.eval++b) cS:=tj aB y ((nc (eM q) ah.toList).append aC);obtain⟨fn,aj,ab,X⟩:=ae.1;refine GW i D (jf aH) e (λT=>(mT o aj ab X V T).1) (λT=>(mT o aj ab X V T).2) ae aE λd aK S K j h=>?_;refine az d S _ ?_ j aq O w ao idx i a λan Q G u aD f3 B p=>C an Q G u aD f3 B (h.trans p);have ak:=lg H;cases aI:r.dst with
   |none=>exact q.mono h e.len
   |some aG=>exact(q.mono h e.len).put (ak aG aI) K
def MP{k:Type}{d}{E}:∀{a:m Nat}{e h:m k},dz a e=f h->d∉a->dz a (e.set d E)=f h
 |[],e,h,b,_=>b
 |o::a,e,h,b,i=>by
  simp[fh,not_or]at i;simp[dz,ln]at b⊢;rw[kJ i.1];cases g:e[o]? with
  |none=>simp[g]at b
  |some q=>
   simp[g]at b⊢;cases j:dz a e with
   |none=>simp[j]at b
   |some p=>rw[MP j i.2];simp only[j]at b;exact b
def K8{h}{d}(b:eo h d=v):h∉d:=λa=>by rw[vM a]at b;cases b
def y3:Option (Tmp×E1)->m ResultVar
 |none=>[]
 |some a=>[.tmp a.1]
def Lv(a:m Q):Option (Tmp×E1)->y
 |none=>.n (.agg a)
 |some b=>.T [.agg a,b.2]
def ux(w:m (Nat×cq))(fn:Func)(x:Nat)(b:y)(h:m ar):fF:=λs r d=>
 (s=.ret∨s=.normal)/\∃a o u e t j g i,∃p:Option (Tmp×E1),(∀q,p=f q->look r q.1=.n q.2)/\fn.results.toList=.cell t j::y3 p/\b0 w j=f g/\g.agg=l/\c e=g.size/\look r t=aI o 0/\d[o]?=f (.cells u e)/\o∉a /\
  kt (Lv e p) (fm a b)=f i/\U i/\h0 (c a) b=l/\dz a d=f h/\l8 h=l/\fl a=l/\(∀k,k<x->a[k]?=f k)
def bm.jE{q:af P}(a0:b3 P ac){a2}{fn}{args}{aq:ι->m ar}(pm:P.funcs[a2]?=f fn)(aL:(fn.name== "runtime.NumGoroutine")=v)(cZ:fn.body=f s)(bO:args.length<=fn.ntmps)(a4:∀b b8,b1 fn.ntmps k b (ib 0 args) b8->bc k b->∀i b' S (aX:ag->a6->Prop),i.kind≠.early->i.roundOf=n ->
  (∀C ae K aF aZ,(∃t,ux ac fn (c k) (res t) (aq t) C ae K)->b1 fn.ntmps K aF ae aZ->bc K aF->dg k b K aF->kP q aX i b' S C aZ aF)->cg q aX (G (i.ab b8 (.code s::b')) S) b):bm q a2 args k res aq:=by
 refine⟨⟨fn,pm,aL,by rw[cZ];rfl⟩,λb z bR bM aX S bI=>?_⟩;obtain⟨bN,bL⟩:=b5.get bR;let i:aG:={fn:=a2,tmps:=#[],todo:=[],defers:=[],mode:=.run,kind:=.normal,roundOf:=n}
 have cb:Frame.enter P a2 z.toArray .normal=i.ab {tmps:=z.toArray++Array.replicate (fn.ntmps-z.toArray.size) I,defers:=[]} [.code s]:=OA;rw[cb];refine a4 b {tmps:=z.toArray++Array.replicate (fn.ntmps-z.toArray.size) I,defers:=[]} ⟨by simp;omega,⟨[],B⟩,λaJ=>?_⟩ bM i [] S aX (by simp[i]) rfl ?_
 .rw[yR];simp only[g5,dx,sD];have:=bL aJ;rcases dY aJ (c z) with b_|b9
  .have C:(z.toArray++Array.replicate (fn.ntmps-z.toArray.size) I).getD aJ I=(z[aJ]?).getD I:=F9;rw[C];exact this
  rw[xa w];trivial
 .rintro C ae aK e kH ⟨aj,V,aY,d,W,aI,aJ,ty,it,Z,r,bT,aR,aS,tA,Eh,bU,bf,bV,bD,bE,bF,a5,a8,bG,cj⟩ f0 O bg;obtain⟨a7,a9⟩:=L5 a8;have Q:=f0.aK aJ;rw[bU]at Q;obtain⟨_,L,eb,F,a',aN⟩:=Q;obtain⟨cd,A,a_,cc,b6,ck⟩:=O.box d _ L bf F;subst a_;cases a';let cl:Mem:=λy r=>if y=eb then A[r]? else e.D y r;have bp:∀r u,A[r]?=f u->e.a.cell? ⟨eb,r,n⟩=f u:=λr u bQ=>by simpa[aH,cc]using bQ
  have aB:∀y r u,e.D y r=f u->cl y r=f u:=λy r u Y=>by grind
  have au:∀y r u,cl y r=f u->e.a.cell? ⟨y,r,n⟩=f u:=λy r u Y=>by
   by_cases C:y=eb
   .grind
   simp[cl,C,dn]at Y;exact O.mem y r u Y
  obtain⟨U,H⟩:=O.b8 (cl:=cl) (bi:=e.a) (eg:=.N) (cv:=⟨.pointer (f ⟨eb,0,n⟩),[]⟩) bf F rfl (bC _) (λ_ _ _=>rfl) (λy _ aP r=>by grind) aB au D rfl rfl rfl B
  have ak:e_ e ⟨e.t.set d ⟨.pointer (f ⟨eb,0,n⟩),[]⟩,cl,e.a,e.own⟩:=⟨rfl,aB,λy aP r=>by
   have:y≠eb:=by rintro rfl;exact aP _ (ca F) D
   simp[cl,this,dn],au,λy aP=>by grind⟩
  have bA:b1 fn.ntmps (aK.set d .N) ⟨e.t.set d ⟨.pointer (f ⟨eb,0,n⟩),[]⟩,cl,e.a,e.own⟩ ae kH:=⟨f0.size,f0.defers.imp λ_ bB=>bB.mono H.ext,λJ=>(f0.aK J).mono H.ext O.len⟩
  have ah:=MP (E:=ar.N) a5 bV;have aO:bP (aK.set d .N) ⟨e.t.set d ⟨.pointer (f ⟨eb,0,n⟩),[]⟩,cl,e.a,e.own⟩ A aI:=b6.mono H.ext O.len;have bY:=bg.trans (H.too4 O);let bo:X:=match r with|none=>.agg A.toArray|some bd=>.tuple #[.agg A.toArray,kH.tmps.getD bd.1 I]
  have b4:∀p,(∀i r J,cl i r=f J->p.cell? ⟨i,r,n⟩=f J)->(results fn kH.tmps).run P p=.ok bo p/\∀C∈(results fn kH.tmps).events P p #[],∃i r J,C=⟨.cell ⟨i,r,n⟩,v,v⟩/\cl i r=f J:=by
   intro p aQ;have bq:=a0 ty it aS;have aD:c A=it.size:=by rw[b6.cI,Eh]
   have ao:∀t u,A[t]?=f u->p.cell? ⟨eb,0+t,n⟩=f u:=λt u x=>aQ _ _ _ N;have a:=run_loadCells_list (P:=P) p ⟨eb,0,n⟩ A (λt u x=>by rw[g6];exact ao t u x);rw[aD]at a;have az:(loadVar ty ⟨eb,0,n⟩).run P p=.ok (.agg A.toArray) p:=by simp[loadVar,cK,bq.ez,c_,tA];simp[bq.bc,a]
   have b7:fn.results=(ResultVar.cell aJ ty::y3 r).toArray:=by apply Array.ext';simpa using aR
   have b2:asAddr (kH.tmps[aJ]?.getD I)=(pure ⟨eb,0,n⟩:Sem Addr):=by rw[<-hH,aN];rfl
   refine⟨by cases r<;>simp[results,b7,b2,az,bo,y3],λC V=>?_⟩;have ba:C∈(loadVar ty ⟨eb,0,n⟩).events P p #[]:=by cases r<;>simpa[results,b7,b2,az,y3]using V
   obtain⟨t,x,rfl⟩:=pe bq (p:=p) (j:=c A) (λt x=>⟨_,ao t A[t] (bJ x)⟩) (by rw[tA,aD];simp) C ba;exact⟨eb,0+t,A[t],rfl,by grind⟩
  have fin:∀o g,c0 (⟨e.t.set d ⟨.pointer (f ⟨eb,0,n⟩),[]⟩,cl,e.a,e.own⟩:a6) g->o.fn=a2->o.tmps=kH.tmps->o.defers=kH.defers->o.mode=.returning->o.kind=.normal->cg q aX (G o S) g:=by
   intro o g h bt bu bw a1 bz;have a3:=bA.rely h U;have aV:=U.rely h;have ab:=bY.trans h.aT;have bW:bx (aK.set d .N) g bo (Lv aI r):=by
    have aC:=aO.mono h.aT.ext U.len;cases r with
    |none=>exact⟨A,rfl,aC⟩
    |some bd=>
     have bb:=a3.aK bd.1;rw[bT bd rfl]at bb;exact⟨[.agg A.toArray,kH.tmps.getD bd.1 I],rfl,⟨A,rfl,aC⟩,bb,B⟩
   obtain⟨ai,bn⟩:=wc (kU:=g.t) ah aV.len;have bX:=(pr bD bE bW).sub ah bn bF;obtain⟨cf,bs⟩:=l_ ah;obtain⟨d1,d2⟩:=l_ bn;have br:∀L∈ai,L∈g.t:=Ex bn;have av:bc (aq aj) {g with t:=ai}:=by obtain⟨T,_⟩:=aV.sub ah bn a7 bG;refine⟨T.mem,T.len,λt bl L aM F=>?_,T.a3,T.lt,λi cZ=>⟨(aV.own i cZ).1,λL F=>(aV.own i cZ).2 L (br L F)⟩⟩;exact eB.plain (k:=aq aj) (b:={g with t:=ai,own:=oI g ai}) (aF:={g with t:=ai}) rfl rfl (v6 a7 bl (ca aM)) (T.box t bl L aM F)
   have bh:dg k b (aq aj) {g with t:=ai}:=by refine⟨ab.size,ab.a4,ab.mem,ab.bz,λL F i cZ=>ab.bR _ (br L F) i cZ,λd bl L aM F=>?_,ab.os,ab.tape,ab.output,ab.own⟩;have bN:d<c k:=(cP.1 aM).1;obtain⟨eg,cv,cm,cn,cp⟩:=ab.box d bl L aM F;grind
   obtain⟨bS,ax⟩:=a3.defers;refine Bi bS o g _ aV.d_ N a1 (by rw[bw];exact ax.gF aV) λaa R=>?_;have M:c0 {g with t:=ai} {aa with t:=ai}:=by
    refine⟨rfl,R.D,R.own,R.size,λi cZ=>R.a4 i (cZ.imp id ?_),R.mem,R.os,R.tape,R.output⟩;rintro⟨L,F,cZ⟩;obtain⟨t,x,rfl⟩:=ha F;have aw:t<c aY:=by rw[<-d1];exact x
    obtain⟨cq,bk,b0⟩:=d2 t _ (bJ aw);obtain⟨E,bZ,bj⟩:=bs t _ (bJ aw);rw[bJ x]at bk;cases bk;refine⟨_,_,b0,λbK=>?_,cZ⟩;rw[ax.e7 _ bK]at bj;cases bj;exact vO a9 _ (ca bZ) rfl
   have bH:e_ aa {aa with t:=ai}:=⟨rfl,λ_ _ _ a4=>a4,λ_ _ _=>rfl,λi r u Y=>R.mem i r u (by rw[<-R.D];exact Y),λi cZ=>cZ.imp id λ⟨L,F,cZ⟩=>⟨L,by rw[R.t];exact br L F,cZ⟩⟩
   have an:g.D=cl:=h.D;refine .aO bH (bI aj _ bo _ ⟨bt,a1,rfl,bz,fn,by grind,λp aQ=>?_⟩ (bX.mono M.aT.ext av.len) (av.rely M) (bh.trans M.aT));show(results fn o.tmps).run P p=_/\∀C∈(results fn o.tmps).events P p #[],_;rw[bu];have aE:∀i r J,cl i r=f J->p.cell? ⟨i,r,n⟩=f J:=λi r J a4=>aQ i r J (by show aa.D i r=f J;rw[R.D,an];exact a4);refine⟨(b4 p aE).1,λC V=>?_⟩;obtain⟨i,r,J,aR,aS⟩:=(b4 p aE).2 C V;exact⟨i,r,J,aR,by show aa.D i r=f J;rw[R.D,an];exact aS⟩
  rcases V with rfl|rfl
  .intro pre;exact .aO ak (.ctl U rfl (λ_=>EB rfl) λg h=>fin _ g h rfl rfl (hU _) rfl rfl)
  exact .aO ak (.ctl U rfl (λ_=>Ez rfl) λg h=>fin _ g h rfl rfl (hU _) rfl rfl)
def bm.bE{q:af P}(a0:b3 P ac){i}{fn}{args}{aq:ι->m ar}(t:P.funcs[i]?=f fn)(r:(fn.name== "runtime.NumGoroutine")=v)(b:fn.body=f s)(C:ay args.length fn.ntmps=l)(D:kF args k->g q fn.ntmps (λB w h=>∃u,ux ac fn k.length (res u) (aq u) B w h) [.code s] .normal (ib 0 args) k):bm q i args k res aq:=by refine⟨⟨fn,t,r,by rw[b];rfl⟩,λe z d a=>?_⟩;have:=bm.jE (q:=q) (aq:=aq) (res:=res) a0 t r b (fA C) λI y i o A E j x p _ F=>(show b4 q fn.ntmps s _ (ib 0 args) k from g.aQ (D ⟨e,z,d,a⟩)) I y i o A E j x p F;exact this.2 e z d a
def bP.set{k}{b}{i}{aa}:∀{z:m X}{a:m Q}{h:Nat},bP k b z a->z[h]?=f aa->cB k b aa i->bP k b z (a.set h i)
 |[],[],_,_,d,_=>by grind
 |[],_::_,_,d,_,_=>d.elim
 |_::_,[],_,d,_,_=>d.elim
 |o::z,j::a,0,d,e,g=>by simp at e;subst e;exact⟨g,d.2⟩
 |o::z,j::a,h+1,d,e,g=>⟨d.1,bP.set d.2 N g⟩
section
variable {q:af P}
def g.cn(d u)(W h)(b:Nat->m M){eV}{ai}{gp}{aq:Nat->m M}(B:da d k=f (.cells eV ai))(A:da u ai=f (.c (.B l gp 0 aq)))(C:g q F be (.code s::av) .normal J ((k++[ar.x W h 0 b]).set d (.cells eV (ai.set u (.x (c k) h 0 b))))):g q F be (.code s::av) .normal J k:=by
 refine g.aO (λe az K bR=>?_) C;have aM:=ew B;have X:=ew A;have G:d<c k:=(cP.1 aM).1;have ah:d<c e.t:=h_;have E:=bJ ah;generalize e.t[d]=L at E;obtain⟨t,z,au,Z,S,U⟩:=bR.box d _ L aM E;obtain⟨i,Y,V⟩:=S.get X;have j:Rd e.D i (.B l h 0 b):=(Rd.fS (h:=gp) (gp:=h) (.inr a) V).cA λR ae=>by omega
 have an:eB (k++[ar.x W h 0 b]) {e with t:=e.t++[⟨i,[]⟩]} (.x W h 0 b) ⟨i,[]⟩:=⟨j.en,.inl ⟨⟨rfl,rfl⟩,j⟩⟩;obtain⟨H,O⟩:=bR.b0 (.refl _ _) rfl bR an D
 have y:(k++[ar.x W h 0 b])[d]?=f (.cells eV ai):=N;have ak:(e.t++[(⟨i,[]⟩:Loc)])[d]?=f L:=N;have ag:(e.t++[(⟨i,[]⟩:Loc)]).set d L=e.t++[⟨i,[]⟩]:=m6;have aw:fV (.cells eV ai) L (.cells eV (ai.set u (.x (c k) h 0 b))) L:=rfl;have ax:c k≠d:=w;have ab:eB ((k++[ar.x W h 0 b]).set d (.cells eV (ai.set u (.x (c k) h 0 b)))) ⟨(e.t++[(⟨i,[]⟩:Loc)]).set d L,e.D,e.a,e.own⟩ (.cells eV (ai.set u (.x (c k) h 0 b))) L:=by
  rw[ag];refine⟨t,z,au,Z,?_,U⟩;have x:fz (k++[ar.x W h 0 b]) {e with t:=e.t++[⟨i,[]⟩]} ((k++[ar.x W h 0 b]).set d (.cells eV (ai.set u (.x (c k) h 0 b)))) {e with t:=e.t++[⟨i,[]⟩]}:=by
   refine⟨λ_ _ _ p=>p,λR bT cv Q lW=>?_⟩;by_cases aB:d=R
   .grind
   exact FD
  have aa:bP (k++[ar.x W h 0 b]) {e with t:=e.t++[⟨i,[]⟩]} z ai:=S.mono O.ext bR.len;refine bP.set (aa.mono x H.len) Y ?_;refine⟨j.en,by simp,λT af aj kQ p=>?_⟩;rw[kJ w,ht w,sI]at p;cases p;refine⟨bC _,λ_=>⟨⟨i,[]⟩,?_,a⟩⟩;exact uh
 obtain⟨aP,I⟩:=H.b8 (cl:=e.D) (bi:=e.a) (cv:=L) y ak aw (bC _) (λ_ _ _=>rfl) (λ_ _ _ _=>rfl) (λ_ _ _ p=>p) bR.mem (λt r=>⟨.inl r,bR.lt L (ca E) t r⟩) rfl rfl rfl ab;have o:=O.trans I;exact⟨⟨(e.t++[(⟨i,[]⟩:Loc)]).set d L,e.D,e.a,e.own⟩,a,⟨K.size,K.defers.imp λ_ j=>j.mono o.ext,λao=>(K.aK ao).mono o.ext bR.len⟩,aP,o⟩
end
section
variable {q:af P}
def g.e'(o)(W h)(dI:Nat->m M){e}{r:Nat->m M}(u:look J o=ax (.B l e 0 r))(i:g q F be (.code s::av) .normal ((o,cE (c k) (.B 0 h 0 0))::J) (k++[.q W h 0 dI])):g q F be (.code s::av) .normal J k:=by
 refine g.aO (λj w a bR=>?_) i;have C:=a.aK o;rw[u]at C;obtain⟨t,b⟩:=bR.b0 (bT:=.q W h 0 dI) (L:=⟨.slice n 0 0,[]⟩) (.refl _ _) rfl bR (.inl ⟨rfl,rfl⟩) D;refine⟨{j with t:=j.t++[⟨.slice n 0 0,[]⟩]},rfl,⟨a.size,a.defers.imp λ_ d=>d.mono b.ext,λp=>?_⟩,t,b⟩;simp only[look];cases cZ:ad o p with
 |false=>exact(a.aK p).mono b.ext bR.len
 |true=>
  exact QU
def g.ep(d u)(W h)(b:Nat->m M){eV}{ai}{B}{ah:Nat->m M}(A:da d k=f (.cells eV ai))(x:da u ai=f (.c (.B l B 0 ah)))(C:g q F be (.code s::av) .normal J ((k++[ar.q W h 0 b]).set d (.cells eV (ai.set u (.O (c k) (.B 0 h 0 0)))))):g q F be (.code s::av) .normal J k:=by
 refine g.aO (λe ao I bR=>?_) C;have aM:=ew A;have T:=ew x;have H:d<c k:=(cP.1 aM).1;have ae:d<c e.t:=h_;have E:=bJ ae;generalize e.t[d]=L at E;obtain⟨p,z,ak,X,O,R⟩:=bR.box d _ L aM E;obtain⟨au,U,S⟩:=O.get T;let i:Loc:=⟨.slice n 0 0,[]⟩
 obtain⟨K,G⟩:=bR.b0 (bT:=.q W h 0 b) (L:=i) (.refl _ _) rfl bR (.inl ⟨rfl,rfl⟩) N;have Q:(k++[ar.q W h 0 b])[d]?=f (.cells eV ai):=N;have af:(e.t++[i])[d]?=f L:=N;have ab:(e.t++[i]).set d L=e.t++[i]:=m6;have y:fV (.cells eV ai) L (.cells eV (ai.set u (.O (c k) (.B 0 h 0 0)))) L:=rfl;have aa:eB ((k++[ar.q W h 0 b]).set d (.cells eV (ai.set u (.O (c k) (.B 0 h 0 0))))) ⟨(e.t++[i]).set d L,e.D,e.a,e.own⟩ (.cells eV (ai.set u (.O (c k) (.B 0 h 0 0)))) L:=by
  rw[ab];refine⟨p,z,ak,X,?_,R⟩;have r:fz (k++[ar.q W h 0 b]) {e with t:=e.t++[i]} ((k++[ar.q W h 0 b]).set d (.cells eV (ai.set u (.O (c k) (.B 0 h 0 0))))) {e with t:=e.t++[i]}:=by
   refine⟨λ_ _ _ t=>t,λZ bT L an aj=>?_⟩;by_cases aq:d=Z
   .grind
   exact⟨bT,L,by grind,aj,.refl _ _⟩
  have Y:bP (k++[ar.q W h 0 b]) {e with t:=e.t++[i]} z ai:=O.mono G.ext bR.len;exact bP.set (Y.mono r K.len) U (DU (W:=W) (V:=b) S N (by simp[<-bR.len,i]))
 obtain⟨aP,D⟩:=K.b8 (cl:=e.D) (bi:=e.a) (cv:=L) Q af y (bC _) (λ_ _ _=>rfl) (λ_ _ _ _=>rfl) (λ_ _ _ t=>t) bR.mem (λp o=>⟨.inl o,bR.lt L (ca E) p o⟩) rfl rfl rfl aa;have j:=G.trans D;exact⟨⟨(e.t++[i]).set d L,e.D,e.a,e.own⟩,a,⟨I.size,I.defers.imp λ_ w=>w.mono j.ext,λag=>(I.aK ag).mono j.ext bR.len⟩,aP,j⟩
end
def ik:Nat->(Nat->m M)->Nat->m M
 |0,a=>a
 |b+1,a=>fJ (b+1) a
def y5(r)(a:Nat->m M)(e):ik r a e=a (r+e):=by cases r<;>simp[ik,fJ]
def xU(h g j:Nat)(b:Nat->m M)(a:Q):Option (Q×m Prop):=match l1 h a with
 |true=>f (a,[])
 |false=>match a with
  |.O e (.B o d k i)=>match ad e h,ad d g with
   |true,l=>f (.c (.B v g i (ik k b)),[o=j,k+i<=j])
   |_,_=>n
  |_=>n
def xW(g e h:Nat)(a:Nat->m M):m Q->Option (m Q×m Prop)
 |[]=>f ([],[])
 |i::o=>match xU g e h a i with
  |some (b,j)=>match xW g e h a o with
   |some (d,k)=>f (b::d,gT j k)
   |none=>n
  |none=>n
def u'(h g i:Nat)(b:Nat->m M):E1->Option (E1×m Prop)
 |.R d=>match xU h g i b d with|some (d,e)=>f (.R d,e)|none=>n
 |.agg a=>match xW h g i b a with|some (a,e)=>f (.agg a,e)|none=>n
def xV(g e h:Nat)(a:Nat->m M):m E1->Option (m E1×m Prop)
 |[]=>f ([],[])
 |i::o=>match u' g e h a i with
  |some (b,j)=>match xV g e h a o with
   |some (d,k)=>f (b::d,gT j k)
   |none=>n
  |none=>n
def u_(h g i:Nat)(b:Nat->m M):y->Option (y×m Prop)
 |.n e=>match u' h g i b e with|some (e,d)=>f (.n e,d)|none=>n
 |.T a=>match xV h g i b a with|some (a,d)=>f (.T a,d)|none=>n
 |.any=>f (.any,[])
section
variable {aX:m ar}{b7:a6}{W h:Nat}
structure m8(aX:m ar)(W h j:Nat)(V:Nat->m M)(b b7:a6):Prop where
 a4:∀aa x,cB (aX++[.q W h j V]) b aa x->l1 (c aX) x=l->cB aX b7 aa x
 e2:∀aa gp r A,cB (aX++[.q W h j V]) b aa (.O (c aX) (.B j gp r A))->gp=h->r+A<=j->Rd b7.D aa (.B v h A (ik r V))
def m8.cC(m:m8 aX W h j V b b7){aa}{x i}{Z}(g:xU (c aX) h j V x=f (i,Z))(p:U Z)(o:cB (aX++[.q W h j V]) b aa x):cB aX b7 aa i:=by
 unfold xU at g;split at g
 .rename_i s;cases g;exact m.a4 aa x o s
 split at g
 .rename_i t C q r A _;split at g
  .rename_i d e;cases g;have d:=dp d;have e:=dp e;subst d e;obtain⟨rfl,k⟩:C=j/\r+A<=j:=p;exact m.e2 aa _ _ _ o a k
  grind
 grind
def m8.fs(o:m8 aX W h j V b b7):∀{z:m X}{d a:m Q}{e:m Prop},xW (c aX) h j V d=f (a,e)->U e->bP (aX++[.q W h j V]) b z d->bP aX b7 z a
 |[],[],_,_,g,_,_=>by cases g;trivial
 |[],_::_,_,_,_,_,i=>i.elim
 |_::_,[],_,_,_,_,i=>i.elim
 |u::z,r::d,a,e,g,k,i=>by
  simp[xW]at g;split at g
  .rename_i p s cY;split at g
   .rename_i q t dC;cases g;rw[U.Y]at k;exact⟨o.cC cY k.1 i.1,o.fs dC k.2 i.2⟩
   grind
  grind
def m8.n(k:m8 aX W h j V b b7){e i}(a:u' (c aX) h j V e=f (i,Z))(g:U Z)(m:eC (aX++[.q W h j V]) b aa e):eC aX b7 aa i:=by
 cases e with
 |R s=>
  simp[u']at a;split at a
  .rename_i d r cY;cases a;exact k.cC cY g m
  grind
 |agg o=>
  simp[u']at a;split at a
  .rename_i d r cY;cases a;obtain⟨z,q,p⟩:=m;exact⟨z,q,k.fs cY g p⟩
  grind
def m8.gZ(o:m8 aX W h j V b b7):∀{z:m X}{d a:m E1}{e:m Prop},xV (c aX) h j V d=f (a,e)->U e->e4 (aX++[.q W h j V]) b z d->e4 aX b7 z a
 |[],[],_,_,g,_,_=>by cases g;trivial
 |[],_::_,_,_,_,_,i=>i.elim
 |_::_,[],_,_,_,_,i=>i.elim
 |u::z,r::d,a,e,g,k,i=>by
  simp[xV]at g;split at g
  .rename_i p s cY;split at g
   .rename_i q t dC;cases g;rw[U.Y]at k;exact⟨o.n cY k.1 i.1,o.gZ dC k.2 i.2⟩
   grind
  grind
def m8.db(i:m8 aX W h j V b b7){d s}(a:u_ (c aX) h j V d=f (s,Z))(g:U Z)(k:bx (aX++[.q W h j V]) b aa d):bx aX b7 aa s:=by
 cases d with
 |n d=>
  simp[u_]at a;split at a
  .rename_i e p cY;cases a;exact i.n cY g k
  grind
 |T q=>
  simp[u_]at a;split at a
  .rename_i e p cY;cases a;obtain⟨z,o,m⟩:=k;exact⟨z,o,i.gZ cY g m⟩
  grind
 |any=>cases a;trivial
def bc.e2(o:bc (aX++[.q W h j V]) b)(av:kr (c aX) aX=l):
  ∃x:a6,bc aX x/\e_ b x/\m8 aX W h j V b x/\∀{s:m ar} {R:a6},dg s R (aX++[.q W h j V]) b->s.length<=c aX->dg s R aX x:=by
 have aM:(aX++[ar.q W h j V])[c aX]?=f (.q W h j V):=D;have G:c b.t=c aX+1:=by rw[o.len];simp
 have X:b.t[c aX]?=f b.t[c aX]:=bJ w;generalize b.t[c aX]=L at X;have aI:=o.box _ _ L aM X;obtain⟨cl,aj,M,y,aB⟩:∃cl:Mem,(∀i d g,b.D i d=f g->cl i d=f g)/\(∀i,i∉L.al->∀d,cl i d=b.D i d)/\(∀i d g,cl i d=f g->b.a.cell? ⟨i,d,n⟩=f g) /\
   (∀g e d A,cB (aX++[.q W h j V]) b g (.O (c aX) (.B j e d A))->e=h->d+A<=j->Rd cl g (.B v h A (ik d V))):=by
  rcases aI with⟨rfl,rfl⟩|⟨i,aC,z,aL,rfl,br,aO,ac,F,H,aF⟩
  .refine⟨b.D,λ_ _ _ aE=>aE,λ_ _ _=>rfl,o.mem,λg e d A O E aa=>?_⟩;obtain⟨ae,⟨ao,Z,S,aC,J,T,ab,az,au,aw⟩,_,ak⟩:=O;grind[Rd.dK]
  let cl:Mem:=λr d=>if r=i then z[d]? else b.D r d;have an:∀r d g,b.D r d=f g->cl r d=f g:=λr d g J=>by grind
  refine⟨cl,an,λr aN d=>N,λr d g J=>?_,λg e d A O E aa=>?_⟩
  .by_cases E:r=i
   .subst E;simp[cl,dx]at J;simp[aH,br];grind
   simp[cl,E,dn]at J;exact o.mem r d g J
  subst E;obtain⟨ae,⟨ao,Z,S,aD,J,T,ab,az,au,aw⟩,_,ak⟩:=O;obtain⟨cv,Y,aq⟩:=(ak _ _ _ _ aM).2 rfl;rw[X]at Y;cases Y;rw[au]at aq;cases aq;rw[J];have Q:∀q,q<A->∀u C,(ik d V q)[u]?=f C->∃ah,z[(d+q)*e+u]?=f ah/\Rd b.D ah C:=λq t u C p=>by rw[y5]at p;exact H.rd (d+q) w u C p
  refine .B i (d*e) (λq u=>(z[(d+q)*e+u]?).getD I) T w D (λq t=>by rw[y5];exact H.bF _ w) (λaG=>N) (λq t u C p=>N) (λq t u C p=>?_);obtain⟨ah,ax,aP⟩:=Q q t u C p;rw[ax];exact aP.mono an
 have aJ:(aX++[ar.q W h j V]).set (c aX) .N=aX++[.N]:=D;obtain⟨ai,K⟩:=o.b8 (cl:=cl) (bi:=b.a) (eg:=.N) (cv:=⟨L.v,[]⟩) aM X B (bC _) (λ_ _ _=>rfl) (λi _ k d=>M i k d) aj y D rfl rfl rfl B;rw[aJ]at ai K;have af:=ai.drop (bq:=[.N]) av;refine⟨_,af,⟨a,aj,λi k d=>M i (k L (ca X)) d,y,λi k=>?_⟩,⟨λg ao O aK=>?_,λg e d A O E aa=>aB g e d A O E aa⟩,λ{s R} ag U=>(ag.trans (K.too4 o)).drop (bq:=[.N]) U⟩
 .rcases k with k|⟨cv,Y,k⟩
  .exact .inl k
  have:=g4 Y;grind
 exact(O.mono K.ext o.len).drop (bq:=[.N]) aK
end
def bm.bK{C:af P}{D}{args}{b:ι->y}{aX:ι->m ar}{W h}{j:ι->Nat}{V:ι->Nat->m M}(E:bm C D args k res (λa=>aX a++[.q W h (j a) (V a)])){i:ι->m Prop}(N:∀a,u_ (c (aX a)) h (j a) (V a) (res a)=f (b a,i a))(K:∀a,U (i a))(J:∀a,kr (c (aX a)) (aX a)=l)(I:∀a,c k<=c (aX a)):bm C D args k b aX:=by refine⟨E.1,λO z x u F r t=>E.2 O z x u F r λa s R Q w d g B=>?_⟩;obtain⟨A,o,e,p,q⟩:=g.e2 (J a);exact .aO e (t a s R A (w.mono e.mem) (p.db (N a) (K a) d) o (q B (I a)))
def Y.bK{P:aD}{b:af P}{d}{args}{k}{res a}{aX}{W h j}{V:Nat->m M}(p:Y b d args k res (aX++[.q W h j V])){Z}(o:u_ (c aX) h j V res=f (a,Z))(i:U Z)(g:kr (c aX) aX=l)(e:c k<=c aX):Y b d args k a aX:=
 (bm.bK (ι:=Unit) p.tocI (λ_=>o) (λ_=>i) (λ_=>g) (λ_=>e)).toY
section
def Y6{b:ae}(t:r.op=.call {callee:=.builtin .clear,args:=#[b],argTypes:=#[o]})(a:ae->X):
  ab a r=(do pure (.value (<-Builtin.clear_ #[o] r.type #[a b]))):=Sp
def On{a:X}{b}{h}(k:a.cells.toList.map k_=b.map f)(e:c b=h):e3 bB h A (λ_=>b) (Builtin.zeroCells a.cells A).toList:=by
 have j:a.cells.size=h:=by have:=eF List.length k;grind
 have r:bP [] ⟨[],bB,default,λ_=>False⟩ a.cells.toList (b.map Q.c):=uv k;refine⟨by simp[Builtin.zeroCells,j],λ_ _=>e,λg d u o B=>?_⟩;have y:u<h:=N;obtain⟨i,t,s⟩:=r.get (u:=u) (x:=Q.c o) N;refine⟨i,?_,s⟩;have q:g*h+u<A*h:=by
  have:g*h+h<=A*h:=by rw[<-o5];exact hc h d
  omega
 have m:(g*h+u) % h=u:=by grind[Nat.add_mul_mod_self_right,Nat.mod_eq_of_lt]
 have z:u<a.cells.size:=w;have C:a.cells[u]=i:=N;have p:a.cells[u]! = i:=N;simp[Builtin.zeroCells,j,q,m,p]
def a1.eX(a0:b3 P ac){I:ae}(aQ:r.op=.call {callee:=.builtin .clear,args:=#[I],argTypes:=#[o]}){e}(T:b0 ac o=f e)(aL:e.desc=.slice W)(R:b0 ac W=f a5){b}{y}(aa:η I=cE d (.B j a5.size b A))(q:k[d]?=f (.q y a5.size j V))(ak:b+A<=j):
  a1 P r η k .any (k.set d (.q y a5.size j (nV b (b+A) a5.zero V))):=by
 intro s aj p X;have m:=X I;rw[aa]at m;change cB k s (aj I) (.O d _)at m;obtain⟨aS,⟨au,aM,ax,aO,Z,aB,aD,aE,aP,aJ⟩,_,G⟩:=m;obtain⟨L,J,ag⟩:=(G _ _ _ _ q).2 rfl;rw[aP]at ag;have x:=(a0 o e T).eg;rw[aL]at x;rw[Y6 aQ,Z];by_cases U:A=0
 .subst U;have ab:nV b (b+0) a5.zero V=V:=by funext u;simp only[nV];grind
  have Y:k.set d (.q y a5.size j V)=k:=m6;rw[ab,Y];refine⟨.value (.tuple #[]),s,?_,B,p,.refl _ _,?_⟩
  .cases au<;>simp[Builtin.clear_,run_underlying x]
  intro i g;cases au<;>simp[Builtin.clear_,run_underlying x,aC]at g
 obtain⟨aw,rfl,rfl⟩:=aJ w;rcases p.box d _ L q J with⟨_,rfl⟩|⟨aN,hf,z,E,rfl,K,aI,av,aK,ar,an⟩
 .cases ag
 cases ag;obtain⟨aH,h,aq,aV,aX,ao,ai,aY,a⟩:=(a0 W a5 R).cY;have af:=On (bB:=s.D) (A:=A) ai a;have aZ:=af.len;have aG:=ar.len;have aR:b*a5.size+A*a5.size<=j*a5.size:=by rw[<-jM];exact hc _ ak
 have C:=ar.hI af ak;have S:(λe=>if b<=e/\e<b+A then(λ_=>a5.zero) (e-b)else V e)=nV b (b+A) a5.zero V:=rfl;rw[S]at C;obtain⟨ah,t2⟩:=p.gB q J aI av aK K C N an;have az:=af.cell;have O:=run_storeCells_at P aw (b*a5.size) y (Builtin.zeroCells h.cells A).toList 0 (z++E).toArray s.a K N az;have M:((z++E).toArray.toList.take (b*a5.size+0)++(Builtin.zeroCells h.cells A).toList++(z++E).toArray.toList.drop (b*a5.size+0+(Builtin.zeroCells h.cells A).toList.length))=z.take (b*a5.size)++(Builtin.zeroCells h.cells A).toList++z.drop (b*a5.size+(Builtin.zeroCells h.cells A).toList.length)++E:=N;rw[M]at O;have Q:∀t,(zeroValue W).run P t=.ok h t:=λt=>by simp[zeroValue,typeInfo,aq,ao]
 have H:∀t V,(zeroValue W).events P t V=V:=λt V=>by simp[zeroValue,typeInfo,aq,ao,aC]
 obtain⟨F,rfl⟩:∃F,A=F+1:=⟨A-1,by omega⟩
 refine⟨.value (.tuple #[]),_,?_,B,ah,t2,?_⟩
 .simp[Builtin.clear_,run_underlying x,Q,O]
 intro i g;have aT:i∈(storeCells ⟨aw,b*a5.size,n⟩ (Builtin.zeroCells h.cells (F+1)).toList).events P s.a #[]:=by simp only[Builtin.clear_,aC,kf,mn]at g;simpa[run_underlying x,Q,H,O]using g
 rcases nu (Builtin.zeroCells h.cells (F+1)).toList 0 (z++E).toArray s.a #[] K N az i aT with aF|⟨u,_,_,rfl⟩
 .grind
 exact oo (ca J) D (an _)
end
section
variable {q:af P}
theorem g.hc{h}(K:∀e i,b1 F k e J i->bc k e->∃a:a6,a.a=e.a/\b1 F aq a h i/\bc aq a/\cO k e aq a)(N:g q F be (.aj all bq::av) .normal h aq):g q F be (.aj all bq::av) .normal J k:=by intro e i M b C w p B idx u d t;obtain⟨a,I,D,z,y⟩:=K e i M b;have A:=y.too4 b;refine .aO (.of b z I A) ?_;exact N a i D z C w p B idx u d λE m x o O r s j=>t E m x o O r s (A.trans j)
def g.dJ(o)(W h)(dI:Nat->m M){e}{r:Nat->m M}(t:look J o=ax (.B l e 0 r))(i:g q F be (.aj all bq::av) .normal ((o,cE (c k) (.B 0 h 0 0))::J) (k++[.q W h 0 dI])):g q F be (.aj all bq::av) .normal J k:=by
 refine g.hc (λj u a bR=>?_) i;have C:=a.aK o;rw[t]at C;obtain⟨s,b⟩:=bR.b0 (bT:=.q W h 0 dI) (L:=⟨.slice n 0 0,[]⟩) (.refl _ _) rfl bR (.inl ⟨rfl,rfl⟩) D;refine⟨{j with t:=j.t++[⟨.slice n 0 0,[]⟩]},rfl,⟨a.size,a.defers.imp λ_ d=>d.mono b.ext,λp=>?_⟩,s,b⟩;simp only[look];cases cZ:ad o p with
 |false=>exact(a.aK p).mono b.ext bR.len
 |true=>
  exact QU
def g.er(a0:b3 P ac){x:ae}{C u}(O:r.op=.binOp .eql o x (.const (.slice n C u)) ty){e}(D:b0 ac o=f e)(aj:e.desc=.slice W){eU}{h}(U:bE J x=ax (.B eU h j V))(X:r.guard=n)(M:ft F r.dst=l)(I:∀i:Bool,(i=l->j=0)->g q F be (.aj all bq::av) .normal (gi r.dst (ax (.bool i)) J) k):g q F be (.aj all (r::bq)::av) .normal J k:=by
 refine g.cD (ι:={i:Bool // i=l->j=0}) (λi=>ax (.bool i.1)) (λ_=>k) X M (λp N T B=>?_) λi=>I i.1 i.2;have w:=eM T x;rw[U]at w;obtain⟨b,d,z,w,_,_,_,_,E⟩:=(b8 w).b1;have A:=(a0 o e D).eg;rw[aj]at A;have S:=b8 (by have:=eM T x;rw[U]at this;exact this);have ai:b.isNone=l->j=0:=by
  intro ag;rw[w]at S;cases S with
  |B i R ak an aa ah af Z E m=>
   grind
 refine⟨⟨b.isNone,ai⟩,.value (.bool b.isNone),p,.bool b.isNone,?_,.inl a,Rd.bool,B,.refl _ _,?_⟩
 .have m:(binOp .eql o (.slice b j d) (.slice n C u)).run P p.a=.ok (.bool b.isNone) p.a:=Go.Lib.run_eql_slice_nil p.a o W b j d C u A;have K:∀y,eqGuard .eql o x y (.slice b j d) (.slice n C u)=pure ():=λy=>by simp[eqGuard]
  have t:N.eval (.const (.slice n C u))=.slice n C u:=rfl;simp[ab,O,w,t,K];simp[m]
 have Q:∀V,(Op.equal o (.slice b j d) (.slice n C u)).events P p.a V=V:=λV=>by show(aK (9999+1) o _ _).events P p.a V=V;unfold aK;cases b<;>simp[underlying,A]
 have m:(Op.equal o (.slice b j d) (.slice n C u)).run P p.a=.ok b.isNone p.a:=by show(aK (9999+1) o _ _).run P p.a=_;grind[Go.Lib.run_equalIn_slice_nil]
 have K:∀y,eqGuard .eql o x y (.slice b j d) (.slice n C u)=pure ():=λy=>by simp[eqGuard]
 have t:N.eval (.const (.slice n C u))=.slice n C u:=rfl;intro Y s;exfalso;simp[ab,O,w,t,K,binOp]at s;simp[m,Q,aC]at s
end
def gd(a:m UInt8):m X:=a.map λb=>.int .u8 b.toNat
theorem NS{ah}:c (gd ah)=c ah:=by simp[gd]
def aeA{ah i}:gd (ah++i)=gd ah++gd i:=by simp[gd]
def jQ(b:Option (Nat×Nat))(e:Nat):X:=match b with|none=>.slice n 0 0|some (d,a)=>.slice (f ⟨d,0,n⟩) e a
def eP(r q:an)(s:Bool)(h:X)(i:Option (Nat×Nat))(b:m UInt8)(o:Nat):X->(Nat->Option Obj)->Prop:=λp d=>
 ∃g,p=.pointer (f ⟨g,0,n⟩)/\dU h=l/\d g=f (.cells #[if s then p else .pointer n,h] r (0,0)) /\
 match i with
 |none=>b=[]/\∀e,(d e).isSome=l↔e=g
 |some (j,a)=>j≠g/\c b<=a/\0<a/\a<=9223372036854775807/\o<=c b/\(∃k,c (gd b++k)=a/\d j=f (.cells (gd b++k).toArray q (0,o)))/\∀e,(d e).isSome=l↔e=g∨e=j
section
variable {q:af P}{h:m (Nat×cq)}{ac:an}{x:Bool}{v1:X}{bQ:Option (Nat×Nat)}{ah:m UInt8}{aj:Nat}
structure m7(P:aD)(k:m ar)(b:a6)(d:Nat)(ac W:an)(x:Bool)(v1:X)(bQ:Option (Nat×Nat))(ah:m UInt8)(aj:Nat)(L:Loc)(i:Nat)(cU:Nat->Option Obj):Prop where
 t:b.t[d]?=f L
 v:L.v=.pointer (f ⟨i,0,n⟩)
 ga:eP ac W x v1 bQ ah aj L.v cU
 heap:∀(i:Nat) (r:Obj),cU i=f r->b.a.heap[i]?=f r
 al:∀i,i∈L.al↔(cU i).isSome=l
 D:∀i∈L.al,∀r,b.D i r=n
 cU:cU i=f (.cells #[if x then L.v else .pointer n,v1] ac (0,0))
 cell:dU v1=l
def eP.row(bR:bc k b)(m:k[d]?=f (.K (eP ac W x v1 bQ ah aj))):∃L e a,m7 P k b d ac W x v1 bQ ah aj L e a:=by have p:d<c b.t:=h_;have g:=bJ p;generalize b.t[d]=L at g;obtain⟨a,o,h,i,s⟩:=bR.box d _ L m g;have q:=o;obtain⟨e,r,t,j,_⟩:=q;exact⟨L,e,a,g,r,o,h,i,s,j,t⟩
def m7.mem{L}(a:m7 P k b d ac W x v1 bQ ah aj L i lc):i∈L.al:=(a.al i).2 (by rw[a.cU];rfl)
def m7.ptr{L}(g:m7 P k b d ac W x v1 bQ ah aj L i lc)(h:bx k b aa (aI d off)):aa=.pointer (f ⟨i,off,n⟩):=by obtain⟨_,j,m,a,e,rfl⟩:=(h:cB k b aa (.ptr d off));rw[g.t]at a;cases a;rw[g.v]at e;grind
def Bp(a0:b3 P h){q:ae}{e}(w:r.op=.load o q)(p:b0 h o=f e)(C:e.agg=v)(M:k[d]?=f (.K (eP ac W x v1 bQ ah aj))){u}(E:η q=aI d off)(Q:∀a L b g,bc k a->m7 P k a d ac W x v1 bQ ah aj L b g->∃m,(#[if x then L.v else .pointer n,v1]:Array X)[off]?=f m/\bx k a m u):a1 P r η k u k:=by
 refine .dv λa s B G=>?_;obtain⟨L,b,g,i⟩:=eP.row (P:=P) B M;have A:=i.ptr (by have:=G q;rwa [E]at this);obtain⟨m,H,O⟩:=Q a L b g B i;have I:a.a.cell? ⟨b,off,n⟩=f m:=by simp only[aH,i.heap _ _ i.cU];grind
 have t:(loadVar o ⟨b,off,n⟩).run P a.a=.ok m a.a:=by simp[loadVar,(a0 o e p).ez,C,run_load,I]
 refine⟨m,by simp[ab,w,A,Instr.loadAt,Instr.sureAddr,t],O,λz y=>?_⟩;have K:z∈(loadVar o ⟨b,off,n⟩).events P a.a #[]:=by
  have F:ab s r=(do pure (.value (<-loadVar o ⟨b,off,n⟩))):=by simp[ab,w,A,Instr.loadAt,Instr.sureAddr]
  rw[F]at y;simpa[t]using y
 obtain⟨J,D,rfl⟩:=pe (a0 o e p) (j:=1) (λJ D=>by grind) N z K;exact qo (ca i.t) i.mem
def a1.eS(a0:b3 P h){g:ae}{e}(p:r.op=.load o g)(a:b0 h o=f e)(i:e.agg=v)(b:k[d]?=f (.K (eP ac W x v1 bQ ah aj)))(m:η g=aI d 1):a1 P r η k (cM v1) k:=
 Bp a0 p a i b m λu L t j q s=>⟨v1,by simp,Rd.val s.cell⟩
def aaN(e:k[d]?=f (.K H)):∀a,k[d]?=f a->a.dT=v:=by intro a b;rw[e]at b;cases b;rfl
def a1.gJ(a0:b3 P h){i:ae}{e}(s:r.op=.load o i)(b:b0 h o=f e)(m:e.agg=v)(a:k[d]?=f (.K (eP ac W l v1 bQ ah aj)))(q:η i=aI d 0):a1 P r η k (aI d 0) k:=
 Bp a0 s b m a q λu L j p t g=>⟨L.v,by simp,aaN a,L,j,g.t,g.v,g.v⟩
def a1.iq(a0:b3 P h){g:ae}{e}(p:r.op=.load o g)(a:b0 h o=f e)(j:e.agg=v)(b:k[d]?=f (.K (eP ac W v v1 bQ ah aj)))(m:η g=aI d 0):a1 P r η k (ax .bp) k:=
 Bp a0 p a j b m λu L s i q t=>⟨.pointer n,by simp,Rd.bp⟩
def setRow_size(a:au)(i)(row):(a.setRow i row).heap.size=a.heap.size:=by simp[World.setRow]
def Hd(a0:b3 P h){D p:ae}{e}(Z:r.op=.store o D p)(A:b0 h o=f e)(y:e.size=1)(V:k[d]?=f (.K (eP ac W x v1 bQ ah aj))){s}{t}(R:η D=aI d off)(O:off<2)(J:dU t=l)(ao:∀m L i q z,bc k m->m7 P k m d ac W x v1 bQ ah aj L i q->bx k m z (η p)->dU z=l/\(#[if x then L.v else .pointer n,v1]:Array X).setIfInBounds off z=#[if s then L.v else .pointer n,t]):a1 P r η k .any (k.set d (.K (eP ac W s t bQ ah aj))):=by
 intro m b I Y;obtain⟨L,i,q,j⟩:=eP.row (P:=P) I V;have G:=j.ptr (by have:=Y D;rwa [R]at this);obtain⟨M,H⟩:=ao m L i q (b p) I j (Y p);have af:(b p).cells=#[b p]:=by cases F:b p<;>simp[F,dU,Value.cells]at M⊢
 have ai:∀z∈[b p],z.oneCell'=l:=by intro z G;simp at G;subst G;cases F:b p<;>simp[F,dU,Value.oneCell']at M⊢
 have S:=j.heap _ _ j.cU;have T:=run_storeCells_at P i off ac [b p] 0 _ m.a S N ai;have Q:((#[if x then L.v else .pointer n,v1]:Array X).toList.take (off+0)++[b p]++(#[if x then L.v else .pointer n,v1]:Array X).toList.drop (off+0+[b p].length)).toArray=#[if s then L.v else .pointer n,t]:=by
  rw[<-H]
  match off,O with
  |0,_=>grind
  |1,_=>grind
 rw[Q]at T;have ax:(m.a.setRow i #[if s then L.v else .pointer n,t]).heap[i]?=f (.cells #[if s then L.v else .pointer n,t] ac (0,0)):=setRow_heap m.a i _ _ ac _ S;have ag:∀g,g≠i->(m.a.setRow i #[if s then L.v else .pointer n,t]).heap[g]?=m.a.heap[g]?:=λg w=>setRow_other m.a i g _ w;obtain⟨C,t2⟩:=I.cd (d:=d) (j_:=eP ac W s t bQ ah aj) (cv:=L) (bi:=m.a.setRow i #[if s then L.v else .pointer n,t]) V j.t rfl (by rw[setRow_size];grind)
  (λg w K=>ag g (by rintro rfl;exact K j.mem)) (λg w=>.inl w)
  ⟨λg=>if g=i then f (.cells #[if s then L.v else .pointer n,t] ac (0,0))else q g,by
   obtain⟨E,U,ar,au,av⟩:=j.ga;have:E=i:=by rw[j.v]at U;grind
   subst this;have aw:∀g,(if g=E then f (Obj.cells #[if s then L.v else .pointer n,t] ac (0,0))else q g).isSome=l↔(q g).isSome=l:=N;refine⟨E,U,J,by simp,?_⟩;grind,λg aq w=>by
   by_cases u:g=i
   .grind
   .simp only[u,dn]at w;rw[ag g u];exact j.heap _ _ w,λg=>by
   rw[j.al g];by_cases u:g=i
   .subst u;simp[j.cU]
   grind⟩ a a a
 have ak:m.t.set d L=m.t:=by
  apply qa;intro aa;by_cases u:d=aa
  .subst u;rw[iy (cP.1 j.t).1,j.t]
  grind
 rw[ak]at C t2;refine⟨.skip,{m with a:=m.a.setRow i #[if s then L.v else .pointer n,t]},?_,rfl,C,t2,?_⟩
 .simp[ab,Z,G,Instr.storeAt,Instr.sureAddr,storeVar,(a0 o e A).bc,y,af,T]
 intro aP B;have u:ab b r=(do storeVar o ⟨i,off,n⟩ (b p);pure .skip):=by simp[ab,Z,G,Instr.storeAt,Instr.sureAddr]
 rw[u]at B;have an:aP∈(storeCells ⟨i,off,n⟩ [b p]).events P m.a #[]:=by
  simp only[storeVar,aC,(a0 o e A).bc,af,y,aE,events_sizeOf,ea,hI,dn,cK,c_,Sem.events_pure,List.size_toArray,gC]at B;generalize(storeCells ⟨i,off,n⟩ [b p]).run P m.a=j at B;cases j with
  |ok z bi=>simpa using B
  |halt D bi=>simpa using B
 rcases nu [b p] 0 _ m.a #[] S N ai aP an with az|⟨aa,_,_,rfl⟩
 .grind
 exact oo (ca j.t) j.mem (j.D _ j.mem _)
def a1.f'(a0:b3 P h){i j:ae}{e}(q:r.op=.store o i j)(a:b0 h o=f e)(p:e.size=1)(b:k[d]?=f (.K (eP ac W x v1 bQ ah aj))){s}(z:η i=aI d 1)(u:η j=cM s)(y:dU s=l):a1 P r η k .any (k.set d (.K (eP ac W x s bQ ah aj))):=
 Hd a0 q a p b z w y λC L A m D t B g=>by rw[u]at g;have:=Rd.bd g;grind
def a1.ir(a0:b3 P h){m p:ae}{e}(u:r.op=.store o m p)(b:b0 h o=f e)(q:e.size=1)(g:k[d]?=f (.K (eP ac W x v1 bQ ah aj)))(A:η m=aI d 0)(t:η p=aI d 0)(z:dU v1=l):a1 P r η k .any (k.set d (.K (eP ac W l v1 bQ ah aj))):=
 Hd a0 u b q g A w z λC L B s D y j i=>by rw[t]at i;have:=j.ptr i;subst this;refine⟨a,?_⟩;rw[<-j.v];rfl
def a1.ih{ac}(p:r.op=.alloc ac)(q:∀j,(zeroValue ac).run P j=.ok (.agg #[.pointer n,.slice n 0 0]) j)(u:∀j g,(zeroValue ac).events P j g=g):a1 P r η k (aI (c k) 0) (k++[.K (eP ac W v (.slice n 0 0) n [] 0)]):=by
 intro b A bR w;let bi:=b.a.alloc (.cells #[.pointer n,.slice n 0 0] ac);obtain⟨y,x⟩:=bR.cX (cl:=b.D) (bi:=bi) (by simp[bi]) (λt h=>i6 b.a _ h) (λ_ _ _=>rfl) (λt h r z e=>by have:=bR.block e;omega) rfl rfl rfl;have C:bi.heap.size=b.a.heap.size+1:=by simp[bi]
 have B:bi.heap[b.a.heap.size]?=f (.cells #[.pointer n,.slice n 0 0] ac (0,0)):=lZ b.a _;obtain⟨o,t2⟩:=y.b0 x rfl bR (bT:=.K (eP ac W v (.slice n 0 0) n [] 0)) (L:=⟨.pointer (f ⟨b.a.heap.size,0,n⟩),[b.a.heap.size]⟩)
  ⟨λd=>if d=b.a.heap.size then f (.cells #[.pointer n,.slice n 0 0] ac (0,0))else n,⟨b.a.heap.size,rfl,rfl,by simp,rfl,λd=>by by_cases m:d=b.a.heap.size<;>simp[m]⟩,λd s i=>by
   grind,λd=>by by_cases m:d=b.a.heap.size<;>simp[m],λd i s=>by
   simp at i;subst i;show b.D _ _=n;cases e:b.D b.a.heap.size s with
   |none=>rfl
   |some z=>have:=bR.block e;omega⟩ (λd i=>by grind)
 refine⟨.value (.pointer (f ⟨b.a.heap.size,0,n⟩)),_,?_,⟨by simp,⟨.pointer (f ⟨b.a.heap.size,0,n⟩),[b.a.heap.size]⟩,b.a.heap.size,?_,a,a⟩,o,t2,?_⟩
 .simp[ab,p,Instr.alloc,q,Go.newVar,newRow,Value.cells,bi]
 .exact uh
 simp[ab,p,Instr.alloc,q,u,Go.newVar,newRow];exact .nil
end
end Go.AM
