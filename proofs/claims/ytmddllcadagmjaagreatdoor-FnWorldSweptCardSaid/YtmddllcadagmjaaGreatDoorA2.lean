/- Part 2. No condition. -/
import Derived.Test.YtmddllcadagmjaaGreatDoorA1
import Derived.KernelRfl
import Derived.Test.YtmddllcadagmjaaGreatDoorProg
import Derived.MapKept
import Derived.Maps.RangeRun
import Derived.Laws.MakeOwn
import Derived.Lib.SliceRun
import Derived.Lib.FrozenHead
import Derived.Lib.UnsafeStr
import Derived.Lib.MakeNoZero
import Derived.Laws.Externs
import Derived.Lib.Builder
set_option linter.all false
set_option maxHeartbeats 8000000
open Go.Proofs
open Go.Proofs.Tryz
open Go.Conc (G)
open List renaming length → c, range → aA, getD_eq_getElem?_getD → aj, all_eq_true → aW
open Go renaming Value → X, TypeId → ak, Event → aO, undef → J, World → au, Frame → aG, FuncId → a0, execOp → ab, Operand → ae, Program → aD, Goroutine → ai, stepG → ao, Oper → an
open Option renaming some → h, none → n
open Bool renaming true → l, false → v
open Nat renaming beq → ad, ble → ax
open Go.Region renaming wanted → aP, ready → aN
open Go.World renaming cell? → aI
open Go.Instr renaming sliceBounds → aT
open Go.Sem renaming events_bind → aC
open Go.Result renaming evThen_ok → aF
open Go.Op renaming equalIn → aL
open Go.Proofs.Tryz renaming prog → T
namespace Go.AM
variable {j A:Nat}{f:Int}{d i e u:Nat}{W:ak}{H:X->(Nat->Option Obj)->Prop}{L:Array Bool}{bB:Mem}{F:Nat}{P:aD}{br:ai->a6->Prop}{t:Code}{C:ai}{r:an}{b:a6}{o:ak}{aa:X}{p:au}{α:Type}{η:ae->y}{ι:Type}{k:m aq}{I:bL}{all:m an}{dt:Array ak}{cap:m M}{cS:m y}{ld:Nat->Option Obj}{ah:m aG}{bh:m (Nat×Bool)}{V:Nat->m M}{cQ:ae}{gs:Array ai}{aX:m Nat}{cq:m Prop}{off:Nat}{op:BinOp}{aR:Array an}{Z:m Prop}{bq:m an}{aE:a6}{ty:ak}{val:Nat->Nat->X}{z:m X}{bi:au}{ag:Array ae}{ar dj:m aq}{res:ι->y}{aU:ι->m aq}
section force
variable {S:Type}
def vp:M->(M->Option S)->Option S
 |.int f g,a=>a (.int f g)
 |.bool e,a=>a (.bool e)
 |.T m,a=>a (.T m)
 |.B l f g d,a=>a (.B l f g d)
 |.B v f g d,a=>a (.B v f g d)
 |.R b,a=>e5 b λb=>a (.R b)
 |.cE o b,a=>e5 b λb=>a (.cE o b)
 |.fn k i e,a=>e5 i λi=>e5 e λe=>a (.fn k i e)
 |j,a=>a j
def Ze(t)(b:M->Option S):vp t b=b t:=by
 cases t with
 |B d=>cases d<;>rfl
 |R a=>simp[vp,hJ]
 |cE d a=>simp[vp,hJ]
 |fn g e f=>simp[vp,hJ]
 |_=>rfl
def vo:R->(R->Option S)->Option S
 |.c j,a=>vp j λj=>a (.c j)
 |.ptr b i,a=>a (.ptr b i)
 |.x b d g e,a=>a (.x b d g e)
 |.aY b,a=>a (.aY b)
 |.O b (.B f d i g),a=>a (.O b (.B f d i g))
 |.O b (.bx f d m k),a=>a (.O b (.bx f d m k))
 |.any,a=>a .any
def J6(a)(b:R->Option S):vo a b=b a:=by
 cases a with
 |O e d=>cases d<;>simp[vo]
 |_=>simp[vo,Ze]
def yC:m R->(m R->Option S)->Option S
 |[],b=>b []
 |a::d,b=>vo a λa=>yC d λd=>b (a::d)
def Zd(d)(a:m R->Option S):yC d a=a d:=by
 induction d generalizing a with
 |nil=>rfl
 |cons e f b=>simp[yC,J6,b]
def yE:E1->(E1->Option S)->Option S
 |.Q b,d=>vo b λb=>d (.Q b)
 |.agg a,d=>yC a λa=>d (.agg a)
def J7(a)(b:E1->Option S):yE a b=b a:=by cases a<;>simp[yE,J6,Zd]
def yF:m E1->(m E1->Option S)->Option S
 |[],b=>b []
 |a::d,b=>yE a λa=>yF d λd=>b (a::d)
def Zf(d)(a:m E1->Option S):yF d a=a d:=by
 induction d generalizing a with
 |nil=>rfl
 |cons e f b=>simp[yF,J7,b]
def pf:y->(y->Option S)->Option S
 |.n d,b=>yE d λd=>b (.n d)
 |.S a,b=>yF a λa=>b (.S a)
 |.any,b=>b .any
theorem vq(a)(b:y->Option S):pf a b=b a:=by cases a<;>simp[pf,J7,Zf]
end force
def qQ:y->Option (Bool×Nat×Nat×(Nat->m M))
 |.n (.Q (.c (.B e b d a)))=>h (e,b,d,a)
 |.n (.Q (.x _ b d a))=>h (v,b,d,a)
 |_=>n
theorem tQ{d}{o}{f}(a:qQ d=h (o,f,j,V))(k)(b)(aa)(e:bx k b aa d):Rd b.D aa (.B o f j V):=by
 unfold qQ at a;split at a
 .cases a;exact e
 .cases a;exact e.1
 grind
def kM(b:m UInt8)(a:Int):UInt8:=b.getD a.toNat 0
def Dv(b:m (Nat×cr))(g:ak)(a:y):Option y:=
 match bX b g with
 |none=>n
 |some d=>match d.desc with
  |.slice _=>match qQ a with
   |some (_,_,e,_)=>h (ay (.int .i64 e))
   |none=>n
  |.string=>match a with
   |.n (.Q (.c (.T f)))=>h (ay (.int .i64 (c f)))
   |_=>n
  |_=>n
def Cf(e:m (Nat×cr))(b dst:ak)(d:y):Option (y×m Prop):=
 match bX e b with
 |none=>n
 |some g=>match bX e dst with
  |none=>n
  |some i=>match i.desc with
   |.int a=>match d with
    |.n (.Q (.c (.int _ k)))=>h (ay (.int a k),[a7 a k])
    |_=>n
   |.string=>match d with
    |.n (.Q (.c (.T s)))=>h (ay (.T s),[])
    |d=>match g.desc with
     |.slice o=>match bX e o with
      |some j=>match j.desc with
       |.int .u8=>match qQ d with
        |some (_,p,q,f)=>match ad p 1 with
         |true=>match u3 f 0 q with
          |some r=>h (ay (.T r),[])
          |none=>n
         |false=>n
        |none=>n
       |_=>n
      |none=>n
     |_=>n
   |_=>n
def Ex(j:m (Nat×cr))(a:ae->y)(t:ak)(p:ae)(i g:Option ae):Option (y×m Prop):=
 match bX j t with
 |none=>n
 |some r=>match kL a i with
  |none=>n
  |some d=>match kL a g with
   |none=>n
   |some e=>match r.desc with
    |.string=>match a p with
     |.n (.Q (.c (.T o)))=>h (ay (.T (mv o d e)),jq (c o) d e)
     |_=>n
    |.slice q=>match bX j q with
     |none=>n
     |some b=>match qQ (a p)with
      |some (eQ,s,k,f)=>match ad s b.size with
       |true=>h (ay (.B (x1 eQ e) b.size (bV k e-bV 0 d) (fH (bV 0 d) f)),jq k d e)
       |false=>n
      |none=>n
    |_=>n
def sR(d:BinOp)(e:IntKind)(f:Int)(b:IntKind)(g:Int):Option (y×m Prop):=
 match uY d e f b g with
 |some (i,a)=>h (ay (.int e i),a)
 |none=>n
theorem S_{f a}{b i}{e}(g:sR op f b a i=h (e,cq)):∃d,e=ay (.int f d)/\uY op f b a i=h (d,cq):=by unfold sR at g;grind
def GU(q:m (Nat×cr))(e:BinOp)(r:ak)(t u:y):Option (y×m Prop):=
 match t,u with
 |.n (.Q (.c (.bool b))),.n (.Q (.c (.bool a)))=>match bX q r with
  |some p=>match p.desc with
   |.bool=>match ih e (b==a)with
    |some f=>h (ay (.bool f),[])
    |none=>n
   |_=>n
  |none=>n
 |.n (.Q (.c b)),.n (.Q (.c a))=>match e with
  |.xor=>match b,a with
   |.int .i64 b,.int .i64 a=>h (ay (.int .i64 ((b.toNat ^^^ a.toNat:Nat):Int)),[0<=b,0<=a])
   |.int .u64 b,.int d a=>sR .xor .u64 b d a
   |_,_=>n
  |.shl=>match b,a with
   |.int g b,.int d a=>sR .shl g b d a
   |_,_=>n
  |.shr=>match b,a with
   |.int g b,.int d a=>sR .shr g b d a
   |_,_=>n
  |.and=>match b,a with
   |.int g b,.int d a=>sR .and g b d a
   |_,_=>n
  |_=>match xy e b a with
   |some (f,i)=>h (ay f,i)
   |none=>n
 |.n (.agg j),.n (.agg o)=>match bX q r with
  |some p=>match p.eq with
   |[]=>n
   |s::k=>match qn (s::k) j o with
    |some a=>match ih e a with
     |some f=>h (ay (.bool f),[])
     |none=>n
    |none=>n
  |none=>n
 |_,_=>n
def y9(f:m (Nat×cr))(A:m (Nat×bH))(b:bL)(O:an):Option (y×m Prop):=
 match O.op with
 |.move a|.assign a=>h (bF b a,[])
 |.index d a x=>match bX f d with
  |some k=>match k.desc with
   |.string=>match bF b a,bF b x with
    |.n (.Q (.c (.T r))),.n (.Q (.c (.int _ i)))=>h (ay (.int .u8 (kM r i).toNat),[0<=i,i<c r])
    |_,_=>n
   |_=>n
  |none=>n
 |.indexAddr d a x=>match bX f d with
  |some k=>match k.desc with
   |.slice M=>match bX f M with
    |some I=>match qQ (bF b a),bF b x with
     |some (_,o,z,p),.n (.Q (.c (.int _ i)))=>match ad o I.size with
      |true=>h (ay (.R (p i.toNat)),[0<=i,i<z])
      |false=>n
     |_,_=>n
    |none=>n
   |_=>n
  |none=>n
 |.slice d a J F n=>Ex f (bF b) d a J F
 |.convert w dst a=>Cf f w dst (bF b a)
 |.call g=>match g.callee with
  |.builtin .len=>match g.args.toList,g.argTypes[0]? with
   |[a],h d=>match Dv f d (bF b a)with
    |some N=>h (N,[])
    |none=>n
   |_,_=>n
  |.value E=>B2 A b E g.args.toList
  |_=>n
 |.pick g s t=>match bF b g with
  |.n (.Q (.c (.bool l)))=>h (bF b s,[])
  |.n (.Q (.c (.bool v)))=>h (bF b t,[])
  |_=>n
 |.binOp q d a x _=>GU f q d (bF b a) (bF b x)
 |.unOp q _ a=>match bF b a with
  |.n (.Q (.c s))=>match zW q s with
   |some g=>h (ay g,[])
   |none=>n
  |_=>n
 |.extract a i=>match bF b a with
  |.S K=>match db i K with
   |some u=>h (.n u,[])
   |none=>n
  |_=>n
 |.fieldAddr d a D=>match lm f d D with
  |some (o,_)=>match bF b a with
   |.n (.Q (.ptr r j))=>h (aH r (j+o),[])
   |.n (.Q (.c (.R e)))=>h (ay (.R (gf o e)),[])
   |_=>n
  |none=>n
 |.field d a D=>match lm f d D with
  |some (o,i)=>match bF b a with
   |.n (.agg e)=>match ht i (gf o e)with
    |some u=>h (.n u,[])
    |none=>n
   |_=>n
  |none=>n
 |.nilCheck a=>match bF b a with
  |.n (.Q (.ptr r j))=>h (aH r j,[])
  |.n (.Q (.c (.R e)))=>h (ay (.R e),[])
  |_=>n
 |.build d parts=>match xC f (bF b) d parts.toList with
  |some e=>h (.n (.agg e),[])
  |none=>n
 |.buildSlice d z parts=>match rZ f (bF b) d z parts.toList with
  |some (o,p)=>h (ay (.B l o z λk=>p.getD k []),[])
  |none=>n
 |.makeFunc fn s t=>match rH (bF b) s.toList with
  |some B=>match rH (bF b) t.toList with
   |some C=>h (ay (.fn fn B C),[])
   |none=>n
  |none=>n
 |.makeInterface d a=>match bX f d with
  |some k=>match vD k.desc with
   |false=>match y1 d (bF b a)with
    |some g=>h (ay g,[])
    |none=>n
   |true=>n
  |none=>n
 |.typeAssert a _ d l=>match bX f d with
  |some k=>match vD k.desc with
   |false=>match bF b a with
    |.n (.Q (.c g))=>match sP d k g with
     |some (u,t)=>h (.S [u,.Q (.c (.bool t))],[])
     |none=>n
    |_=>n
   |true=>n
  |none=>n
 |_=>n
def Dz(g:m (Nat×cr))(f:bL)(i:m aq)(k:ak)(o:ae):Option y:=
 match bX g k with
 |some e=>match bF f o with
  |.n (.Q (.ptr j b))=>match db j i with
   |some (.cells _ a)=>match ht e (gf b a)with
    |some d=>h (.n d)
    |none=>n
   |_=>n
  |.n (.Q (.c (.R a)))=>match ht e (a.map R.c)with
   |some d=>h (.n d)
   |none=>n
  |_=>n
 |none=>n
def DV(k:m (Nat×cr))(b:bL)(J:an):Option (y×m Prop):=
 match J.op with
 |.indexAddr j f w=>match bX k j with
  |some a=>match a.desc with
   |.slice q=>match bX k q with
    |some e=>match bF b f,bF b w with
     |.n (.Q (.O s (.B r o u g))),.n (.Q (.c (.int _ d)))=>match ad o e.size with
      |true=>h (cF s (.bx r e.size (u+d.toNat) 0),[0<=d,d<g])
      |false=>n
     |.n (.Q (.c (.val (.slice (h ⟨z,i,n⟩) p _)))),.n (.Q (.c (.int _ d)))=>h (ay (.val (.pointer (h ⟨z,i+d.toNat*e.size,n⟩))),[0<=d,d<p])
     |_,_=>n
    |none=>n
   |_=>n
  |none=>n
 |.fieldAddr j f I=>match lm k j I with
  |some (o,_)=>match bF b f with
   |.n (.Q (.O s (.bx r x a u)))=>h (cF s (.bx r x a (u+o)),[])
   |.n (.Q (.c (.val (.pointer (h ⟨z,i,n⟩)))))=>h (ay (.val (.pointer (h ⟨z,i+o,n⟩))),[])
   |_=>n
  |none=>n
 |.nilCheck f=>match bF b f with
  |.n (.Q (.O s (.bx r x a u)))=>h (cF s (.bx r x a u),[])
  |_=>n
 |.slice j f D C n=>match bX k j with
  |none=>n
  |some a=>match kL (bF b) D with
   |none=>n
   |some t=>match kL (bF b) C with
    |none=>n
    |some F=>match a.desc with
     |.slice q=>match bX k q with
      |none=>n
      |some e=>match bF b f with
       |.n (.Q (.O s (.B r o u g)))=>match ad o e.size with
        |true=>h (cF s (.B r e.size (u+bV 0 t) (bV g F-bV 0 t)),jq g t F)
        |false=>n
       |_=>n
     |_=>n
 |.slice j f n (h w) (h E)=>match bX k j with
  |none=>n
  |some a=>match a.desc with
   |.slice q=>match bX k q with
    |none=>n
    |some _=>match qQ (bF b f),bF b w,bF b E with
     |some (_,o,p,B),.n (.Q (.c (.int _ d))),.n (.Q (.c (.int _ g)))=>h (ay (.B v o d.toNat B),[0<=d,d<=g,g<=p])
     |_,_,_=>n
   |_=>n
 |.slice j f (h K) (h w) (h E)=>match bX k j with
  |none=>n
  |some a=>match a.desc with
   |.slice q=>match bX k q with
    |none=>n
    |some _=>match bF b f,bF b K,bF b w,bF b E with
     |.n (.Q (.O _ (.B _ _ _ p))),.n (.Q (.c (.int _ a))),.n (.Q (.c (.int _ d))),.n (.Q (.c (.int _ g)))=>h (.n (.Q .any),[0<=a,a<=d,d<=g,g<=p])
     |_,_,_,_=>n
   |_=>n
 |.call A=>match A.callee with
  |.builtin .len=>match A.args.toList,A.argTypes[0]? with
   |[f],h j=>match bX k j with
    |some a=>match a.desc with
     |.slice _=>match bF b f with
      |.n (.Q (.O _ (.B _ _ _ g)))=>h (ay (.int .i64 g),[])
      |.n (.Q (.c (.val (.slice _ p _))))=>h (ay (.int .i64 p),[p<=9223372036854775807])
      |_=>n
     |_=>n
    |none=>n
   |_,_=>n
  |_=>n
 |_=>n
def yT(i:m (Nat×cr))(g:bL)(j:m aq)(s:ak)(t:ae):Option (y×m Prop):=
 match bX i s with
 |some b=>match bF g t with
  |.n (.Q (.O r (.bx p q e o)))=>match db r j with
   |some (.q _ d f a)=>match ad d q with
    |true=>match ht b ((gf o (a e)).map R.c)with
     |some k=>h (.n k,[p=f,e<f])
     |none=>n
    |false=>n
   |_=>n
  |_=>n
 |none=>n
def aeC:Nat->m M->Nat->Bool
 |0,a,b=>ad (c a) b
 |_+1,_,_=>v
def EJ(u:m (Nat×cr))(q:bL)(i:m aq)(w:ak)(x z:ae):Option (y×m aq×m Prop):=
 match bX u w with
 |some k=>match bF q x with
  |.n (.Q (.O o (.bx s t g r)))=>match db o i with
   |some (.q p e f d)=>match ad e t with
    |true=>match mt (bF q z)with
     |some new=>match ad (c new) k.size with
      |true=>match h' new with
       |some b=>match aeC r b t with
        |true=>e5 (de.cp o (.q p e f (l9 g b d)) i) λa=>h (.any,a,[s=f,g<f])
        |false=>match jb r b (d g)with
         |some j=>e5 (de.cp o (.q p e f (l9 g j d)) i) λa=>h (.any,a,[s=f,g<f])
         |none=>n
       |none=>n
      |false=>n
     |none=>n
    |false=>n
   |_=>n
  |_=>n
 |none=>n
def pw(b:m (Nat×cr))(d:m (Nat×bH))(a:bL)(f:m aq)(e:an):Option (y×m Prop):=
 match e.op with
 |.load g i=>match Dz b a f g i with
  |some j=>h (j,[])
  |none=>yT b a f g i
 |_=>match y9 b d a e with
  |some k=>h k
  |none=>DV b a e
def xr(e:m (Nat×cr))(i t2:ak):Option (ak×cr):=
 match bX e i with
 |none=>n
 |some g=>match bX e t2 with
  |none=>n
  |some f=>match g.desc with
   |.slice b=>match f.desc with
    |.slice d=>match ad d b with
     |false=>n
     |true=>match bX e b with
      |none=>n
      |some a=>match ax 1 a.bytes,ax 1 a.size with
       |true,l=>h (b,a)
       |_,_=>n
    |_=>n
   |_=>n
def uU(g:m (Nat×cr))(e:ae->y)(k:ae)(j t2:ak):Option (ak×cr×Nat×(Nat->m M)):=
 match xr g j t2 with
 |none=>n
 |some (f,b)=>match qQ (e k)with
  |none=>n
  |some (_,d,i,a)=>match ad d b.size with
   |false=>n
   |true=>h (f,b,i,a)
def A'(t:m (Nat×cr))(s:ae->y)(j:m aq)(x z:ae)(w t2:ak):Option (y×m aq×m Prop):=
 match uU t s z w t2 with
 |none=>n
 |some (q,a,i,b)=>match s x with
  |.n (.Q (.c (.B l r d f)))=>match ad r a.size with
   |true=>e5 (j++[.x q a.size (d+i) (ck d f b)]) λg=>h (.n (.Q (.x (c j) a.size (d+i) (ck d f b))),g,[(d+i)*a.bytes<=140737488355328,d=0∨0<i])
   |false=>match ad d 0 with
    |true=>e5 (j++[.x q a.size (d+i) (ck d f b)]) λg=>h (.n (.Q (.x (c j) a.size (d+i) (ck d f b))),g,[(d+i)*a.bytes<=140737488355328,d=0∨0<i])
    |false=>n
  |.n (.Q (.x p r d f))=>match db p j with
   |some (.x k o e kP)=>match ad k q,ad r a.size,ad o a.size with
    |true,l,l=>e5 (de.cp p (.x q a.size (d+i) (ck d f b)) j) λg=>h (.n (.Q (.x p a.size (d+i) (ck d f b))),g,[e=d,kP=f,(d+i)*a.bytes<=140737488355328])
    |_,_,_=>n
   |_=>n
  |.n (.Q (.O p (.B u r 0 d)))=>match db p j with
   |some (.q k o e kP)=>match ad k q,ad r a.size,ad o a.size with
    |true,l,l=>e5 (de.cp p (.q q a.size (e+i) (ck e kP b)) j) λg=>h (cF p (.B (e+i) a.size 0 (e+i)),g,[u=e,d=e,(e+i)*a.bytes<=140737488355328])
    |_,_,_=>n
   |_=>n
  |_=>n
def DY(d:m (Nat×cr))(f:m (Nat×bH))(a:bL)(b:m aq)(i:an):Option (y×m aq×m Prop):=
 match i.op with
 |.alloc _|.box _ _=>y8 d a b i
 |.store j k o=>match y8 d a b i with
  |some p=>h p
  |none=>EJ d a b j k o
 |.call e=>match e.callee with
  |.builtin .append=>match e.args.toList,e.argTypes.toList with
   |[k,o],[j,t2]=>A' d (bF a) b k o j t2
   |_,_=>n
  |.value g=>B1 f a b g e.args.toList
  |_=>n
 |_=>n
def A_(i:m (Nat×cr))(e:ae->y)(k o:ae)(j t2:ak):Option (y×m Prop):=
 match uU i e o j t2 with
 |none=>n
 |some (_,b,g,a)=>match e k with
  |.n (.Q (.c (.B l p d f)))=>match ad d 0 with
   |true=>h (ay (.B v b.size (d+g) (ck d f a)),[(d+g)*b.bytes<=140737488355328,d=0∨0<g])
   |false=>n
  |_=>n
def DW(d:m (Nat×cr))(b:bL)(e:an):Option (y×m Prop):=
 match e.op with
 |.call a=>match a.callee with
  |.builtin .append=>match a.args.toList,a.argTypes.toList with
   |[g,i],[f,t2]=>A_ d (bF b) g i f t2
   |_,_=>n
  |_=>n
 |_=>n
def vK:m (Nat×Bool)->Nat->Option Bool
 |[],_=>n
 |(d,b)::e,a=>match ad d a with|true=>h b|false=>vK e a
def Dr(a:m (Nat×Bool)):Option Nat->Bool
 |none=>v
 |some b=>match vK a (2000000+b)with
  |some l=>l
  |_=>v
def ZY(a:m (Nat×Bool)):Option Nat->Bool
 |none=>v
 |some b=>match vK a (3000000+b)with
  |some l=>l
  |_=>v
def Ba(s:ak)(a:cr)(d:ae->y)(t:m aq)(z A:ae):Option (y×m aq×m Prop):=
 match d z,d A with
 |.n (.Q (.O e (.B w x 0 o))),.n (.Q (.O r (.B k p u f)))=>match ad r e with
  |false=>n
  |true=>match db e t with
   |some (.q g q b j)=>match ad g s,ad x a.size,ad p a.size,ad q a.size with
    |true,l,l,l=>e5 (de.cp e (.q s a.size b (qJ o u f j)) t) λi=>h (cF e (.B b a.size 0 (o+f)),i,[w=b,k=b,o+f<=b,u+f<=b])
    |_,_,_,_=>n
   |_=>n
 |_,_=>n
def Bb(s:Bool)(k:m (Nat×cr))(b:ae->y)(g:m aq)(p q:ae)(o t2:ak):Option (y×m aq×m Prop):=
 match s with
 |true=>match uU k b q o t2 with
  |none=>n
  |some (f,a,e,d)=>match b p with
   |.n (.Q (.c (.B l _ r j)))=>match ad r 0 with
    |true=>e5 (g++[.q f a.size (0+e) (ck 0 j d)]) λi=>h (cF (c g) (.B (0+e) a.size 0 (0+e)),i,[(0+e)*a.bytes<=140737488355328])
    |false=>n
   |_=>n
 |false=>match xr k o t2 with
  |none=>n
  |some (f,a)=>Ba f a b g p q
def y_(i:Bool)(d:m (Nat×cr))(b:bL)(e:m aq)(f:an):Option (y×m aq×m Prop):=
 match f.op with
 |.call a=>match a.callee with
  |.builtin .append=>match a.args.toList,a.argTypes.toList with
   |[j,k],[g,t2]=>Bb i d (bF b) e j k g t2
   |_,_=>n
  |_=>n
 |_=>n
def vW(g:m (Nat×Bool))(e:m (Nat×cr))(b:m (Nat×bH))(d:bL)(f:m aq)(a:an):Option (y×m aq×m Prop):=
 match ZY g a.dst with
 |true=>y_ l e d f a
 |false=>match DY e b d f a with
  |some i=>h i
  |none=>y_ v e d f a
def vf(b:m (Nat×Bool))(f:Option Nat)(d:y)(a:m Prop):Option (y×m Prop):=
 match f with
 |none=>h (d,a)
 |some i=>match vK b i with
  |none=>h (d,a)
  |some e=>match d with
   |.n (.Q (.c (.bool g)))=>h (ay (.bool e),gQ a [g=e])
   |_=>n
def TT{f}{d e}{b}(a:vf bh f d cq=h (e,b))(g:U b):e=d/\U cq:=by
 unfold vf at a;split at a
 .grind
 split at a
 .grind
 split at a
 .cases a;simp_all
 grind
def iJ(j:m (Nat×cr))(f:m (Nat×bH))(d:m (Nat×Bool))(g:m an)(i:bL)(q:m aq)(e:an):Option (y×Option (m aq)×m Prop):=
 let go:Option (y×Option (m aq)×m Prop):=match pw j f i q e with
  |some (b,a)=>match vf d e.dst b a with
   |some (p,r)=>pf p λp=>h (p,n,r)
   |none=>n
  |none=>match Dr d e.dst with
   |true=>match DW j i e with
    |some (b,a)=>pf b λb=>h (b,n,a)
    |none=>n
   |false=>match vW d j f i q e with
    |some (b,k,a)=>pf b λb=>h (b,h k,a)
    |none=>n
 match e.guard with
 |none=>go
 |some (t,s)=>match yK i g t with
  |some (h o)=>match s,o with
   |true,l=>go
   |false,v=>go
   |_,_=>h (.S [],n,[])
  |some n=>h (.S [],n,[])
  |none=>n
section
variable {q:af P}{ac:m (Nat×cr)}{CT:m (Nat×bH)}
def GI(aZ:bZ P ac){j k:ae}{t2:ak}{a5}(f:r.op=.call {callee:=.builtin .append,args:=#[j,k],argTypes:=#[o,t2]})(a:xr ac o t2=h (W,a5)):j_ P r j k W a5:=by
 unfold xr at a;split at a
 .cases a
 rename_i i e;split at a
 .cases a
 rename_i g q;split at a
 case h_2=>cases a
 rename_i W s;split at a
 case h_2=>cases a
 rename_i m b;split at a
 .cases a
 rename_i p;have t:=dp p;subst t;split at a
 .cases a
 rename_i a5 d;split at a
 case h_2=>cases a
 rename_i u w;cases a;exact⟨⟨o,t2,i,g,f,aZ o i e,s,aZ t2 g q,b⟩,aZ _ _ d,by exact lO,by exact lO⟩
def Bc(aZ:bZ P ac){p g:ae}{t2:ak}{a5}{a:Nat->m M}(j:r.op=.call {callee:=.builtin .append,args:=#[p,g],argTypes:=#[o,t2]})(b:uU ac η g o t2=h (W,a5,A,a)):
  j_ P r p g W a5/\∃d,∀i e f,bx i e f (η g)->Rd e.D f (.B d a5.size A a):=by
 unfold uU at b;split at b
 .cases b
 rename_i t;split at b
 .cases b
 rename_i d u A a k;split at b
 .cases b
 rename_i q;have s:=dp q;subst s;cases b;exact⟨GI aZ j t,d,λi e f=>tQ k i e f⟩
theorem SW(aZ:bZ P ac)(z:∀k i m,bY F k i I m->aP r (yielded all.toArray m.tmps)=l){u w:ae}{t2:ak}{s}(e:r.op=.call {callee:=.builtin .append,args:=#[u,w],argTypes:=#[o,t2]})(a:A_ ac (bF I) u w o t2=h (s,cq))(p:U cq):aY q F all r I k s k:=by
 unfold A_ at a;split at a
 .cases a
 rename_i x A E t d;obtain⟨y,B,b⟩:=Bc aZ e d;have b:=λi D=>b k i D;split at a
 .rename_i f j V g;split at a
  .rename_i C;cases a;exact(aY.a3 z (a2.fZ y g (.inr (dp C)) b p.1 p.2)).e4
  grind
 grind
theorem SX(aZ:bZ P ac){E F:ae}{t2:ak}{B}(t:r.op=.call {callee:=.builtin .append,args:=#[E,F],argTypes:=#[o,t2]})(a:A' ac η k E F o t2=h (B,ar,cq))(e:U cq):a2 P r η k B ar:=by
 unfold A' at a;split at a
 .cases a
 rename_i J K S D s;obtain⟨i,O,g⟩:=Bc aZ t s;have g:=λN Q=>g k N Q;split at a
 .rename_i f j V b;split at a
  .rename_i b3;rw[hJ]at a;cases a;exact a2.fZ i b (.inl (dp b3)) g e.1 e.2
  split at a
  .rename_i W;rw[hJ]at a;cases a;exact a2.fZ i b (.inr (dp W)) g e.1 e.2
  grind
 .rename_i d f j V b;split at a
  .rename_i M I m kP gU;split at a
   .rename_i p x A;rw[hJ,mT]at a;cases a;obtain⟨u,R,y⟩:m=j/\kP=V/\_:=e;subst u;subst R;have w:=dp p;subst w;have z:=dp x;have q:=dp A;subst q;subst z;exact a2.ic i b (er gU) g y
   grind
  grind
 .rename_i d C f j b;split at a
  .rename_i M I m kP gU;split at a
   .rename_i p x A;rw[hJ,mT]at a;cases a;obtain⟨u,R,y⟩:C=m/\j=m/\_:=e;subst u;subst R;have w:=dp p;subst w;have z:=dp x;have q:=dp A;subst q;subst z;exact a2.h9 i b (er gU) g y
   grind
  grind
 grind
theorem Z6(aZ:bZ P ac){i:ae}{g}(d:r.op=.call {callee:=.builtin .len,args:=#[i],argTypes:=dt})(p:dt[0]?=h o)(a:Dv ac o (η i)=h g):a2 P r η k g k:=by
 unfold Dv at a;split at a
 .cases a
 rename_i t b;split at a
 .rename_i W m;split at a
  .rename_i eQ f j V e;cases a;exact a2.jh aZ d p b m (λq s=>tQ e k q s)
  grind
 .grind [a2.ji]
 grind
theorem TF(aZ:bZ P ac){b dst:ak}{s:ae}{q}(i:r.op=.convert b dst s)(a:Cf ac b dst (η s)=h (q,cq))(w:U cq):a2 P r η k q k:=by
 unfold Cf at a;split at a
 .cases a
 rename_i D g;split at a
 .cases a
 rename_i E p;split at a
 .rename_i z e;split at a
  .rename_i f u d;cases a;exact a2.iD aZ i g p e d w
  grind
 .rename_i e;split at a
  .grind [a2.iE]
  split at a
  .rename_i W y;split at a
   .rename_i a5 m;split at a
    .rename_i t;split at a
     .rename_i eQ f j V o;split at a
      .rename_i b3;have x:=dp b3;subst x;split at a
       .rename_i F C;cases a;exact a2.iB aZ i g p y e m t (λA B=>tQ o k A B) C
       grind
      grind
     grind
    grind
   grind
  grind
 grind
theorem acr(aZ:bZ P ac){d:ae}{fb bp}{b}(e:r.op=.slice o d fb bp n)(a:Ex ac η o d fb bp=h (b,cq))(f:U cq):a2 P r η k b k:=by
 unfold Ex at a;split at a
 .cases a
 rename_i m g;split at a
 .cases a
 rename_i p j;split at a
 .cases a
 rename_i q i;split at a
 .grind [a2.jU]
 .grind [Nat.eq_of_beq_eq_true,a2.jT,tQ]
 grind
theorem Bd{a:Array α}{b:α}(d:a.toList=[b]):a=#[b]:=Array.ext' d
theorem Be{a:Array α}{b d:α}(e:a.toList=[b,d]):a=#[b,d]:=Array.ext' e
theorem aaM(aZ:bZ P ac)(L:a_ q CT){E:y}(s:y9 ac CT I r=h (E,cq))(m:U cq)(ba:∀k z g,bY F k z I g->aP r (yielded all.toArray g.tmps)=l):aY q F all r I k E k:=by
 unfold y9 at s;split at s
 .grind [aY.a3,a2.move]
 .grind [aY.a3,a2.assign]
 .rename_i o X B a;split at s
  .rename_i e bp;split at s
   .rename_i p;split at s
    .rename_i d f u b R;cases s;obtain⟨N,K⟩:0<=u/\u<(c d:Int):=m;have:=a2.jc (k:=k) (A:=u.toNat) aZ a bp p b R w w;have J:kM d u=d[u.toNat]'w:=by simp[kM,aj,bJ (by omega:u.toNat<c d)]
     grind[aY.a3]
    grind
   grind
  grind
 .rename_i o X B a;split at s
  .rename_i e bp;split at s
   .rename_i W p;split at s
    .rename_i a5 x;split at s
     .rename_i eQ f j V S u b R;split at s
      .rename_i b3;cases s;obtain⟨N,K⟩:0<=u/\u<(j:Int):=m;have J:=dp b3;subst J;exact aY.a3 ba (a2.indexAddr (A:=u.toNat) aZ a bp p x (λz T=>tQ b k z T) R w w)
      grind
     grind
    grind
   grind
  grind
 .grind [aY.a3,acr]
 .grind [aY.a3,TF]
 .rename_i t a;obtain⟨H,args,D⟩:=t;grind[Bd,aY.a3,Z6,aY.iv]
 .rename_i t g i bm;split at s
  .exact PL
  .exact PL
  grind
 .rename_i op o B Z ty bm;unfold GU at s;split at s
  .grind [aY.a3,a2.ir]
  .rename_i g i _ M C;split at s
   .split at s
    .rename_i _ _ O Q _ _;cases s;exact aY.a3 ba (a2.j7 bm M C m.1 m.2)
    .exact z8
    grind
   .exact z8
   .exact z8
   .exact z8
   grind[aY.a3,a2.binOp]
  .rename_i ah V M C;split at s
   .grind [aY.a3,a2.j1]
   grind
  grind
 .grind [aY.a3,a2.unOp]
 .grind [aY.a3,a2.extract,er]
 .rename_i o B Y bm;split at s
  .rename_i f u G;split at s
   .rename_i d off b;cases s;exact aY.a3 ba (a2.g3 aZ bm b G)
   .grind [aY.a3,a2.g7]
   grind
  grind
 .grind [aY.a3,a2.field]
 .grind [aY.a3,a2.hs,a2.hv]
 .grind [aY.a3,a2.build]
 .grind [aY.a3,a2.buildSlice]
 .grind [aY.a3,a2.makeFunc]
 .grind [aY.a3,a2.makeInterface]
 .grind [aY.a3,a2.typeAssert]
 grind
theorem aaJ(aZ:bZ P ac){K:y}(a:DV ac I r=h (K,cq))(q:U cq):a2 P r (bF I) k K k:=by
 unfold DV at a;split at a
 .rename_i o w O b;split at a
  .rename_i e bp;split at a
   .rename_i W R;split at a
    .rename_i a5 m;split at a
     .rename_i d C f N A D u g z;split at a
      .rename_i b3;cases a;obtain⟨M,x⟩:0<=u/\u<(A:Int):=q;grind[Nat.eq_of_beq_eq_true,a2.i']
      grind
     .rename_i i off j cap D u g z;cases a;obtain⟨M,x⟩:0<=u/\u<(j:Int):=q;grind[a2.ja]
     grind
    grind
   grind
  grind
 .rename_i o w ag b;split at a
  .rename_i f u H;split at a
   .rename_i d C aM e N g;cases a;exact a2.iM aZ b g H
   .rename_i i off g;cases a;exact a2.iN aZ b g H
   grind
  grind
 .grind [a2.jw]
 .rename_i o w fb bp b;split at a
  .cases a
  rename_i e E;split at a
  .cases a
  rename_i Z ab;split at a
  .cases a
  grind[Nat.eq_of_beq_eq_true,a2.sliceB]
 .rename_i o w O T b;split at a
  .cases a
  rename_i e E;split at a
  .rename_i W R;split at a
   .cases a
   rename_i a5 m;split at a
   .rename_i eQ f j V B u L A g z G;cases a;obtain⟨M,x,F⟩:0<=u/\u<=A/\A<=(j:Int):=q;exact a2.jP aZ b E R m (λQ S=>tQ g k Q S) z G M x F
   grind
  grind
 .rename_i o w p O T b;split at a
  .cases a
  rename_i e E;split at a
  .rename_i W R;split at a
   .cases a
   rename_i a5 m;split at a
   .rename_i d C f N j ae e B u L A g aa z G;cases a;obtain⟨M,x,F,Y⟩:0<=e/\e<=u/\u<=A/\A<=(j:Int):=q;grind[a2.slice3B]
   grind
  grind
 .rename_i t b;obtain⟨X,args,J⟩:=t;simp only at a;split at a
  .split at a
   .rename_i w o g av;split at a
    .rename_i e bp;split at a
     .rename_i W R;split at a
      .grind [Bd,a2.jf]
      .rename_i af j cap s;cases a;have:=Bd g;subst this;exact a2.jk aZ b av bp R s q
      grind
     grind
    grind
   grind
  grind
 grind
theorem aac(aZ:bZ P ac){q:ae}(b:r.op=.load o q){m}(a:yT ac I k o q=h (m,cq))(g:U cq):a2 P r (bF I) k m k:=by
 unfold yT at a;split at a
 .rename_i u bp;split at a
  .rename_i d C f e w t;split at a
   .rename_i W s j V aJ;split at a
    .rename_i b3;have p:=dp b3;subst p;split at a
     .rename_i p i;cases a;exact a2.e' aZ b t g.1 (er aJ) bp i g.2
     grind
    grind
   grind
  grind
 grind
theorem acT(aZ:bZ P ac){y z:ae}(i:r.op=.store o y z){x}(a:EJ ac I k o y z=h (x,ar,cq))(p:U cq):a2 P r (bF I) k x ar:=by
 unfold EJ at a;split at a
 .rename_i D bp;split at a
  .rename_i d C f e q t;split at a
   .rename_i W s j V aJ;split at a
    .rename_i b3;have B:=dp b3;subst B;split at a
     .rename_i new m;split at a
      .rename_i u;split at a
       .rename_i gR b;split at a
        .rename_i A;rw[hJ,mT]at a;cases a;have w:q=0/\c gR=s:=by
          cases q with
          |zero=>exact⟨rfl,dp A⟩
          |succ q=>exact cV
         obtain⟨rfl,w⟩:=w;exact a2.hR aZ i t p.1 (er aJ) bp m (dp u) b (λE=>MT N) p.2
        split at a
        .rename_i ci g;rw[hJ,mT]at a;cases a;exact a2.hR aZ i t p.1 (er aJ) bp m (dp u) b (λ_=>g) p.2
        grind
       grind
      grind
     grind
    grind
   grind
  grind
 grind
theorem aaO(aZ:bZ P ac)(g:a_ q CT){d}(a:pw ac CT I k r=h (d,cq))(f:U cq)(m:∀k e b,bY F k e I b->aP r (yielded all.toArray b.tmps)=l):aY q F all r I k d k:=by
 unfold pw at a;split at a
 .rename_i o p j;split at a
  .rename_i C i;cases a;unfold Dz at i;split at i
   .grind [aY.a3,a2.hg,er,a2.hh]
   grind
  grind[aY.a3,aac]
 grind[aaM,aY.a3,aaJ]
theorem aaK(aZ:bZ P ac)(o:a_ q CT){d:y}(e:DY ac CT I k r=h (d,ar,cq))(i:U cq)(m:∀k g a,bY F k g I a->aP r (yielded all.toArray a.tmps)=l):aY q F all r I k d ar:=by
 unfold DY at e;split at e
 .grind [aY.a3,DX]
 .grind [aY.a3,DX]
 .grind [aY.a3,DX,acT]
 .rename_i t f;obtain⟨j,args,b⟩:=t;grind[Be,aY.a3,SX,aY.call]
 grind
def SY{i m:ae}{a5}{g}(q:j_ P r i m W a5)(a:Ba W a5 η k i m=h (g,ar,cq))(p:U cq):a2 P r η k g ar:=by
 unfold Ba at a;split at a
 .rename_i d C f e z x y u A K D;split at a
  .cases a
  rename_i s;have b:=dp s;subst b;split at a
  .rename_i M N j V gU;split at a
   .rename_i o Eb tC Ec;have t:=dp o;have J:=dp Eb;have w:=dp tC;have E:=dp Ec;rw[hJ]at a;cases a;obtain⟨R,I,B,F⟩:=p;subst R I t J w E;have:=a2.h_ (k:=k) q K D (er gU) B F;grind[mT]
   grind
  grind
 grind
theorem SZ(aZ:bZ P ac){p}{q s:ae}{t2:ak}{i}(b:r.op=.call {callee:=.builtin .append,args:=#[q,s],argTypes:=#[o,t2]})(a:Bb p ac η k q s o t2=h (i,ar,cq))(g:U cq):a2 P r η k i ar:=by
 unfold Bb at a;split at a
 .split at a
  .cases a
  rename_i t z E m d;obtain⟨u,B,w⟩:=Bc aZ b d;split at a
  .rename_i f j V e;split at a
   .rename_i C;have x:=dp C;subst x;rw[hJ]at a;cases a;exact a2.ib u e (λA D=>w _ A D) g
   grind
  grind
 split at a
 .cases a
 rename_i y;exact SY (GI aZ b y) a g
theorem aaL(aZ:bZ P ac)(p:a_ q CT){a:y}(b:vW bh ac CT I k r=h (a,ar,cq))(j:U cq)(o:∀k i d,bY F k i I d->aP r (yielded all.toArray d.tmps)=l):aY q F all r I k a ar:=by
 have key:∀f,y_ f ac I k r=h (a,ar,cq)->aY q F all r I k a ar:=by
  intro f b;unfold y_ at b;split at b
  .rename_i t g;obtain⟨m,args,e⟩:=t;grind[Be,aY.a3,SZ]
  grind
 unfold vW at b;grind[aaK]
def eh(aZ:bZ P ac)(K:a_ q CT){i}{ar}(a:iJ ac CT bh all I k r=h (i,ar,cq))(B:U cq):aY q F all r I k i (ar.getD k):=by
 have go:(∀k f d,bY F k f I d->aP r (yielded all.toArray d.tmps)=l)->(match pw ac CT I k r with
  |some (b,cq)=>match vf bh r.dst b cq with
   |some (m,z)=>pf m λm=>h (m,n,z)
   |none=>n
  |none=>match Dr bh r.dst with
   |true=>match DW ac I r with
    |some (b,cq)=>pf b λb=>h (b,n,cq)
    |none=>n
   |false=>match vW bh ac CT I k r with
    |some (b,ar,cq)=>pf b λb=>h (b,h ar,cq)
    |none=>n)=h (i,ar,cq)->aY q F all r I k i (ar.getD k):=by
  intro R a;split at a
  .rename_i b e p;split at a
   .rename_i m A C;rw[vq]at a;cases a;obtain⟨rfl,M⟩:=TT C B;grind[aaO]
   grind
  split at a
  .split at a
   .rename_i b e j;rw[vq]at a;cases a;unfold DW at j;split at j
    .rename_i t y;obtain⟨J,args,s⟩:=t;grind[Be,SW]
    grind
   grind
  grind[vq,aaL]
 unfold iJ at a;simp only at a;split at a
 .grind [jf]
 rename_i E u w;split at a
 .rename_i x o;have D:∀k f d,bY F k f I d->aP r (yielded all.toArray d.tmps)=(h x==h u):=λk f d g=>by simp only[aP,w,yL o g]
  split at a
  .grind
  .grind
  cases a;refine aY.hF (λk f d g=>(D k f d g).trans ?_);cases u<;>cases x<;>simp_all
 .rename_i o;cases a;exact aY.hF (λk f d g=>by simp only[aP,w,yL o g];rfl)
 grind
end
variable {CT:m (Nat×bH)}{av:m iu}{be:fD}{ac:m (Nat×cr)}{a5:cr}
def mI(a:bL)(b:an):Bool:=match b.op with
 |.load _ d=>match bF a d with
  |.n (.Q (.c (.R _)))=>v
  |_=>l
 |_=>v
def aaN{fl}(d:mI I r=v):pw ac CT I k r=pw ac CT I fl r:=by
 unfold pw;split
 .rename_i o e a;simp[mI,a]at d;split at d
  .rename_i ah b;simp[Dz,yT,b]
  grind
 simp
def aaP{d}(j:mI I r=v)(a:iJ ac CT bh all I k r=h (d,n,cq))(fl):
  iJ ac CT bh all I fl r=h (d,n,cq):=by
 unfold iJ at a⊢;simp only at a⊢;rw[aaN (fl:=k) j];cases i:pw ac CT I k r with
 |some o=>grind
 |none=>
  simp[i]at a⊢;cases g:Dr bh r.dst with
  |true=>grind
  |false=>
   simp[g]at a⊢;have key:∀{f:Option (y×Option (m aq)×m Prop)},(match vW bh ac CT I k r with|some (e,b,cq)=>pf e λe=>h (e,h b,cq)|none=>n)=f->f≠h (d,n,cq):=by grind[vq]
   split at a
   .grind
   grind
def jW(a:Nat):m an->Bool
 |[]=>v
 |e::b=>match e.dst with
  |some d=>match ad d a with|true=>l|false=>jW a b
  |none=>jW a b
theorem vv{o}:∀{d:m an}{e:Nat}{a:an},d[e]?=h a->a.dst=h o->jW o d=l
 |[],_,_,s,_=>by grind
 |g::f,0,a,s,b=>by simp at s;subst s;simp[jW,b,sM]
 |g::f,e+1,a,s,b=>by have:=vv (d:=f) wR b;simp[jW];grind
theorem Dd{o}:∀{b:m an},jW o b=l->∃(e:Nat)(r:an),b[e]?=h r/\r.dst=h o
 |[],s=>by cases s
 |d::j,s=>by
  simp[jW]at s;split at s
  .rename_i f t;split at s
   .rename_i g;exact⟨0,d,a,by grind[Nat.eq_of_beq_eq_true]⟩
   exact RH
  exact RH
def lw:m an->Bool
 |[]=>l
 |d::a=>match d.dst with
  |some b=>match jW b a with|true=>v|false=>lw a
  |none=>lw a
theorem DU{o}:∀{k:m an}{f g:Nat}{b d:an},lw k=l->k[f]?=h b->k[g]?=h d->b.dst=h o->d.dst=h o->f=g
 |[],_,_,_,_,_,t,_,_,_=>by grind
 |p::e,0,0,_,_,_,_,_,_,_=>rfl
 |p::e,0,g+1,b,d,a,i,j,d1,d2=>by simp at i;subst i;simp[lw,d1]at a;grind[vv]
 |p::e,f+1,0,b,d,a,i,j,d1,d2=>by simp at j;subst j;simp[lw,d2]at a;grind[vv]
 |p::e,f+1,g+1,b,d,a,i,j,d1,d2=>by
  have:lw e=l:=by simp[lw]at a;grind
  have r:e[f]?=h b:=N;have q:e[g]?=h d:=N;have s:=DU this r q d1 d2;omega
def mQ(a:m an):bL->bL
 |[]=>[]
 |(d,e)::b=>match jW d a with|true=>mQ a b|false=>(d,e)::mQ a b
def ts{all}{o}:∀{b:bL},look (mQ all b) o=if jW o all=l then .any else look b o
 |[]=>by simp[mQ,look]
 |(a,i)::j=>by
  simp[mQ];by_cases f:ad a o=l
  .have g:=dp f;subst g;cases e:jW a all with
   |true=>simp only;rw[ts];grind
   |false=>simp[look]
  have d:ad a o=v:=N;cases e:jW a all with
  |true=>simp only;rw[ts];simp[look,d]
  |false=>simp[look,d,cond];rw[ts]
def da:m Edge->m Nat
 |[]=>[]
 |b::a=>match b.ground with
  |.textOnly _=>da a
  |.gcOnly _=>da a
  |_=>b.on::da a
theorem l5{u}:∀{d:m Edge},u∈da d↔∃a∈d,eV a=l/\a.on=u
 |[]=>by simp[da]
 |a::b=>by
  have k:=l5 (u:=u) (d:=b);have g:da (a::b)=a.on::da b->eV a=l->(u∈da (a::b)↔∃e∈a::b,eV e=l/\e.on=u):=N;have f:da (a::b)=da b->eV a=v->(u∈da (a::b)↔∃e∈a::b,eV e=l/\e.on=u):=N;cases i:a.ground with
  |textOnly j=>exact f Fc Oo
  |gcOnly j=>exact f Fc Oo
  |_=>exact g Fc (by unfold eV Region.binds;rw[i])
def ny(a b:Nat):m an->Bool
 |[]=>v
 |e::d=>match e.dst with
  |some f=>match ad f b with
   |true=>match en a (da e.after.toList)with
    |true=>ny a b d
    |false=>l
   |false=>ny a b d
  |none=>ny a b d
def Kk{e o}:∀{i:m an},ny e o i=v->∀(d:Nat)a,i[d]?=h a->a.dst=h o->en e (da a.after.toList)=l
 |[],_,d,a,b,_=>by grind
 |k::j,b,0,a,g,f=>by simp at g;subst g;simp[ny,f,sM]at b;grind
 |k::j,b,d+1,a,g,f=>by
  have:ny e o j=v:=by simp[ny]at b;grind
  exact Kk this d a N f
def oD(a:m an):bL->m (Nat×y×Bool)
 |[]=>[]
 |(b,d)::e=>match jW b a with
  |true=>(b,d,l)::oD a e
  |false=>(b,d,v)::oD a e
def hq(b:Nat)(a:m an):m (Nat×y×Bool)->bL
 |[]=>[]
 |(e,f,g)::d=>match g with
  |false=>(e,f)::hq b a d
  |true=>match ny b e a with
   |true=>hq b a d
   |false=>(e,f)::hq b a d
def KT{e}{all}{o}:∀{I:bL},look (hq e all (oD all I)) o=if jW o all=l/\ny e o all=l then .any else look I o
 |[]=>by simp[oD,hq,look]
 |(bA,b)::a=>by
  have g:=KT (e:=e) (all:=all) (o:=o) (I:=a);have d:look ((bA,b)::hq e all (oD all a)) o=if ad bA o=l then b else look (hq e all (oD all a)) o:=N';have f:look ((bA,b)::a) o=if ad bA o=l then b else look a o:=N';cases x:jW bA all with
  |false=>
   simp[oD,x,hq];exact um
  |true=>
   cases t:ny e bA all with
   |true=>
    exact Ru
   |false=>
    exact Ru
def fZ(d:Nat->Bool):Nat->m (Option Nat×y)->bL->bL
 |_,[],a=>a
 |b,(f,i)::e,a=>match d b with
  |true=>match f with
   |some g=>(g,i)::fZ d (b+1) e a
   |none=>fZ d (b+1) e a
  |false=>fZ d (b+1) e a
def vL{A:Nat->Bool}{I}{o}:∀{d:m (Option Nat×y)}{e:Nat},(∃u b,d[u]?=h (h o,b)/\A (e+u)=l/\look (fZ A e d I) o=b)∨look (fZ A e d I) o=look I o
 |[],e=>.inr rfl
 |(g,b)::f,e=>by
  have t:=vL (A:=A) (I:=I) (o:=o) (d:=f) (e:=e+1);have step:look (fZ A e ((g,b)::f) I) o=look (fZ A (e+1) f I) o->((∃u i,((g,b)::f)[u]?=h (h o,i)/\A (e+u)=l/\look (fZ A e ((g,b)::f) I) o=i)∨look (fZ A e ((g,b)::f) I) o=look I o):=by
   intro p;rw[p];rcases t with⟨u,i,r,j,C⟩|x
   .exact .inl ⟨u+1,i,by grind,by grind,C⟩
   grind
  cases k:A e with
  |false=>exact step (by simp[fZ,k])
  |true=>
   cases g with
   |none=>exact step (by simp[fZ,k])
   |some q=>
    by_cases w:ad q o=l
    .have p:=dp w;subst p;exact .inl ⟨0,b,a,by grind,by simp[fZ,k,look]⟩
    have s:ad q o=v:=N;exact step (by simp[fZ,k,look,s])
structure k3 where
 a':Nat
 pre:m (Option Nat×y)
 b:m aq
 cf:m (m Bool)
 dB:m Bool
 dC:m Bool
 cz:m Prop
def tt(a:Nat):m Nat->Bool
 |[]=>l
 |b::d=>match Nat.blt b a with|true=>tt a d|false=>v
def DB{e}:∀{f:m Nat},tt e f=l->∀d∈f,d<e
 |[],_,d,b=>by grind
 |i::j,b,d,a=>by
  simp[tt]at b;cases g:Nat.blt i e with
  |false=>grind
  |true=>
   simp[g]at b;rcases eT.1 a with rfl|a
   .simp_all
   exact DB b d a
def gA:m Bool->Nat->Bool
 |[],_=>v
 |a::_,0=>a
 |_::d,b+1=>gA d b
def jZ:m Bool->m Bool->m Bool
 |[],b=>b
 |true::a,[]=>l::a
 |false::a,[]=>v::a
 |true::a,_::b=>l::jZ a b
 |false::a,l::b=>l::jZ a b
 |false::a,v::b=>v::jZ a b
def qf:∀{a b:m Bool}{d:Nat},gA (jZ a b) d=(gA a d||gA b d)
 |[],b,d=>by exact cV
 |true::a,[],d=>by simp[jZ,gA]
 |false::a,[],d=>by simp[jZ,gA]
 |true::a,e::b,0=>by exact cV
 |true::a,e::b,d+1=>by simp[jZ,gA];exact qf
 |false::a,l::b,0=>by exact cV
 |false::a,l::b,d+1=>by simp[jZ,gA];exact qf
 |false::a,v::b,0=>by exact cV
 |false::a,v::b,d+1=>by simp[jZ,gA];exact qf
def nJ:Nat->m Bool
 |0=>[l]
 |a+1=>v::nJ a
theorem xz:∀{b a:Nat},gA (nJ b) a=decide (b=a)
 |0,0=>rfl
 |0,a+1=>by exact cV
 |b+1,0=>by exact cV
 |b+1,a+1=>by simp only[nJ,gA,xz];simp
def lQ(a:m (m Bool)):m Nat->m Bool
 |[]=>[]
 |b::d=>match db b a with
  |some e=>jZ (jZ e (nJ b)) (lQ a d)
  |none=>jZ (nJ b) (lQ a d)
theorem B_{i}{u}:∀{k:m Nat},gA (lQ i k) u=l->∃d∈k,d=u∨∃b,i[d]?=h b/\gA b u=l
 |[],a=>by exact cV
 |d::o,a=>by
  simp[lQ,lo]at a;have qY:∀{j:Nat},gA (nJ d) j=l->d=j:=by grind[xz]
  have g:gA (lQ i o) u=l->∃f∈d::o,f=u∨∃b,i[f]?=h b/\gA b u=l:=by intro a;obtain⟨f,q,p⟩:=B_ a;grind
  split at a
  .rename_i b e;rw[qf,qf,jK,jK]at a;grind
  rw[qf,jK]at a;grind
def pI:m Bool->m Bool->Bool
 |[],_=>l
 |true::a,l::b=>pI a b
 |true::_,_=>v
 |false::a,_::b=>pI a b
 |false::a,[]=>pI a []
theorem tU:∀{b d:m Bool}{u:Nat},pI b d=l->gA b u=l->gA d u=l
 |[],d,u,_,a=>by exact cV
 |true::b,l::d,0,_,_=>rfl
 |true::b,l::d,u+1,e,a=>by simp[gA]at a⊢;exact tU cV a
 |true::b,v::d,u,e,_=>by exact cV
 |true::b,[],u,e,_=>by exact cV
 |false::b,f::d,0,_,a=>by exact cV
 |false::b,f::d,u+1,e,a=>by simp[gA]at a⊢;exact tU cV a
 |false::b,[],0,_,a=>by exact cV
 |false::b,[],u+1,e,a=>by simp[gA]at a;have:=tU (u:=u) (by simpa[pI]using e) a;exact cV
def pH(u:m (Nat×cr))(o:m (Nat×bH))(t:Nat)(q:m (Nat×Bool))(e:m an)(k:m (Nat×y×Bool))(a:k3)(j:an):Option k3:=
 match fp t j.dst with
 |false=>n
 |true=>
  e5 (da j.after.toList) λg=>
  match tt a.a' g with
  |false=>n
  |true=>match iJ u o q e (fZ (λr=>en r g) 0 a.pre (hq a.a' e k)) a.b j with
   |none=>n
   |some (s,i,b)=>
    e5 (lQ a.cf g) λf=>
    match i,mI (fZ (λr=>en r g) 0 a.pre (hq a.a' e k)) j with
    |none,v=>e5 (a.pre++[(j.dst,s)]) λpre=>e5 (a.cf++[f]) λd=>e5 (gQ b a.cz) λb=>h ⟨a.a'+1,pre,a.b,d,a.dB,a.dC,b⟩
    |none,l=>match pI a.dB f with
     |true=>e5 (a.pre++[(j.dst,s)]) λpre=>e5 (a.cf++[f]) λd=>e5 (gQ b a.cz) λb=>e5 (jZ a.dC (nJ a.a')) λp=>h ⟨a.a'+1,pre,a.b,d,a.dB,p,b⟩
     |false=>n
    |some i,_=>match pI a.dC f with
     |true=>e5 (a.pre++[(j.dst,s)]) λpre=>e5 (a.cf++[f]) λd=>e5 (gQ b a.cz) λb=>e5 (jZ a.dC (nJ a.a')) λp=>e5 (jZ a.dB (nJ a.a')) λw=>h ⟨a.a'+1,pre,i,d,w,p,b⟩
     |false=>n
def zo(j:m (Nat×cr))(d:m (Nat×bH))(i:Nat)(f:m (Nat×Bool))(a:m an)(e:m (Nat×y×Bool)):m an->k3->Option k3
 |[],b=>h b
 |k::o,b=>match pH j d i f a e b k with
  |some g=>zo j d i f a e o g
  |none=>n
def ye(k:m (Nat×cr))(d:m (Nat×bH))(j:Nat)(g:m (Nat×Bool))(a:m an)(i:bL)(o:m aq):Option (bL×m aq×m Prop):=
 match lw a with
 |false=>n
 |true=>e5 (oD a i) λf=>match zo k d j g a f a ⟨0,[],o,[],[],[],[]⟩with
  |some b=>e5 (fZ (λ_=>l) 0 b.pre (mQ a i)) λe=>h (e,b.b,b.cz)
  |none=>n
def ev:an:=⟨n,.move (.tmp 0),0,"",#[],n⟩
section
variable (ac:m (Nat×cr))(CT:m (Nat×bH))(F:Nat)(bh:m (Nat×Bool))(all:m an)(cK:m (Nat×y×Bool))
def jM(a:k3):Nat->k3
 |0=>a
 |b+1=>(pH ac CT F bh all cK (jM a b) (all.getD b ev)).getD (jM a b)
def qv(a:k3)(b:Nat):bL:=fZ (λd=>en d (da (all.getD b ev).after.toList)) 0 (jM ac CT F bh all cK a b).pre (hq (jM ac CT F bh all cK a b).a' all cK)
def zn(a:k3)(b:Nat):Option (y×Option (m aq)×m Prop):=iJ ac CT bh all (qv ac CT F bh all cK a b) (jM ac CT F bh all cK a b).b (all.getD b ev)
def sg(a:k3)(b:Nat):y:=match zn ac CT F bh all cK a b with|some (d,_,_)=>d|none=>.any
def jt(a:k3)(b:Nat):Bool:=match zn ac CT F bh all cK a b with|some (_,h _,_)=>l|_=>v
def qx(a:k3)(b:Nat):Bool:=!mI (qv ac CT F bh all cK a b) (all.getD b ev)&&!jt ac CT F bh all cK a b
def qk(a:k3)(b:Nat):m Bool:=lQ (jM ac CT F bh all cK a b).cf (da (all.getD b ev).after.toList)
end
section
variable {ac:m (Nat×cr)}{CT:m (Nat×bH)}{F:Nat}{bh:m (Nat×Bool)}{all:m an}{cK:m (Nat×y×Bool)}
structure Gm(ac:m (Nat×cr))(CT:m (Nat×bH))(F:Nat)(bh:m (Nat×Bool))(all:m an)(cK:m (Nat×y×Bool))(b_ r8:k3)(r:an)(E:y)(ar:Option (m aq))(cz:m Prop):Prop where
 dst:fp F r.dst=l
 lt:tt b_.a' (da r.after.toList)=l
 op:iJ ac CT bh all (fZ (λu=>en u (da r.after.toList)) 0 b_.pre (hq b_.a' all cK)) b_.b r=h (E,ar,cz)
 a':r8.a'=b_.a'+1
 pre:r8.pre=b_.pre++[(r.dst,E)]
 cf:r8.cf=b_.cf++[lQ b_.cf (da r.after.toList)]
 b:r8.b=ar.getD b_.b
 cz:r8.cz=gQ cz b_.cz
 iH:r8.dB=if ar.isSome=l then jZ b_.dB (nJ b_.a')else b_.dB
 ju:r8.dC=if(mI (fZ (λu=>en u (da r.after.toList)) 0 b_.pre (hq b_.a' all cK)) r||ar.isSome)=l then jZ b_.dC (nJ b_.a')else b_.dC
 load:mI (fZ (λu=>en u (da r.after.toList)) 0 b_.pre (hq b_.a' all cK)) r=l->ar.isSome=v->pI b_.dB (lQ b_.cf (da r.after.toList))=l
 b8:ar.isSome=l->pI b_.dC (lQ b_.cf (da r.after.toList))=l
def MW{b_ g}(b:pH ac CT F bh all cK b_ r=h g):∃k d f,Gm ac CT F bh all cK b_ g r k d f:=by
 unfold pH at b;split at b
 .cases b
 rename_i j;simp[hJ]at b;split at b
 .cases b
 rename_i i;split at b
 .cases b
 rename_i k d f e;refine⟨k,d,f,?_⟩;cases d with
 |none=>
  cases m:mI (fZ (λo=>en o (da r.after.toList)) 0 b_.pre (hq b_.a' all cK)) r with
  |false=>
   simp[m,hJ]at b;cases b;exact⟨j,i,e,a,a,a,a,a,by simp,by grind,by grind,by simp⟩
  |true=>
   simp[m,hJ]at b;split at b
   .rename_i t;cases b;exact⟨j,i,e,a,a,a,a,a,by simp,by grind,λ_ _=>t,by simp⟩
   grind
 |some d=>
  simp[hJ]at b;split at b
  .rename_i t;cases b;exact⟨j,i,e,a,a,a,a,a,by simp,by simp,by simp,λ_=>t⟩
  grind
def Mp{b_ d}:∀{bq:m an}{f:Nat},(∀a,bq[a]?=all[f+a]?)->zo ac CT F bh all cK bq (jM ac CT F bh all cK b_ f)=h d ->
  (∀a g,bq[a]?=h g->pH ac CT F bh all cK (jM ac CT F bh all cK b_ (f+a)) g=h (jM ac CT F bh all cK b_ (f+a+1)))/\jM ac CT F bh all cK b_ (f+c bq)=d
 |[],f,_,b=>by cases b;grind
 |p::q,f,e,b=>by
  simp[zo]at b;have k:all[f]?=h p:=by have:=e 0;grind
  split at b
  .rename_i i j;have o:jM ac CT F bh all cK b_ (f+1)=i:=by simp[jM,aj,k,h9,j]
   rw[<-o]at b;obtain⟨s,r⟩:=Mp (bq:=q) (f:=f+1) (λa=>by have:=e (a+1);grind) b;grind
  grind
theorem qI:∀{a:m Nat},en u a=l->u∈a:=by
 intro a;induction a with
 |nil=>intro b;cases b
 |cons d f e=>
  intro b;simp[en]at b;exact um
def T0{aP:af P}(a5:P.follows Departure.mixedOrders=l)(aZ:bZ P ac)(aS:a_ aP CT){aO}(t:ye ac CT F bh aR.toList I k=h (aO,ar,cq))(bK:U cq){aM}(bE:aM .normal aO ar)(id):
  b1 aP F (.region id aR l) aM I k:=by
 unfold ye at t;split at t
 .cases t
 rename_i bn;rw[hJ]at t;split at t
 case h_2=>cases t
 rename_i ah aE;rw[hJ]at t;cases t;generalize bF:aR.toList=g at *;generalize aF:oD g I=cK at *;have bt:∀e:Nat,aR[e]?=g[e]?:=λe=>by grind
 have bd:aR.size=c g:=N;let m:k3:=⟨0,[],k,[],[],[],[]⟩
 obtain⟨bR,bS⟩:=Mp (ac:=ac) (CT:=CT) (F:=F) (bh:=bh) (cK:=cK) (b_:=m) (bq:=g) (f:=0) (λe=>by simp) aE;simp only[cZ]at bR bS;let j:=jM ac CT F bh g cK m;have aK:∀e r,g[e]?=h r->g.getD e ev=r:=λe r t=>by grind
 have ai:∀e r,g[e]?=h r->qv ac CT F bh g cK m e=(fZ (λi=>en i (da (r).after.toList)) 0 (j e).pre (hq (j e).a' g cK)):=λe r t=>by unfold qv;grind
 have C:∀e r,g[e]?=h r->∃br,Gm ac CT F bh g cK (j e) (j (e+1)) r (sg ac CT F bh g cK m e) (if jt ac CT F bh g cK m e=l then h (j (e+1)).b else n) br:=by
  intro e r cy;obtain⟨aL,z,br,p⟩:=MW (bR e r cy);have aJ:=p.op;have az:zn ac CT F bh g cK m e=h (aL,z,br):=by unfold zn qv;grind
  have bM:sg ac CT F bh g cK m e=aL:=by unfold sg;rw[az]
  cases z with
  |none=>
   have R:jt ac CT F bh g cK m e=v:=by unfold jt;rw[az]
   grind
  |some bl=>
   have R:jt ac CT F bh g cK m e=l:=by unfold jt;rw[az]
   have bN:(j (e+1)).b=bl:=p.b;grind
 have bs:∀e,e<=c g->(j e).a'=e:=by
  intro e;induction e with
  |zero=>intro _;rfl
  |succ e M=>
   intro bp;obtain⟨_,p⟩:=C e _ (bJ w);rw[p.a',M w]
 have W:∀e,e<=c g->∀i,(j e).pre[i]?=if i<e then(g[i]?).map (λr=>(r.dst,sg ac CT F bh g cK m i))else n:=by
  intro e;induction e with
  |zero=>intro _ i;exact cV
  |succ e M=>
   intro bp i;obtain⟨_,p⟩:=C e _ (bJ w);have T:(j e).pre.length=e:=by
    apply xh
    .grind
    grind
   rw[p.pre];grind
 have aw:∀e,e<=c g->∀i,(j e).cf[i]?=if i<e then h (qk ac CT F bh g cK m i)else n:=by
  intro e;induction e with
  |zero=>intro _ i;exact cV
  |succ e M=>
   intro bp i;obtain⟨_,p⟩:=C e _ (bJ w);have T:(j e).cf.length=e:=by
    apply xh
    .apply Nat.le_of_not_lt;intro aI;have:=M w e;grind
    grind
   rw[p.cf];by_cases S:i<e
   .grind
   rw[hx w];by_cases q:i=e
   .subst q;rw[bo w,T,sI];simp only[ml,qk,aK i _ (bJ (by omega:i<c g))];rfl
   grind
 have bx:∀e,e<=c g->∀i,gA (j e).dB i=(decide (i<e)&&jt ac CT F bh g cK m i):=by
  intro e;induction e with
  |zero=>intro _ i;exact cV
  |succ e M=>
   intro bp i;obtain⟨_,p⟩:=C e _ (bJ w);rw[p.iH];cases R:jt ac CT F bh g cK m e with
   |false=>
    grind
   |true=>
    simp only[dw,Option.isSome_some];rw[qf,M w i,xz,bs e w];by_cases q:i=e
    .grind
    grind
 have bf:∀e,e<=c g->∀i,gA (j e).dC i=(decide (i<e)&&!qx ac CT F bh g cK m i):=by
  intro e;induction e with
  |zero=>intro _ i;exact cV
  |succ e M=>
   intro bp i;obtain⟨_,p⟩:=C e _ (bJ w);have ag:(if jt ac CT F bh g cK m e=l then h (j (e+1)).b else n).isSome=jt ac CT F bh g cK m e:=by cases jt ac CT F bh g cK m e<;>rfl
   have an:qx ac CT F bh g cK m e=!(mI (fZ (λi=>en i (da (g[e]'w).after.toList)) 0 (j e).pre (hq (j e).a' g cK)) (g[e]'w)||jt ac CT F bh g cK m e):=by unfold qx;rw[ai e _ (bJ w),aK e _ (bJ w)];simp
   rw[p.ju,ag];cases R:(mI (fZ (λi=>en i (da (g[e]'w).after.toList)) 0 (j e).pre (hq (j e).a' g cK)) (g[e]'w)||jt ac CT F bh g cK m e)with
   |false=>
    grind
   |true=>
    simp only[dw];rw[qf,M w i,xz,bs e w];by_cases q:i=e
    .grind
    grind
 have V:∀e,e<=c g->U (j e).cz:=by
  have av:∀f e,e+f=c g->U (j e).cz:=by
   intro f;induction f with
   |zero=>
    grind
   |succ f M=>
    intro e bp;obtain⟨_,p⟩:=C e _ (bJ w);have:=M (e+1) w;rw[p.cz,U.Y]at this;exact this.2
  intro e bp;exact av (c g-e) e w
 have b5:∀e r,g[e]?=h r->aY aP F g r (qv ac CT F bh g cK m e) (j e).b (sg ac CT F bh g cK m e) (j (e+1)).b:=by intro e r cy;have bp:e<c g:=(cP.1 cy).1;obtain⟨_,p⟩:=C e r cy;have nz:=V (e+1) w;rw[p.cz,U.Y]at nz;have:=eh (P:=P) (F:=F) aZ aS p.op nz.1;rw[p.b];grind
 let idx:Nat->Option Nat:=λo=>(aA (c g)).find? (λe=>decide ((g.getD e ev).dst=h o));have b6:∀o i,idx o=h i->∃r,g[i]?=h r/\r.dst=h o:=N;have bQ:∀e r ay,g[e]?=h r->r.dst=h ay->idx ay=h e:=by
  intro e r ay cy O;have bp:e<c g:=(cP.1 cy).1;cases bM:idx ay with
  |none=>
   grind
  |some i=>
   grind[DU]
 have b9:∀o,jW o g=l↔∃i,idx o=h i:=by grind[Dd,vv]
 have b8:∀e r,g[e]?=h r->∀q∈r.after,eV q=l->q.on<e:=by intro e r cy q R Y;have bp:e<c g:=(cP.1 cy).1;obtain⟨_,p⟩:=C e r cy;have:=DB p.lt q.on (l5.2 ⟨q,by grind,Y,rfl⟩);grind
 have bm:=b8;have O:rb aP F aR I (λe=>(j e).b) (sg ac CT F bh g cK m) (qv ac CT F bh g cK m) (qx ac CT F bh g cK m) (λe=>decide (e<c g)&&jt ac CT F bh g cK m e) (λe i=>e<c g/\gA (qk ac CT F bh g cK m e) i=l) idx (fZ (λ_=>l) 0 ah.pre (mQ g I)):=by
  refine⟨a5,N,?_,?_,?_,?_,?_,?_,?_,?_,?_⟩
  .intro e r ay cy O;rw[bt]at cy;obtain⟨_,p⟩:=C e r cy;exact⟨bQ e r ay cy O,lh p.dst ay O⟩
  .grind
  .intro e R;rcases dY e (c g) with bp|bp
   .obtain⟨_,p⟩:=C e _ (bJ bp);have:jt ac CT F bh g cK m e=v:=N;have b4:=p.b;grind
   have bA:g.getD e ev=ev:=N;show(j (e+1)).b=(j e).b;have:pH ac CT F bh g cK (j e) ev=n∨∃aH,pH ac CT F bh g cK (j e) ev=h aH:=by
    cases pH ac CT F bh g cK (j e) ev with
    |none=>grind
    |some aH=>grind
   show((pH ac CT F bh g cK (j e) (g.getD e ev)).getD (j e)).b=(j e).b;rw[bA];rcases this with t|⟨aH,t⟩
   .grind
   rw[t];obtain⟨aL,z,bO,p⟩:=MW t;have aJ:=p.op;have:z=n:=by unfold iJ at aJ;simp only[ev,pw,y9,vf,vq]at aJ;grind
   rw[h9,p.b,this];rfl
  .grind
  .intro e r cy ae;rw[bt]at cy;have bp:e<c g:=(cP.1 cy).1;have aG:mI (fZ (λi=>en i (da (r).after.toList)) 0 (j e).pre (hq (j e).a' g cK)) r=v/\jt ac CT F bh g cK m e=v:=by unfold qx at ae;grind
   refine⟨by grind,λf=>?_⟩;obtain⟨bO,p⟩:=C e r cy;have aJ:=p.op;rw[aG.2]at aJ;have aD:=aaP aG.1 (by simpa using aJ) (j f).b;have nz:=V (e+1) w;rw[p.cz,U.Y]at nz;have:=eh (P:=P) (F:=F) aZ aS aD nz.1;grind
  .intro L cd e i ⟨bp,Y⟩;have ak:∀e,e<c g->L e->∀q,q∈da (g.getD e ev).after.toList->L q:=by intro e bp al q R;rw[aK e _ (bJ bp)]at R;obtain⟨bw,s,u,rfl⟩:=l5.1 R;grind
   have key:∀e,e<c g->∀i,gA (qk ac CT F bh g cK m e) i=l->(∀q∈da (g.getD e ev).after.toList,L q)->L i:=by
    intro e;induction e using Nat.strongRecOn with
    |_ e M=>
     intro bp i Y aU;obtain⟨q,R,t⟩:=B_ Y;have aI:q<e:=by have Q:=R;rw[aK e _ (bJ bp)]at Q;obtain⟨bw,s,u,rfl⟩:=l5.1 Q;grind
     rcases t with rfl|⟨bU,bG,a1⟩
     .grind
     have:=aw e w q;rw[bo aI]at this;have a0:(j e).cf[q]?=h bU:=bG;rw[a0]at this;cases this;exact M q aI w i a1 (ak q w (aU q R))
   refine⟨λal=>key e bp i Y (ak e bp al),g[e],by grind,λbL=>key e bp i Y ?_⟩;grind[List.getElem?_eq_getElem,l5]
  .intro e Z bp y R b0 aq;rw[bd]at bp y;have Q:jt ac CT F bh g cK m Z=l:=N;rcases dY Z e with aI|bY
   .refine .inl ⟨aI,bp,?_⟩;obtain⟨_,p⟩:=C e _ (bJ bp);have K:qk ac CT F bh g cK m e=lQ (j e).cf (da (g[e]).after.toList):=by unfold qk;grind
    rw[K];cases a3:jt ac CT F bh g cK m e with
    |true=>
     have s:=p.b8 N;refine tU s ?_;rw[bf e w Z];have:qx ac CT F bh g cK m Z=v:=by unfold qx;grind
     grind
    |false=>
     have a8:mI (fZ (λi=>en i (da (g[e]).after.toList)) 0 (j e).pre (hq (j e).a' g cK)) g[e]=l:=by unfold qx at aq;rw[ai e _ (bJ bp),aK e _ (bJ bp),a3]at aq;grind
     have s:=p.load a8 N;grind[tU]
   have aI:e<Z:=w;refine .inr ⟨aI,y,?_⟩;obtain⟨_,p⟩:=C Z _ (bJ y);have K:qk ac CT F bh g cK m Z=lQ (j Z).cf (da (g[Z]).after.toList):=by unfold qk;grind
   rw[K];have s:=p.b8 N;grind[tU]
  .intro e r cy o k b aa ab;rw[bt]at cy;have bp:e<c g:=(cP.1 cy).1;unfold qv;rw[aK e r cy];rcases vL (A:=λi=>en i (da r.after.toList)) (I:=hq (j e).a' g cK) (o:=o) (d:=(j e).pre) (e:=0)with⟨i,aL,s,u,x⟩|x
   .have J:look (fZ (λi=>en i (da r.after.toList)) 0 (jM ac CT F bh g cK m e).pre (hq (jM ac CT F bh g cK m e).a' g cK)) o=aL:=x;rw[J];have B:=W e w i;rw[s]at B;have S:i<e:=N;rw[bo S,bJ (by omega:i<c g)]at B;simp only[lK,e_,lL]at B;obtain⟨bc,b3⟩:=B;have aN:=bQ i _ o (bJ (by omega:i<c g)) bc.symm;rw[aN]at ab;simp only at ab;rw[bo]at ab
    .grind
    have aC:i∈da r.after.toList:=by simp only[cZ]at u;exact qI u
    obtain⟨q,bT,b',bU⟩:=l5.1 aC;grind
   have J:look (fZ (λi=>en i (da r.after.toList)) 0 (jM ac CT F bh g cK m e).pre (hq (jM ac CT F bh g cK m e).a' g cK)) o=look (hq (j e).a' g cK) o:=x;rw[J,bs e w,<-aF,KT];split
   .trivial
   rename_i b2;cases aN:idx o with
   |some i=>
    have cc:=(b9 o).2 ⟨i,aN⟩;have bD:ny e o g=v:=N;obtain⟨bg,ba,a2⟩:=b6 o i aN;have bI:=qI (Kk bD i bg ba a2);obtain⟨q,R,Y,heq⟩:=l5.1 bI;rw[aN]at ab;simp only at ab;split at ab
    ·
     rename_i a4;obtain⟨cb,bW,bV,bH⟩:=a4;grind
    rw[bo ⟨bg,by grind,q,by grind,Y,heq⟩]at ab;exact ab
   |none=>grind
  intro o k b aa ab;have bB:j (c g)=ah:=bS;rcases vL (A:=λ_=>l) (I:=mQ g I) (o:=o) (d:=ah.pre) (e:=0)with⟨i,aL,s,_,x⟩|x
  .rw[x];have B:=W (c g) (bC _) i;rw[bB,s]at B;have S:i<c g:=N;grind
  rw[x,ts];split
  .trivial
  grind
 intro b bT an a6 b' cf ca b7 Y aX;have aT:j aR.size=ah:=N;refine .next a λE H=>?_;have H:=aP.bJ H;have G:=a6.rely H;have aB:=an.rely H a6;have X:cO k E k {E with a:={E.a with drawn:=E.a.drawn+1}}:=cO.same rfl rfl rfl rfl;have ao:bb k {E with a:={E.a with drawn:=E.a.drawn+1}}:=G.same rfl;have bk:=H.aT.trans (X.too0 G);refine⟨_,{E with a:={E.a with drawn:=E.a.drawn+1}},#[],Eu,⟨⟨k,k,G,ao,X⟩,.nil⟩,?_⟩;simp only[Region.schedule,a5,Bool.true_or,dw];refine O.eR Y (cI:={E with a:={E.a with drawn:=E.a.drawn+1}}) (λbP bu aQ u au=>?_) aR.size _ D ?_ ?_ 0 _ bT w ?_ ?_ ao (.refl _ _) _
 .simp only[aT]at aQ u au;exact aX .normal _ _ bP bu bE aQ u (bk.trans au)
 .simp
 .exact FB
 .intro Z y bX;exact wM
 have aG:=aB.mono (X.too0 G) G.len;refine⟨aG.size,aG.defers,λo=>?_⟩;unfold gL;cases aN:idx o with
 |none=>exact aG.aL o
 |some i=>
  simp only;rw[bj]
  .exact aG.aL o
  exact wM
end
section
variable {q:af P}
theorem g.iG(e:P.follows Departure.mixedOrders=l)(aZ:bZ P ac)(b:a_ q CT){a}{id}(f:ye ac CT F bh aR.toList I k=h (a,ar,cq))(d:U cq)(i:g q F be av .normal a ar):g q F be (.code (.region id aR l)::av) .normal I k:=
 T0 e aZ b f d i id
end
def r9(x:m (Nat×cr))(p:m (Nat×bH))(k:m (Nat×Bool))(w:Nat)(b:m iu)(a:bL)(e:m aq):Option (m iu×bL×m aq×m Prop):=
 match b with
 |[]=>n
 |.blk _::b=>h (b,a,e,[])
 |.al _ []::b=>h (b,a,e,[])
 |.al f (q::i)::b=>match fp w q.dst with
  |true=>match iJ x p k f a e q with
   |some (o,n,d)=>e5 (gh q.dst o a) λa=>h (.al f i::b,a,e,d)
   |some (o,h j,d)=>e5 (gh q.dst o a) λa=>h (.al f i::b,a,j,d)
   |none=>n
  |false=>n
 |.code t::b=>match t with
  |.skip=>h (b,a,e,[])
  |.seq o u=>h (.code o::.code u::b,a,e,[])
  |.block id t=>h (.code t::.blk id::b,a,e,[])
  |.region id g y=>match vK k (id+900)with
   |some _=>n
   |none=>match y with
    |false=>h (.al g.toList g.toList::b,a,e,[])
    |true=>match ye x p w k g.toList a e with
     |some (r,j,d)=>h (b,r,j,d)
     |none=>n
  |.exit id=>match i5 id b with
   |some s=>h (s,a,e,[])
   |none=>n
  |.cond (.tmp z) o u=>match look a z with
   |.n (.Q (.c (.bool l)))=>h (.code o::b,a,e,[])
   |.n (.Q (.c (.bool v)))=>h (.code u::b,a,e,[])
   |_=>n
  |_=>n
theorem acL{d:af P}(p:P.follows Departure.mixedOrders=l)(aZ:bZ P ac)(ap:a_ d CT){C}{a}(s:r9 ac CT bh F av I k=h (C,a,ar,cq))(cy:U cq)(f:g d F be C .normal a ar):g d F be av .normal I k:=by
 unfold r9 at s;split at s
 .cases s
 .grind [g.ia]
 .grind [g.hD]
 .rename_i all r bq b;cases e:fp F r.dst with
  |false=>grind
  |true=>
   simp[e]at s;have al:=lh e;split at s
   .rename_i m j i;exact Rz
   .rename_i m aU j i;exact Rz
   grind
 rename_i o b;split at s
 .grind [g.skip]
 .grind [g.seq]
 .grind [g.block]
 .grind [g.region,g.iG]
 .grind [g.exit]
 .grind [g.cond]
 grind
def kZ(o:m (Nat×cr))(b:m (Nat×bH))(d:m (Nat×Bool))(k:Nat):Nat->m iu->bL->m aq->m Prop->Option (m iu×bL×m aq×m Prop)
 |0,f,e,g,a=>e5 a λa=>h (f,e,g,a)
 |q+1,f,e,g,a=>match r9 o b d k f e g with
  |some (p,i,j,r)=>kZ o b d k q p i j (gQ r a)
  |none=>e5 a λa=>h (f,e,g,a)
def Mo{P}{q:af P}(u:P.follows Departure.mixedOrders=l){ac}(aZ:bZ P ac){CT}(w:a_ q CT){bh}{F}{be}:∀{s:Nat}{i p:m iu}{f d:bL}{j e:m aq}{b a:m Prop},
  kZ ac CT bh F s i f j b=h (p,d,e,a)->U a->g q F be p .normal d e->g q F be i .normal f j/\U b
 |0,i,p,f,d,j,e,b,a,k,o,r=>by simp[kZ,hJ]at k;grind
 |s+1,i,p,f,d,j,e,b,a,k,o,r=>by
  simp[kZ]at k;cases x:r9 ac CT bh F i f j with
  |none=>
   grind[hJ]
  |some y=>
   obtain⟨A,z,t,D⟩:=y;simp[x]at k;obtain⟨C,B⟩:=Mo u aZ w k o r;grind[U.Y,acL]
def g.aN{b:af P}(m:P.follows Departure.mixedOrders=l)(aZ:bZ P ac)(d:a_ b CT)(bh)(j){i}{a}{f}(o:AM.kZ ac CT bh F j av I k []=h (i,a,ar,f))(e:U f)(p:g b F be i .normal a ar):g b F be av .normal I k:=(Mo m aZ d o e p).1
section
variable {q:af P}
def pD(e:m ResultVar)(b:m Nat)(f:bL)(a:y):Option (m Prop):=
 match oI f e with
 |some d=>match po d with
  |some g=>match hX (c b) a with
   |true=>kw g (fk b a)
   |false=>n
  |none=>n
 |none=>n
def g.aI{fn}{x}{res}(aX)(s:pD fn.results.toList aX I res=h Z)(O:U Z)(b3:∀u,u<x->aX[u]?=h u)(t:dy aX k=h ar:=by exact rfl)(i:l7 ar=l:=by exact rfl)(ju:fi aX=l:=by exact rfl):
  g q F (bW fn x res ar) (.code .ret::av) .normal I k:=by refine g.ret ⟨.inl a,aX,?_⟩;unfold pD at s;grind
def g.ao{fn}{res}(s:pD fn.results.toList [] I res=h Z)(x:U Z:=by simp):g q F (bW fn 0 res []) (.code .ret::av) .normal I k:=
 g.aI [] s x (λu s=>by omega)
def bW.zero{fn}{res}(s:pD fn.results.toList [] I res=h Z)(t:U Z:=by simp):bW fn 0 res [] .ret I k:=by
 refine⟨.inl a,[],?_⟩;unfold pD at s;split at s
 .rename_i bh Zq;split at s
  .rename_i O i;split at s
   .rename_i x;exact⟨bh,O,Z,Zq,i,s,t,x,a,a,a,λu s=>by omega⟩
   grind
  grind
 grind
def g.bs{id}{R:bL->m aq->Prop}{AI}{d C}(j:i5 id av=n)(o:i5 id d=h C)(w:g q F AI C .normal I k):
  g q F (λf b e=>match f with
   |.normal=>R b e
   |f=>g q F AI d f b e) (.code (.exit id)::av) .normal I k:=by
 have key:∀{av:m iu},i5 id av=n->∀{aM:fD},aM (.exit id) I k->g q F aM av (.exit id) I k:=by
  intro av;induction av with
  |nil=>intro _ aM i;exact i
  |cons u A r=>
   intro a aM i;cases u with
   |code z=>exact r (by simpa[i5]using a) i
   |al x y=>exact r (by simpa[i5]using a) i
   |blk s=>
    simp[i5]at a;cases p:ad id s with
    |true=>grind
    |false=>
     simp[p]at a;have t:id≠s:=λf=>by grind[Nat.beq_refl]
     simp[g,t,dn];grind
 exact b1.exit (key j (g.toExit o w))
def g.bR{R:bL->m aq->Prop}{a}{f}(i:a .ret I k):
  g q F (λe b d=>match e with
   |.normal=>R b d
   |e=>g q F a f e b d) (.code .ret::av) .normal I k:=g.ret (g.dJ (be:=a) i)
def g.again{i:Type}{r:i->Prop}{e:i->bL}{f:i->m aq}{j:i->Nat}{s}{o:fD}(a)(w:i' I (e a)=h Z)(x:U Z)(y:r a)(u:j a<j s)(t:k=f a):
  g q F (λp b d=>match p with
   |.normal=>∃a,r a/\j a<j s/\iO b (e a)/\d=f a
   |p=>o p b d) [] .normal I k:=⟨a,y,u,eu w x,t⟩
def g.ej{j:Type}(i:j->Prop)(a:j->bL)(b:j->m aq)(p:j->Nat)(d)(u:i' I (a d)=h Z)(w:U Z)(x:i d)(s:b d=k)(round:∀d,i d->g q F (λr e f=>match r with
   |.normal=>∃o,i o/\p o<p d/\iO e (a o)/\f=b o
   |r=>g q F be av r e f) [.code t] .normal (a d) (b d)):g q F be (.code (.loop t)::av) .normal I k:=
 g.loop i a b p d x (eu u w) s round
def kG(args:m y)(a:m aq):Prop:=∃b z,b5 a b z args/\bb a b
def kG.at{args}(e:kG args k){a}(f:args[u]?=h a):∃b g,bx k b g a:=by obtain⟨b,z,d,_⟩:=e;obtain⟨_,i⟩:=b5.get d;grind
def kG.T{args}{k}(e:kG args k)(g:Nat){d}(a:args[g]?=h (ay (.T d))):c d<=9223372036854775807:=by
 obtain⟨i,j,f⟩:=e.at a;cases b8 f with
 |T e b=>exact b
def kG.B{args}{k}(g:kG args k)(p:Nat){o}{f j}{a:Nat->m M}(b:args[p]?=h (ay (.B o f j a))):j<=9223372036854775807:=by
 obtain⟨t,u,e⟩:=g.at b;cases b8 e with
 |B r d s q i=>omega
def Y.body{i}{fn}{args}{res}(f:P.funcs[i]?=h fn)(e:(fn.name== "runtime.NumGoroutine")=v)(d:fn.body=h t)(m:ax args.length fn.ntmps=l)(o:kG args k->g q fn.ntmps (bW fn k.length res ar) [.code t] .normal (h_ 0 args) k):Y q i args k res ar:=by refine⟨⟨fn,f,e,by grind⟩,λj z b a=>?_⟩;exact(Y.intro f e d (fz m) (g.aO (o ⟨j,z,b,a⟩))).2 j z b a
def Y.ab{b}{fn}{t}{args}{k ar}{res}(d:P.funcs[b]?=h fn)(a:(fn.name== "runtime.NumGoroutine",fn.body,ax args.length fn.ntmps)=(v,h t,l))(e:kG args k->g q fn.ntmps (bW fn k.length res ar) [.code t] .normal (h_ 0 args) k):Y q b args k res ar:=by simp only[lL]at a;exact Y.body d a.1 a.2.1 a.2.2 e
def g.cj{i}(a)(ar)(j:(∀f(b:m Prop),i' f a=h b->U b->g q F be (.code t::i) .normal f ar)->g q F be av .normal I k)(o:g q F be (.code t::i) .normal a ar):g q F be av .normal I k:=
 j λ_ _ d e=>b1.le o (eu d e)
end
def l1{e}(a:P.types[o]?=h e):P.info? o=h e:=by unfold Tables.info?;rw[bo (jl.1 a).1];exact a
def bZ.nil:bZ P []:=λ_ _ a=>by cases a
def bZ.cons{e}(f:eL P o e)(g:bZ P ac):bZ P ((o,e)::ac):=by
 intro t2 d a;simp only[bX]at a;cases b:ad o t2 with
 |true=>rw[b]at a;cases a;rw[<-dp b];exact f
 |false=>rw[b]at a;exact g t2 d a
abbrev E':M:=.B l 0 0 (λ_=>[])
def xl:X->M
 |.int a _=>.int a 0
 |.bool _=>.bool v
 |.string _=>.T []
 |.slice _ _ _=>E'
 |.pointer _=>.bp
 |.nilIface=>.bD
 |_=>.dq
def cd(a b:TypeInfo)(d:m TypeDesc:=[]):cr:=⟨a.size,a.bytes,vC b.desc,b.desc,a.zero.elim [] λe=>e.cells.toList.map xl,d⟩
def y7(b i:TypeInfo):Bool:=match b.zero with
 |some a=>a.cells.size==b.size&&a.cells.toList.all (λj=>match j with|.int e f=>f==0&&vA e 0|.bool d=>!d|.string g=>g.data.toList.isEmpty|.slice n 0 0|.pointer n|.nilIface|.nilFunc=>l|_=>v)&&(!vC i.desc||match a with|.agg _=>l|_=>v)
 |none=>v
def eL.h5{j k:TypeInfo}{r:m TypeDesc}(A:P.underlying o=h k.desc)(B:P.types[o]?=h j)(f:y7 j k=l)(C:r≠[]->P.eqGuardType P.depth o=v/\∀(s:au)(z e:m X)(t:Bool),nm r z e=h t->(Op.equal o (.agg z.toArray) (.agg e.toArray)).run P s=.ok t s/\∀i,(Op.equal o (.agg z.toArray) (.agg e.toArray)).events P s i=i):eL P o (cd j k r):=by
 unfold y7 at f;cases g:j.zero with
 |none=>rw[g]at f;cases f
 |some u=>
  simp only[g,cp,gl,aW]at f;obtain⟨⟨p,q⟩,w⟩:=f;refine⟨A,a,⟨j,u,l1 B,a,a,g,?_,?_,by simp[cd,g,p]⟩,C⟩
  .simp only[cd,g,Option.elim,uM];refine o6 λD x=>?_;have:=q D x;split at this<;>try simp only[cp,gl,List.isEmpty_iff,iT]at this
   .obtain⟨rfl,d⟩:=this;simp[k',xl,d]
   .simp[k',xl,this]
   .rename_i b;have d:b.size=0:=by rw[show b.size=c b.data.toList from a,this];rfl
    simp only[Function.comp,k',xl,this,d];rfl
   all_goals first|rfl|cases this
  by_cases y:vC k.desc=l
  .cases u<;>simp_all[cd]
  exact⟨#[],(bj y).symm⟩
def bZ.dX{d e:TypeInfo}(b:P.underlying o=h e.desc)(g:P.types[o]?=h d)(f:y7 d e=l)(i:bZ P ac):bZ P ((o,cd d e)::ac):=.cons (.h5 b g f λb=>absurd a b) i
def bZ.j8{d b:TypeInfo}{e:TypeDesc}{f:m TypeDesc}{a:m Field}(g:P.underlying o=h b.desc)(r:P.types[o]?=h d)(i:y7 d b=l)(k:b.desc=.struct a.toArray)(j:P.stoodInHeld o=v)(p:P.eqGuardType P.depth o=v)(q:w0 P (e::f) a 0)(s:bZ P ac):bZ P ((o,cd d b (e::f))::ac):=.cons (.h5 g r i λ_=>Y' (g.trans (eF h k)) j p q) s
namespace R1
section
noncomputable def dZ:cr:=cd t3 t3
noncomputable def tf:cr:=cd t9 t9
noncomputable def ZA:cr:=cd t31 t31
noncomputable def Dl:cr:=cd t45 t45
noncomputable def rR:cr:=cd t50 t49
noncomputable def vx:cr:=cd t54 t53 [.int .i64,.int .i64]
noncomputable def yO:cr:=cd t69 t68 [.int .i64,.int .i64]
noncomputable def rS:cr:=cd t81 t80 [.string,.string]
noncomputable def yM:cr:=cd t111 t110
noncomputable def Zz:cr:=cd t112 t112
noncomputable def Dj:cr:=cd t117 t117
noncomputable def nA:cr:=cd t119 t118
noncomputable def yN:cr:=cd t152 t152
noncomputable def rQ:cr:=cd t164 t163 [.string,.bool]
noncomputable def mF:cr:=cd t170 t169 [.int .i64,.string]
noncomputable def pk:cr:=cd t300 t299 [.int .i64,.int .i64]
noncomputable def Dk:cr:=cd t321 t117
noncomputable def eQ:m (Nat×cr):=[(2,cd t2 t2),(3,dZ),(4,cd t4 t4),(5,cd t5 t5),(6,cd t6 t5),(8,cd t8 t7),(9,tf),(12,cd t12 t12),(16,cd t16 t16),(17,cd t17 t17),(20,cd t20 t20),(21,cd t21 t21),(22,cd t22 t22),(23,cd t23 t23),(26,cd t26 t26),(27,cd t27 t27),(28,cd t28 t28),(30,cd t30 t29),(31,ZA),(33,cd t33 t32),(35,cd t35 t34 [.int .i64,.int .i64,.int .i64,.string]),(36,cd t36 t36),(38,cd t38 t37),(43,cd t43 t43),(45,Dl),(47,cd t47 t46),(48,cd t48 t48),(50,rR),(54,vx),(60,cd t60 t60),(69,yO),(72,cd t72 t72),(74,cd t74 t74),(75,cd t75 t75),(81,rS),(82,cd t82 t26),(84,cd t84 t83),(90,cd t90 t89),(111,yM),(112,Zz),(117,Dj),(119,nA),(152,yN),(154,cd t154 t153),(155,cd t155 t153),(156,cd t156 t153),(157,cd t157 t157),(159,cd t159 t158),(160,cd t160 t160),(162,cd t162 t161),(164,rQ),(170,mF),(173,cd t173 t173),(189,cd t189 t189),(191,cd t191 t190),(194,cd t194 t194),(196,cd t196 t196),(205,cd t205 t205),(209,cd t209 t209),(224,cd t224 t224),(226,cd t226 t225),(234,cd t234 t3),(247,cd t247 t247),(254,cd t254 t254),(263,cd t263 t262 [.string]),(268,cd t268 t12),(270,cd t270 t269),(273,cd t273 t272),(275,cd t275 t5),(289,cd t289 t289),(291,cd t291 t157),(294,cd t294 t294),(300,pk),(313,cd t313 t312),(317,cd t317 t317),(320,cd t320 t320),(321,Dk),(330,cd t330 t330),(333,cd t333 t333),(335,cd t335 t335),(336,cd t336 t336),(349,cd t349 t349),(352,cd t352 t351),(353,cd t353 t3),(359,cd t359 t358),(377,cd t377 t377),(378,cd t378 t378),(391,cd t391 t390 [.int .u8,.int .u8]),(392,cd t392 t392),(393,cd t393 t393),(396,cd t396 t396),(398,cd t398 t397),(400,cd t400 t5),(402,cd t402 t21),(403,cd t403 t21),(405,cd t405 t404),(411,cd t411 t410 [.string])]
end
def bc:bZ T eQ:=by
 unfold eQ
 repeat' first|exact bZ.nil|refine bZ.j8 bG bG bG rfl bG bG (by repeat' first|exact B|kernel_rfl|refine⟨by decide,rfl,?_,?_⟩|refine⟨?_,?_⟩) ?_|refine bZ.dX bG bG bG ?_
end R1
abbrev bD:=m UInt8
abbrev b2(a:bD):y:=ay (.T a)
abbrev Q(a:Int):y:=ay (.int .i64 a)
abbrev ve(a:Int):y:=ay (.int .u8 a)
abbrev bg(a:Bool):y:=ay (.bool a)
def xE{b}:kM b e=b.getD e 0:=rfl
namespace R1
variable {q:af T}
def b7:Tryz.prog.follows Departure.mixedOrders=l:=rfl
def tJ{b:af T}{CT}(f:a_ b CT)(bh){F}{be}(j){av i}{I a}{k ar}{e}(m:AM.kZ eQ CT bh F j av I k []=h (i,a,ar,e))(d:U e)(o:g b F be i .normal a ar):g b F be av .normal I k:=g.aN b7 bc f bh j m d o
def gH{d:af T}(bh){F}{be}(j){av i}{I a}{k ar}{e}(f:AM.kZ eQ [] bh F j av I k []=h (i,a,ar,e))(b:U e)(m:g d F be i .normal a ar):g d F be av .normal I k:=g.aN b7 bc a_.nil bh j f b m
def aQ{d:af T}{F}{be}{av i}{I a}{k ar}{e}(f:AM.kZ eQ [] [] F 100 av I k []=h (i,a,ar,e))(b:U e)(j:g d F be i .normal a ar):g d F be av .normal I k:=g.aN b7 bc a_.nil [] 100 f b j
def cB{d:af T}{F}{be}{av i}{I a}{k ar}{e}(f:AM.kZ eQ [] [] F 200 av I k []=h (i,a,ar,e))(b:U e)(j:g d F be i .normal a ar):g d F be av .normal I k:=g.aN b7 bc a_.nil [] 200 f b j
def a8{b:af T}{CT}(f:a_ b CT)(bh){F}{be}{av i}{I a}{k ar}{e}(j:AM.kZ eQ CT bh F 100 av I k []=h (i,a,ar,e))(d:U e)(m:g b F be i .normal a ar):g b F be av .normal I k:=g.aN b7 bc f bh 100 j d m
def bf{b:af T}{CT}(f:a_ b CT)(bh){F}{be}{av i}{I a}{k ar}{e}(j:AM.kZ eQ CT bh F 200 av I k []=h (i,a,ar,e))(d:U e)(m:g b F be i .normal a ar):g b F be av .normal I k:=g.aN b7 bc f bh 200 j d m
def a3{d:af T}(bh){F}{be}{av i}{I a}{k ar}{e}(f:AM.kZ eQ [] bh F 100 av I k []=h (i,a,ar,e))(b:U e)(j:g d F be i .normal a ar):g d F be av .normal I k:=g.aN b7 bc a_.nil bh 100 f b j
def bR{d:af T}(bh){F}{be}{av i}{I a}{k ar}{e}(f:AM.kZ eQ [] bh F 200 av I k []=h (i,a,ar,e))(b:U e)(j:g d F be i .normal a ar):g d F be av .normal I k:=g.aN b7 bc a_.nil bh 200 f b j
def b9{b:af T}{CT}(f:a_ b CT){F}{be}{av i}{I a}{k ar}{e}(j:AM.kZ eQ CT [] F 100 av I k []=h (i,a,ar,e))(d:U e)(m:g b F be i .normal a ar):g b F be av .normal I k:=g.aN b7 bc f [] 100 j d m
def cU{b:af T}{CT}(f:a_ b CT){F}{be}{av i}{I a}{k ar}{e}(j:AM.kZ eQ CT [] F 200 av I k []=h (i,a,ar,e))(d:U e)(m:g b F be i .normal a ar):g b F be av .normal I k:=g.aN b7 bc f [] 200 j d m
def lv(a:Int):Bool:=decide (97<=a)&&decide (a<=101)
theorem Xb(i):Y q 120 [ve i] [] (bg (lv i)) []:=by
 refine Y.ab func120 rfl λ_=>?_;by_cases b:97<=i
 .refine a3 [4] a ?_ (g.ao a ?_)<;>simp[b,lv]
 refine a3 [-4] a ?_ (g.ao a ?_)<;>simp[b,lv]
def jx(a:UInt8):Bool:=decide (97<=a.toNat)&&decide (a.toNat<=122)
def d6(a:bD):Bool:=a.all jx
def aab{b}(d:∀a,a<c b->jx (b.getD a 0)=l):d6 b=l:=by simp[d6,aW];grind[List.getElem_of_mem]
def Z_{b}(e:u<c b)(d:jx (b.getD u 0)=v):d6 b=v:=by
 cases a:d6 b with
 |false=>rfl
 |true=>
  simp[d6,aW]at a;grind
theorem WH(b):Y q 121 [b2 b] [] (bg (d6 b)) []:=by
 refine Y.ab func121 rfl λe=>?_;have m:=e.T 0 a;refine aQ a B (g.ej (λd=>d<=c b/\∀u,u<d->jx (b.getD u 0)=l) (λd:Nat=>[(0,b2 b),(3,Q d)]) (λ_=>[]) (λd=>c b-d) 0 a D ⟨by omega,by omega⟩ a ?_);rintro d ⟨f,t⟩;by_cases s:d<c b
 .generalize x:b.getD d 0=i;by_cases k:i.toNat<97
  .refine a3 [7,13] a ?_ (g.bR (bW.zero a ?_))
   .simp only[U,xE,bz,x];omega
   exact z_
  by_cases j:i.toNat>122
  .refine a3 [7,-13,18] a OZ (g.bR (bW.zero a ?_));exact z_
  refine a3 [7,-13,-18] a Q8 (g.again (d+1) a D ?_ ?_ a)
  .refine⟨by omega,λu O=>?_⟩;rcases w9.1 O with O|rfl
   .grind
   rw[x];simp[jx,cp,bz];omega
  omega
 exact O7
end R1
def Y.args{P:aD}{g:af P}{i}{args a}{k ar}{res}(j:Y g i a k res ar)(e:∀b z,b5 k b z args->b5 k b z a):Y g i args k res ar:=
 ⟨j.1,λb z f d=>j.2 b z (e b z f) d⟩
def jA(d:Nat):y->Option (Nat×(Nat->m M))
 |.n (.Q (.c (.B _ e b a)))=>match ad e d with
  |true=>h (b,a)
  |false=>match ad b 0 with
   |true=>h (0,λ_=>[])
   |false=>n
 |_=>n
def acp{C}{r}{j}{e:Nat->m M}(a:jA C r=h (j,e)){k}{b}{aa}(s:bx k b aa r):Rd b.D aa (.B v C j e):=by
 unfold jA at a;split at a
 .rename_i o f d dK;split at a
  .rename_i g;have p:=dp g;subst p;cases a;exact(b8 s).ei
  split at a
  .rename_i u;have p:=dp u;subst p;cases a;have q:=b8 s;cases q with
   |B x i y t E F g z A B=>exact Rd.B x i y t E D w w w w
  grind
 grind
def gI{b:Type}(d:b->m M)(a:b)(f:m b):Nat->m M:=λe=>d (f.getD e a)
structure c5(α:Type) where
 bj:Nat
 a8:α->m M
 b6:m M->α
 E:α
 inv:∀x,b6 (a8 x)=x
 len:∀x,c (a8 x)=bj
namespace c5
variable {α:Type}(t:c5 α)
def ad(d:Nat)(a:Nat->m M):m α:=(aA d).map λb=>t.b6 (a b)
def fn(a:m α):Nat->m M:=gI t.a8 t.E a
def bN(d:Nat)(a:Nat->m M):Prop:=∀b,b<d->a b=t.a8 (t.b6 (a b))
def B(a:m α):y:=ay (.B v t.bj (c a) (t.fn a))
def jm{j}{a:Nat->m M}:c (t.ad j a)=j:=by simp[ad]
def l(d):t.ad (c d) (t.fn d)=d:=by
 apply ru
 .simp[ad]
 intro e b a;simp[ad,fn,gI,aj,bJ a,t.inv]
def J(d){j}:t.bN j (t.fn d):=λa _=>by simp[fn,gI,t.inv]
def iO{j}{a:Nat->m M}(d:t.bN j a):bs j a (t.fn (t.ad j a)):=by intro e b;rw[d e b];simp[fn,gI,ad,aj,b]
def cu{d}{j}{a:Nat->m M}(i:jA t.bj d=h (j,a))(f:t.bN j a){k}{b}{aa}(o:bx k b aa d):bx k b aa (t.B (t.ad j a)):=by have e:=acp i o;have g:=e.cA (t.iO f);show Rd b.D aa (.B v t.bj (c (t.ad j a)) _);rw[t.jm];exact g
end c5
def dr(b:bD)(a:Nat):Int:=(b.getD a 0).toNat
theorem kn(b)(u):((kM b u).toNat:Int)=dr b u.toNat:=rfl
abbrev cJ:=bD×bD
def tT(a:m M)(b:Nat):bD:=match db b a with|some (.T d)=>d|_=>[]
def nB(a:m M)(b:Nat):Int:=match db b a with|some (.int _ d)=>d|_=>0
def bu:c5 cJ:={bj:=2,a8:=λb=>[.T b.1,.T b.2],b6:=λa=>(tT a 0,tT a 1),E:=([],[]),inv:=λ_=>rfl,len:=λ_=>rfl}
namespace R1
variable {q:af T}
def Bp:bH:=λargs a=>match args,a with
 |[.n (.Q (.c (.int .u8 b)))],[]=>h (bg (lv b),[],[])
 |_,_=>n
def ac2:bK q 120 Bp:=by intro args f b d a e _;unfold Bp at e;grind[Xb]
def xF:bH:=λargs a=>match args,a with
 |[.n (.Q (.c (.T b)))],[]=>h (bg (d6 b),[],[])
 |_,_=>n
def M':bK q 121 xF:=by intro args f b d a e _;unfold xF at e;grind[WH]
def Ie:m (Nat×bH):=[(120,Bp),(121,xF)]
def ql:a_ q Ie:=a_.cons ac2 (a_.cons M' a_.nil)
def fY(a:bD):Bool:=if c a=1 then lv (dr a 0)else if c a=3 then lv (dr a 0)&&(dr a 1==47)&&lv (dr a 2)else v
theorem XF(b):Y q 71 [b2 b] [] (bg (fY b)) []:=by
 refine Y.ab func71 rfl λf=>?_;by_cases ap:c b=1
 .refine a8 ql [6] a An (g.ao a ?_);simp[fY,ap,kn]
 by_cases d:c b=3
 .by_cases i:lv (dr b 0)=l
  .by_cases e:dr b 1=47
   .refine a8 ql [-6,11,14,18] a ?_ (g.ao a ?_)
    .simp[d,kn,i,e]
    simp[fY,d,i,e,kn]
   refine a8 ql [-6,11,14,-18] a ?_ (g.ao a ?_)
   .simp[d,kn,i,e]
   simp[fY,d,i,e]
  refine a8 ql [-6,11,-14] a ?_ (g.ao a ?_)
  .simp[d,kn,i]
  simp[fY,d,i]
 refine a8 ql [-6,-11] a bM (g.ao a ?_);simp[fY,ap,d]
def fO(a:bD):Bool:=decide (c a<=40)&&d6 a
theorem YA(b):Y q 72 [b2 b] [] (bg (fO b)) []:=by
 refine Y.ab func72 rfl λe=>?_;by_cases d:c b<=40
 .refine a8 ql [5] a bM (g.ao a ?_);simp[fO,d]
 refine a8 ql [-5] a bM (g.ao a ?_);simp[fO,d]
def lf(a b:bD):Bool:=(c a != c b)&&(dr a 0==dr b 0)
def UO(b i)(d:b≠[])(e:i≠[]):Y q 73 [b2 b,b2 i] [] (bg (lf b i)) []:=by
 have j:=xd.2 d;have f:=xd.2 e;refine Y.ab func73 rfl λk=>?_;by_cases O:c b=c i
 .refine a3 [-9] a pU (g.ao a ?_);simp[lf,O]
 refine a3 [9] a bw (g.ao a ?_);simp[lf,O,kn]
end R1
def ra(d a:m aq):Prop:=∀b,bb d b->bb a b/\cO d b a b/\∀f(e:y),bx d b f e->bx a b f e
def Ds:aq->aq->Option (m Prop)
 |.x g r j d,.x a e f b=>match ad g a,ad r e with
  |true,l=>h [j=f,bs j d b]
  |_,_=>n
 |.cells g q,.cells a i=>match ad g a with
  |true=>qD q i
  |false=>n
 |.N,.N=>h []
 |.K H,.K k=>h [H=k]
 |.loop u t w,.loop p o s=>h [aq.loop u t w=aq.loop p o s]
 |.bn,.bn=>h []
 |.q g r j d,.q a e f b=>match ad g a,ad r e with
  |true,l=>h [j=f,bs j d b]
  |_,_=>n
 |_,_=>n
def jw:m aq->m aq->Option (m Prop)
 |[],[]=>h []
 |b::g,d::f=>match Ds b d with
  |some e=>match jw g f with
   |some a=>h (gQ e a)
   |none=>n
  |none=>n
 |_,_=>n
def wX(j e:aq):Prop:=
 (∀d g f a,j=.x d g f a->∃b,e=.x d g f b/\bs f a b)/\((∀d g f a,j≠.x d g f a)->(∀d g f a,e≠.x d g f a)/\(j=e∨(∃d k i,j=.cells d k/\e=.cells d i/\∀m o z,bN m o z k->bN m o z i)∨∃d g f a b,j=.q d g f a/\e=.q d g f b/\bs f a b))
theorem Z1{B g}(d:Ds B g=h Z)(k:U Z):wX B g:=by
 unfold Ds at d;split at d
 .rename_i W f j V i x e b;split at d
  .rename_i t u;cases d;have m:=dp t;have w:=dp u;obtain⟨r,D⟩:j=e/\bs j V b:=k;subst m w r;refine⟨λeR J M C he=>?_,λK=>absurd a (K _ _ _ _)⟩;grind
  grind
 .rename_i W ah i o;split at d
  .rename_i t;have m:=dp t;subst m;exact⟨λ_ _ _ _ he=>q6,λ_=>⟨λ_ _ _ _ he=>q6,.inr (.inl ⟨W,ah,o,a,a,λN O z y=>Du d k y⟩)⟩⟩
  grind
 .exact FD
 .cases d;rename_i H p;have s:H=p:=k;subst s;exact FD
 .cases d;rename_i F E y I q A;have s:aq.loop F E y=aq.loop I q A:=k;exact⟨λ_ _ _ _ he=>q6,λ_=>⟨λ_ _ _ _ he=>q6,.inl s⟩⟩
 .exact FD
 .rename_i W f j V i x e b;split at d
  .rename_i t u;cases d;have m:=dp t;have w:=dp u;obtain⟨r,D⟩:j=e/\bs j V b:=k;subst m w r;exact⟨λ_ _ _ _ he=>q6,λ_=>⟨λ_ _ _ _ he=>q6,.inr (.inr ⟨W,f,j,V,b,a,a,D⟩)⟩⟩
  grind
 grind
def KL:∀{g d:m aq}{e:m Prop},jw g d=h e->U e->c d=c g/\∀(i:Nat)f b,g[i]?=h f->d[i]?=h b->wX f b
 |[],[],_,_,_=>⟨rfl,λi f b a=>by grind⟩
 |[],_::_,_,a,_=>by cases a
 |_::_,[],_,a,_=>by cases a
 |k::u,o::t,e,a,j=>by
  simp only[jw]at a;split at a
  .rename_i s p;split at a
   .rename_i afo dG;cases a;rw[U.Y]at j;obtain⟨r,q⟩:=KL dG j.2;grind[Z1]
   grind
  grind
def jX(D:jw k ar=h Z)(af:U Z):ra k ar:=by
 obtain⟨ay,aE⟩:=KL D af;intro C G;have aB:∀(i:Nat) q,k[i]?=h q->∃r,ar[i]?=h r/\wX q r:=N;have get:∀(i:Nat) (r:aq),ar[i]?=h r->∃q,k[i]?=h q/\wX q r:=N;have az:∀(i:Nat),(∀q,k[i]?=h q->q.dL=v)->∀q,ar[i]?=h q->q.dL=v:=by
  intro i ae r p;obtain⟨q,aJ,x⟩:=get i _ p;have aw:=ae q aJ;rcases(x.2 (λf g j b u=>by rw[u]at aw;cases aw)).2 with rfl|⟨f,e,M,rfl,rfl,_⟩|⟨f,g,j,b,d,rfl,rfl,_⟩
  .omega
  .rfl
  exact cV
 have aP:∀(i:Nat) f g j b,ar[i]?=h (aq.q f g j b)->∃d,k[i]?=h (aq.q f g j d):=by
  intro i f g j b p;obtain⟨q,aJ,x⟩:=get i _ p;by_cases B:∃f g j b,q=aq.x f g j b
  .obtain⟨E1,k1,ah,lU,rfl⟩:=B;obtain⟨d,s,_⟩:=x.1 _ _ _ _ rfl;cases s
  rcases(x.2 (λf g j b u=>B ⟨f,g,j,b,u⟩)).2 with rfl|⟨f,e,M,rfl,D,_⟩|⟨f,g,j,b,d,rfl,D,_⟩
  .grind
  .cases D
  grind
 have aL:∀(i:Nat) f g j b,ar[i]?=h (aq.x f g j b)->∃d,k[i]?=h (aq.x f g j d):=by
  intro i f g j b p;obtain⟨q,aJ,x⟩:=get i _ p;by_cases B:∃f g j b,q=aq.x f g j b
  .obtain⟨E1,k1,ah,lU,rfl⟩:=B;obtain⟨d,s,_⟩:=x.1 _ _ _ _ rfl;grind
  exact absurd a ((x.2 (λf g j b u=>B ⟨f,g,j,b,u⟩)).1 f g j b)
 have ao:∀(A:X) (Q:R),cC k C A Q->cC ar C A Q:=by
  intro A Q o;cases Q with
  |c aI=>exact o
  |ptr i aQ=>exact⟨az i o.1,o.2⟩
  |x i g j b=>
   refine⟨o.1,by rw[ay];exact o.2.1,λf I J d p=>?_⟩;obtain⟨kP,t⟩:=aL i f I J d p;exact o.2.2 f I J kP t
  |aY i=>exact⟨az i o.1,o.2⟩
  |O i aR=>
   obtain⟨ag,ai,aF,aG⟩:=o;refine⟨ag,ai,by grind,λf I J d p=>?_⟩;grind
  |any=>exact o
 have ak:∀(z:m X) (e:m R),bN k C z e->bN ar C z e:=by
  intro z;induction z with
  |nil=>intro e o;cases e with|nil=>trivial|cons _ _=>exact o.elim
  |cons A z F=>intro e o;cases e with|nil=>exact o.elim|cons aD e=>exact⟨ao _ _ o.1,F _ o.2⟩
 have au:∀(A:X) (u:E1),eB k C A u->eB ar C A u:=by
  intro A u o;cases u with
  |Q Q=>exact ao _ _ o
  |agg e=>obtain⟨z,s,t⟩:=o;exact⟨z,s,ak _ _ t⟩
 have aM:∀(z:m X) (e:m E1),e1 k C z e->e1 ar C z e:=by
  intro z;induction z with
  |nil=>intro e o;cases e with|nil=>trivial|cons _ _=>exact o.elim
  |cons A z F=>intro e o;cases e with|nil=>exact o.elim|cons aD e=>exact⟨au _ _ o.1,F _ o.2⟩
 have av:∀(A:X) (T:y),bx k C A T->bx ar C A T:=by
  intro A T o;cases T with
  |n aI=>exact au _ _ o
  |S aK=>obtain⟨z,s,t⟩:=o;exact⟨z,s,aM _ _ t⟩
  |any=>trivial
 refine⟨⟨G.mem,by rw[G.len,ay],?_,G.a4,G.lt,G.own⟩,⟨bC _,λ_ _ _=>rfl,λ_ _ _ D=>D,λ_ _ _ _=>rfl,λL D O w=>.inr ⟨L,D,w⟩,?_,a,a,a,a⟩,av⟩
 .intro i r L al W;obtain⟨q,aJ,x⟩:=get i r al;have w:=G.box i q L aJ W;by_cases B:∃f g j b,q=aq.x f g j b
  .obtain⟨f,g,j,b,rfl⟩:=B;obtain⟨d,rfl,p⟩:=x.1 _ _ _ _ rfl;refine⟨w.1.cA p,?_⟩;rcases w.2 with⟨s,t⟩|s
   .exact .inl ⟨s,t.cA p⟩
   grind
  rcases(x.2 (λf g j b u=>B ⟨f,g,j,b,u⟩)).2 with rfl|⟨f,e,M,rfl,rfl,S⟩|⟨f,g,j,b,d,rfl,rfl,S⟩
  .cases q with
   |cells f e=>obtain⟨O,z,s,t,E,K⟩:=w;exact⟨O,z,s,t,ak _ _ E,K⟩
   |x f g j b=>grind
   |K H=>exact w
   |N=>trivial
   |loop aO aN o=>obtain⟨i,tmps,fn,aC,s,t,E,K,V⟩:=w;exact⟨i,tmps,fn,aC,s,t,E,λaH=>av _ _ (K aH),V⟩
   |bn=>exact w
   |q f g j b=>exact w
  .obtain⟨O,z,s,t,E,K⟩:=w;exact⟨O,z,s,t,ak _ _ (S _ _ _ E),K⟩
  rcases w with w|⟨O,Y,z,an,s,t,E,K,V,aa,ab⟩
  .exact .inl w
  exact .inr ⟨O,Y,z,an,s,t,E,K,V,aa.cA S,ab⟩
 intro i q L aJ W;obtain⟨r,al,x⟩:=aB i q aJ;refine⟨r,L,al,W,?_⟩;by_cases B:∃f g j b,q=aq.x f g j b
 .obtain⟨f,g,j,b,rfl⟩:=B;obtain⟨d,rfl,p⟩:=x.1 _ _ _ _ rfl;exact⟨λ_=>rfl,bC _⟩
 rcases(x.2 (λf g j b u=>B ⟨f,g,j,b,u⟩)).2 with rfl|⟨f,e,M,rfl,rfl,S⟩|⟨f,g,j,b,d,rfl,rfl,_⟩
 .exact fQ.refl _ _
 .exact a
 exact⟨λ_=>rfl,bC _⟩
section
variable {q:af P}
theorem b1.aP{aM}{e}(E:∀d f,bY F k d I f->bb k d->∃a:a6,a.a=d.a/\bY F ar a e f/\bb ar a/\cO k d ar a)(M:b1 q F t aM e ar):b1 q F t aM I k:=by intro d f N b B u m A s r;obtain⟨a,K,D,y,x⟩:=E d f N b;have z:=x.too0 b;refine .aP (.of b y K z) ?_;exact M a f D y B u m A s λC J i w j O o p g=>r C J i w j O o p (z.trans g)
theorem g.aP{b}{ar}(f:∀d e,bY F k d I e->bb k d->∃a:a6,a.a=d.a/\bY F ar a b e/\bb ar a/\cO k d ar a)(i:g q F be (.code t::av) .normal b ar):g q F be (.code t::av) .normal I k:=
 b1.aP f i
def bY.aj{g:Act}(a:ra k ar)(e:bY F k b I g)(d:bb k b):bY F ar b I g:=⟨e.size,e.defers.imp λ_ f=>f.mono (a b d).2.1.ext,λi=>(a b d).2.2 _ _ (e.aL i)⟩
def g.bc(ar)(d:jw k ar=h Z)(b:U Z)(i:g q F be (.code t::av) .normal I ar):g q F be (.code t::av) .normal I k:=
 g.aP (λe j f a=>⟨e,rfl,f.aj (jX d b) a,(jX d b e a).1,(jX d b e a).2.1⟩) i
def g.bE(o)(W)(f){gn}(y:look I o=ay (.B l gn j V))(b:j=0)(r:g q F be (.code t::av) .normal ((o,.n (.Q (.x (c k) f j V)))::I) (k++[.x W f j V])):g q F be (.code t::av) .normal I k:=by
 refine g.aP (λi d e bQ=>?_) r;have s:=e.aL o;rw[y]at s;have a:=Rd.fS (f:=gn) (gn:=f) (.inr b) (b8 s);have aJ:eA (k++[.x W f j V]) {i with s:=i.s++[⟨d.tmps.getD o J,[]⟩]} (.x W f j V) ⟨d.tmps.getD o J,[]⟩:=⟨a.ei,.inl ⟨⟨rfl,b⟩,a⟩⟩;obtain⟨x,m⟩:=bQ.bY (.refl _ _) rfl bQ aJ D
 refine⟨{i with s:=i.s++[⟨d.tmps.getD o J,[]⟩]},rfl,⟨e.size,e.defers.imp λ_ a=>a.mono m.ext,λu=>?_⟩,x,m⟩;simp only[look];cases p:ad o u with
 |false=>exact(e.aL u).mono m.ext bQ.len
 |true=>
  have w:=dp p;subst w;exact tE (L:=⟨d.tmps.getD o J,[]⟩) D uk aJ
def g.b7{K:Type}(J:K->Prop)(f:K->bL)(d:K->m aq)(O:K->Nat)(p){C:m Prop}(aC:i' I (f p)=h Z)(y:U Z)(au:jw k (d p)=h C)(ai:U C)(aD:J p)(round:∀p,J p->g q F (λs x z=>match s with
   |.normal=>∃b,J b/\O b<O p/\iO x (f b)/\ra z (d b)
   |s=>g q F be av s x z) [.code t] .normal (f p) (d p)):g q F be (.code (.loop t)::av) .normal I k:=by
 intro af aF ak w an X T Q W V;have ab:=jX au ai;obtain⟨az,aB,_⟩:=ab af w;refine xt (λj e aE=>∃b,J b/\bY F (d b) aE (f b) e/\bb (d b) aE/\dh k af (d b) aE/\O b=j) ?_ ?_ ⟨p,aD,(ak.le (eu aC y)).aj ab w,az,aB.too0 w,a⟩
 .rintro j e aE ⟨b,Y,o,A,N,s⟩;exact⟨d b,A,λG u=>⟨b,Y,o.rely u A,A.rely u,N.trans u.aT,s⟩⟩
 rintro j e aE ⟨b,Y,o,A,N,rfl⟩ al;refine round b Y aE e o A an (.inLoop t::X) T Q W ?_;intro s R ah E S ae B i r;cases s with
 |normal=>
  obtain⟨ag,M,ar,ao,aa⟩:=ae;obtain⟨ay,aw,_⟩:=aa E i;exact al S E (O ag) ar ⟨ag,M,(B.le ao).aj aa i,ay,N.trans (r.trans (aw.too0 i)),a⟩
 |_=>exact kO.cons (λ_ _=>rfl) D (V _ _ _ _ _ ae B i (N.trans r))
def g.b4{d:Type}{r:d->Prop}{f:d->bL}{i:d->m aq}{j:d->Nat}{s:d}{o:fD}(a){cT}(w:i' I (f a)=h Z)(x:U Z)(t:jw k (i a)=h cT)(y:U cT)(z:r a)(u:j a<j s):
  g q F (λp b e=>match p with
   |.normal=>∃a,r a/\j a<j s/\iO b (f a)/\ra e (i a)
   |p=>o p b e) [] .normal I k:=⟨a,z,u,eu w x,jX t y⟩
end
def Y.b2{w:af P}{A}{args}{res d}(g:Y w A args [] res ar)(C:kw res d=h Z)(D:U Z)(x:hX 0 d=l):Y w A args [] d []:=by
 refine⟨g.1,λb z t j B o r=>g.2 b z t j B o λp F m s u f e=>?_⟩;have J:b.s=[]:=jJ j.len;have E:e9 m {m with s:=[]}:=⟨rfl,λ_ _ _ g=>g,λ_ _ _=>rfl,f.mem,λy i=>.inl N⟩
 refine .aP E (r p F {m with s:=[]} (s.mono λ_ _ _ g=>g) ?_ ⟨f.mem,rfl,by simp,by simp,by simp,λy i=>⟨(f.own y i).1,by simp⟩⟩ ⟨e.size,e.a7,e.mem,e.bA,by simp,λK I L aJ=>by grind,e.os,e.tape,e.output,e.own⟩);have q:=pp C D u;have:=bx.sub (aX:=[]) (k:=ar) (ar:=[]) (b:=m) (lG:=[]) (O:=d) a a (by rw[Mk x];exact q) x;omega
section drop
variable {aU bq:m aq}
def vy(b:Nat):aq->Bool
  |.cells _ a=>lr b a
  |.loop ..=>v
  |_=>l
def kt(a:Nat):m aq->Bool
  |[]=>l
  |b::d=>match vy a b with|true=>kt a d|false=>v
def Kx{j}:∀{e:m aq},kt j e=l->∀a∈e,vy j a=l
  |[],_,a,aJ=>by grind
  |f::g,b,a,aJ=>by
    simp[kt]at b;cases d:vy j f with
    |false=>grind
    |true=>
      simp[d]at b;rcases eT.1 aJ with rfl|aJ
      · exact d
      · exact Kx b a aJ
def eA.fB{d}{L}(j:vy (c aU) d=l)(a:eA (aU++bq) b d L):eA aU (b.cut (c aU)) d L:=by
  cases d with
  |cells i o=>
    obtain⟨k,z,f,g,p,m⟩:=a;exact⟨k,z,f,g,bN.cG p j,m⟩
  |x i q r e=>exact a
  |K H=>exact a
  |N=>trivial
  |loop t s u=>simp[vy]at j
  |bn=>exact a
  |q i q r e=>exact a
def bb.drop(e:bb (aU++bq) b)(r:kt (c aU) aU=l):bb aU (b.cut (c aU)):=by
  have m:c aU<=c b.s:=by rw[e.len];simp
  refine⟨e.mem,by simp[a6.cut,m],?_,?_,?_,λf a=>⟨(e.own f a).1,λL d=>(e.own f a).2 L (gN d)⟩⟩
  · intro i p L aJ d
    have q:i<c aU:=(cP.1 aJ).1;simp[a6.cut,iA,q,dw]at d;exact eA.fB (bq:=bq) (Kx r p (b' aJ)) (e.box i p L N d)
  · intro i o L j d k f a g
    simp only[a6.cut,iA]at d k;split at d<;>split at k<;>first|exact e.a4 i o L j d k f a g|grind|grind
  · intro L d f a
    exact e.lt L (gN d) f a
def ji.drop(o:jY bq=l):∀{e:m Deferred} {f:m Nat},ji (aU++bq) b e f->ji aU (b.cut (c aU)) e f
  |[],[],_=>trivial
  |[],_::_,i=>i.elim
  |_::_,[],i=>i.elim
  |t::e,p::f,⟨⟨d,L,i,k,s⟩,q,r⟩=>by
    have g:p<c aU:=by
      rcases dY p (c aU) with j|j
      · exact j
      · rw[hx j]at d
        exact absurd a (vQ o _ (b' d))
    rw[jm g]at d;exact⟨⟨d,L,i,by simp[a6.cut,iA,g,dw];exact k,s⟩,q,ji.drop o r⟩
def vT(b:Nat)(a:m aq):Bool:=match ax b (c a) with|true=>jY (a.drop b)|false=>v
theorem y6(a:vT j k=l):ax j (c k)=l/\jY (k.drop j)=l:=by unfold vT at a;grind
end drop
def qB(a:Nat):bL->Bool
  |[]=>l
  | (_,b)::d=>match hX a b with|true=>qB a d|false=>v
def vz{j}:∀{d:bL} {a:Nat},qB j d=l->hX j (look d a)=l
  |[],a,_=>rfl
  | (g,f)::i,a,b=>by
    simp[qB]at b;cases e:hX j f with
    |false=>grind
    |true=>
      simp[e]at b;simp[look];cases ad g a with
      |true=>exact e
      |false=>exact vz b
section
variable {q:af P}
def mj{e:Type}(w:af P)(u:Nat)(j:fD)(t:m iu)(s:e->Prop)(r:e->bL)(p:e->m aq)(q:e->Nat)(o:Nat)(x:e):fD:=λk d f=>match k with
  |.normal=>∃i,s i/\q i<q x/\iO d (r i)/\qB o (r i)=l/\∃a b,f=a++b/\c a=o/\(kt o a=l/\jY b=l)/\ra a (p i)
  |k=>g w u j t k d f
def g.aB{B:Type}(j)(A:B->Prop)(f:B->bL)(b_:B->m aq)(T:B->Nat)(i){cT}(y:i' I (f i)=h Z)(an:U Z)(aC:jw k (b_ i)=h cT)(ak:U cT)(ay:c k=j)(G:A i)(round:∀i,A i->g q F (mj q F be av A f b_ T j i) [.code t] .normal (f i) (b_ i)):g q F be (.code (.loop t)::av) .normal I k:=by
  intro af aL ao u X S K E d Q;have aa:=jX aC ak;obtain⟨aH,M,_⟩:=aa af u;refine xt (λab e b=>∃bv,A bv/\bY F (b_ bv) b (f bv) e/\bb (b_ bv) b/\dh k af (b_ bv) b/\T bv=ab) ?_ ?_ ⟨i,G,(ao.le (eu y an)).aj aa u,aH,M.too0 u,a⟩
  · rintro j e b ⟨bv,p,R,C,O,ap⟩
    exact Pa
  rintro ab e b ⟨bv,p,R,C,O,rfl⟩ au;refine round bv p b e R C X (.inLoop t::S) K E d ?_;intro ap H ah x J ae z s o;cases ap with
  |normal=>
    obtain⟨ag,aM,aB,az,aJ,r,V,rfl,aK,⟨aI,ai⟩,aE⟩:=ae;have W:=s.drop N;obtain⟨aG,Y,aD⟩:=aE _ W;have f3:=z.le az;have ar:e9 x (x.cut (c r)):=⟨rfl,λ_ _ _ aw=>aw,λ_ _ _=>rfl,s.mem,λX d=>d.imp id λ⟨L,al,d⟩=>⟨L,gN al,d⟩⟩
    refine .aP ar (au J (x.cut (c r)) (T ag) aB ⟨ag,aM,⟨f3.size,f3.defers.imp λ_ c8=>(c8.drop ai).mono Y.ext,λaF=>aD _ _ ((f3.aL aF).drop (vz N))⟩,aG,?_,a⟩);exact((O.trans o).drop w).trans (Y.too0 W)
  |_=>exact kO.cons (λ_ _=>rfl) D (Q _ _ _ _ _ ae z s (O.trans o))
def g.h8{f:Type}{o:f->Prop}{a:f->bL}{d:f->m aq}{i:f->Nat}{p}{e}(b){cT}(w:i' I (a b)=h Z)(y:U Z)(t:qB j (a b)=l)(r:vT j k=l)(s:jw (k.take j) (d b)=h cT)(z:U cT)(x:kt j (k.take j)=l)(A:o b)(u:i b<i p):
    g q F (mj q F be e o a d i j p) [] .normal I k:=
  ⟨b,A,u,eu w y,t,k.take j,k.drop j,(sK j k).symm,by grind[Nat.le_of_ble_eq_true,y6],⟨x,(y6 r).2⟩,jX s z⟩
def g.aw{f:Type}{j}{o:f->Prop}{a:f->bL}{e:f->m aq}{i:f->Nat}{p}{w}(d){Z cT}(b:(i' I (a d),qB j (a d),vT j k,jw (k.take j) (e d),kt j (k.take j))=(h Z,l,l,h cT,l))(s:U Z)(u:U cT)(t:o d)(r:i d<i p):
    g q F (mj q F be w o a e i j p) [] .normal I k:=by simp[lL]at b;exact g.h8 d b.1 s b.2.1 b.2.2.1 b.2.2.2.1 u b.2.2.2.2 t r
def g.az{br:Type}{cE:br->Prop}{hK:br->bL}{b_:br->m aq}{i:br->Nat}{E}{id}{t x O}(f:g q F be O .normal I k)(c8:i5 id t=n:=by exact rfl)(dG:i5 id x=h O:=by exact rfl):
    g q F (mj q F be x cE hK b_ i j E) (.code (.exit id)::t) .normal I k:=
  b1.mono (g.bs (R:=λdE ar=>mj q F be x cE hK b_ i j E .normal dE ar) c8 dG f) λap dE ar bm=>by
    have key:∀av ap,g q F (λap dE ar=>match ap with
        |.normal=>mj q F be x cE hK b_ i j E .normal dE ar
        |ap=>g q F be x ap dE ar) av ap dE ar->g q F (mj q F be x cE hK b_ i j E) av ap dE ar:=by
      have ap:(λap dE ar=>match ap with
        |.normal=>mj q F be x cE hK b_ i j E .normal dE ar
        |ap=>g q F be x ap dE ar)=mj q F be x cE hK b_ i j E:=by funext ap dE ar;cases ap<;>rfl
      grind
    exact key _ _ bm
def g.aS{a:Type}{e:a->Prop}{b:a->bL}{d:a->m aq}{o:a->Nat}{r}{f i}(p:be .ret I k):g q F (mj q F be i e b d o j r) (.code .ret::f) .normal I k:=
  g.ret (g.dJ (be:=be) p)
theorem bY.freeze(o d){ah}{gR}(ak:look I o=aH d 0)(O:db d k=h (.cells W ah))(aa:h' ah=h gR){x}(B:bY F k b I x)(f:bb k b):∃i:a6,i.a=b.a/\bY F (k.set d .N) i ((o,ay (.R gR))::I) x/\bb (k.set d .N) i/\cO k b (k.set d .N) i:=by
  have aJ:=er O;have af:d<c k:=(cP.1 aJ).1;have Y:=B.aL o;rw[ak]at Y;obtain⟨_,L,r,R,T,ai⟩:=Y;obtain⟨w,z,s,K,y,G⟩:=f.box d _ L aJ R;subst s;simp at T;subst T;let i:a6:={b with D:=λX t=>if X=w then z[t]? else b.D X t}
  have q:cO k b (k.set d .N) i:=by
    refine⟨bC _,λ_ _ _=>rfl,?_,?_,λL ab r j=>.inr ⟨L,ab,j⟩,?_,a,a,a,a⟩
    · grind
    · intro r j Q t
      have ag:r≠w:=λap=>Q _ (b' R) An;grind
    · intro p D m e g
      by_cases ap:d=p
      · subst ap
        rw[aJ]at e;cases e;exact⟨.N,m,by grind,g,a⟩
      · exact⟨D,m,by grind,g,.refl _ _⟩
  refine⟨i,a,⟨B.size,B.defers.imp λ_ s=>s.mono q.ext,λZ=>?_⟩,⟨?_,by simp[f.len,i],?_,f.a4,f.lt,f.own⟩,q⟩
  · simp only[look]
    cases j:ad o Z with
    |false=>exact(B.aL Z).mono q.ext f.len
    |true=>
      have ap:=dp j;subst ap;rw[ai];have V:=rI aa y;refine Rd.R w 0 (λu=>(z[u]?).getD J) ?_ ?_
      · intro u E M
        obtain⟨C,U,_⟩:=V.get (u:=u) (x:=.c E) N;grind
      · intro u E M
        obtain⟨C,U,S⟩:=V.get (u:=u) (x:=.c E) N;simp[U,h9];exact Rd.mono q.mem S
  · intro r t C ae
    by_cases ap:r=w
    · subst ap
      have A:z[t]?=h C:=N;show b.a.cell? _=_;simp[aI,K,A]
    · exact f.mem r t C N
  · intro p D m e g
    by_cases ap:d=p
    · subst ap
      rw[ix af]at e;cases e;trivial
    · rw[kJ ap]at e
      refine(f.box p D m e g).cc q.ext f.len λr j=>⟨a,λt=>?_⟩
      have ag:r≠w:=λal=>ap (f.a4 d p _ m R g r N j);grind
theorem g.freeze(o d){W}{ah}{gR}(f:look I o=aH d 0)(a:db d k=h (.cells W ah))(e:h' ah=h gR)(b:g q F be (.code t::av) .normal ((o,ay (.R gR))::I) (de.cp d .N k)):g q F be (.code t::av) .normal I k:=by grind[mT,g.aP,bY.freeze]
def g.Q{bq}{E}(b:aY q F all r I k E ar)(a:fp F r.dst=l)(d:g q F be (.al all bq::av) .normal (gh r.dst E I) ar):g q F be (.al all (r::bq)::av) .normal I k:=
  fm.dc b (lh a) d
end
structure Az(O:TypeDesc)(V:Array MapEntry)(f:X)(x:Option (Nat×X)):Prop where
 key:MapKept.IsKey O f
 c1:Instr.findNow O f V.toList 0=h x
 c0:x=n->∀ap∈V.toList,ap.key≠f
 gF:∀u aa,x=h (u,aa)->∃ap,V[u]?=h ap/\ap.key=f/\ap.val=aa
def J8{O}{V}{f}(a:MapKept.IsKey O f)(e:∀b∈V.toList,MapKept.IsKey O b.key):∃d,Az O V f d:=by
 rcases MapKept.findNow_spec a V.toList 0 e with⟨i,C⟩|⟨u,b,i,C,A⟩
 .exact⟨n,a,i,λ_=>C,by simp⟩
 refine⟨_,a,i,by simp,λj k g=>?_⟩;grind
section
variable {t al:ak}{O:TypeDesc}{ba:Nat}{V:Array MapEntry}{clock:Nat}{f:X}{ok:Bool}
def Mx(a:P.underlying t=h O):(underlying t).run P p=.ok O p:=by simp[underlying,a]
def yh(b:P.underlying t=h O)(d:MapKept.IsKey O f)(i)(a):(Instr.checkKey i 10000 t f).events P p a=a:=by show(Instr.checkKey i (9999+1) t f).events P p a=a;unfold Instr.checkKey;simp[aC,Mx b,aF,events_underlying];cases O<;>cases f<;>first|exact d.elim|simp
def yl{d}{e}(b:P.underlying t=h O)(g:Instr.findNow O f d 0=h e)(a):(Instr.findKey t f d).events P p a=a:=by simp[Instr.findKey,Mx b,g]
def ym(b:p.heap[ba]?=h (.map V clock))(a):(getObj ba).events P p a=a.push ⟨.obj ba,v,v⟩:=by simp only[getObj,Sem.events,Sem.runT,b];rfl
def JB(d:p.heap[ba]?=h (.map V clock)){dK}{b}(a):(setObj ba (.map dK b)).events P p a=a.push ⟨.obj ba,l,v⟩:=by simp[setObj,Sem.events,Sem.runT,d];rfl
def Mt(a:P.underlying t=h O)(b:MapKept.IsKey O f)(i):(Instr.checkKey i 10000 t f).run P p=.ok () p:=MapKept.run_checkKey a b i 9999
def KU(s:P.underlying o=h (.map t al))(b:P.underlying t=h O)(e:p.heap[ba]?=h (.map V clock)){g}(d:Az O V f g){eJ}(m:g=n->(zeroValue al).run P p=.ok eJ p):
  (Instr.lookup o (.map (h ba)) f ok).run P p=.ok (match g with
   |some (_,q)=>if ok=l then .tuple #[q,.bool l]else q
   |none=>if ok=l then .tuple #[eJ,.bool v]else eJ) p/\(Instr.lookup o (.map (h ba)) f ok).events P p #[]=#[⟨.obj ba,v,v⟩]:=by
 have j:(underlying o).run P p=.ok (.map t al) p:=by simp[underlying,s]
 have k:=Mt (p:=p) b d.key V.isEmpty;have i:(Instr.findKey t f V.toList).run P p=.ok g p:=MapKept.run_findKey b d.c1;cases g with
 |some r=>
  constructor
  .simp only[Instr.lookup,cL,j,c',MapKept.run_getObj_map e,d_,k,i]
  simp only[Instr.lookup,aC,j,aF,MapKept.run_getObj_map e,d_,Sem.events_pure,k,i,events_underlying,ym e,yh b d.key,yl b d.c1];rfl
 |none=>
  constructor
  .simp only[Instr.lookup,cL,j,c',MapKept.run_getObj_map e,d_,k,i,m a]
  simp only[Instr.lookup,aC,j,aF,MapKept.run_getObj_map e,d_,Sem.events_pure,k,i,events_underlying,ym e,yh b d.key,yl b d.c1,m a,events_zeroValue];rfl
def NQ(y:P.underlying o=h (.map t al))(a:P.underlying t=h O)(d:p.heap[ba]?=h (.map V clock)){g}{E}(e:Az O V f g):
  (Instr.mapUpdate o (.map (h ba)) f E).run P p=.ok () {p with heap:=p.heap.setIfInBounds ba (match g with
   |some (m,_)=>.map (V.modify m λr=>{key:=f,val:=E,born:=r.born}) clock
   |none=>.map (V.push {key:=f,val:=E,born:=clock}) (clock+1))} /\
  (Instr.mapUpdate o (.map (h ba)) f E).events P p #[]=#[⟨.obj ba,v,v⟩,⟨.obj ba,l,v⟩]:=by
 have j:(underlying o).run P p=.ok (.map t al) p:=by simp[underlying,y]
 have k:=Mt (p:=p) a e.key v;have i:(Instr.findKey t f V.toList).run P p=.ok g p:=MapKept.run_findKey a e.c1;cases g with
 |some q=>
  obtain⟨m,z⟩:=q;obtain⟨r,u,w,_⟩:=e.gF m z rfl;have s:(Instr.keyThatStays f f).run P p=.ok f p:=MapKept.run_keyThatStays e.key;have x:∀b,(Instr.keyThatStays f f).events P p b=b:=λb=>by simp[Instr.keyThatStays,MapKept.sameBits_self e.key]
  constructor
  .simp only[Instr.mapUpdate,cL,j,c',MapKept.run_getObj_map d,k,i,u,lK,h9,w,s,MapKept.run_setObj_map _ d]
  simp only[Instr.mapUpdate,aC,j,aF,MapKept.run_getObj_map d,k,i,u,lK,h9,w,s,x,events_underlying,ym d,JB d,yh a e.key,yl a e.c1];rfl
 |none=>
  constructor
  .simp only[Instr.mapUpdate,cL,j,c',MapKept.run_getObj_map d,k,i,MapKept.run_setObj_map _ d]
  simp only[Instr.mapUpdate,aC,j,aF,MapKept.run_getObj_map d,k,i,events_underlying,ym d,JB d,yh a e.key,yl a e.c1];rfl
end
def bb.b8(i:bb k b){j':X->(Nat->Option Obj)->Prop}{L cw}(aJ:k[d]?=h (.K H))(A:b.s[d]?=h L)(G:cw.v=L.v)(Q:b.a.heap.size<=bi.heap.size)(K:∀e,e<b.a.heap.size->e∉L.aj->bi.heap[e]?=b.a.heap[e]?)(D:∀e∈cw.aj,e∈L.aj∨(b.a.heap.size<=e/\e<bi.heap.size))(x:∃p,j' cw.v p/\(∀e t,p e=h t->bi.heap[e]?=h t)/\(∀e,e∈cw.aj↔(p e).isSome=l))(O:bi.os=b.a.os)(Z:bi.tape=b.a.tape)(M:bi.output=b.a.output):
  bb (k.set d (.K j')) ⟨b.s.set d cw,b.D,bi,b.own⟩/\cO k b (k.set d (.K j')) ⟨b.s.set d cw,b.D,bi,b.own⟩:=by
 have bA:d<c k:=(cP.1 aJ).1;have ag:d<c b.s:=N;obtain⟨aa,_,_,_,y⟩:=i.box d _ L aJ A;have Y:∀e∈cw.aj,∀t,b.D e t=n:=by
  intro e E t;rcases D e E with o|⟨o,_⟩
  .grind
  cases r:b.D e t with
  |none=>rfl
  |some U=>have:=i.block r;omega
 have B:cO k b (k.set d (.K j')) ⟨b.s.set d cw,b.D,bi,b.own⟩:=by
  refine⟨Q,N,λ_ _ _ i=>i,λ_ _ _ _=>rfl,N,?_,O,Z,M,a⟩;intro g F j u z;by_cases C:d=g
  .subst C;rw[aJ]at u;cases u;rw[A]at z;cases z;exact⟨.K j',cw,by grind,by grind,G⟩
  exact⟨F,j,by grind,by grind,.refl _ _⟩
 have J:∀g j,(b.s.set d cw)[g]?=h j->(g=d/\j=cw)∨(d≠g/\b.s[g]?=h j):=N;refine⟨⟨?_,by simp[i.len],?_,?_,?_,?_⟩,B⟩
 .intro e t U r;have ah:=i.block r;have ab:e∉L.aj:=λs=>by grind
  rw[<-i.mem e t U r];simp only[aI];grind
 .intro g F j u z;rcases J g j z with⟨rfl,rfl⟩|⟨C,m⟩
  .rw[ix bA]at u;cases u;obtain⟨p,k1,V,R⟩:=x;exact⟨p,k1,V,R,Y⟩
  rw[kJ C]at u;refine(i.box g F j u m).cc B.ext i.len λe E=>⟨K e (i.lt j (b' m) e E) λs=>C (i.a4 d g L j A m e s E),λ_=>rfl⟩
 .intro W I q j o m e f w;rcases J W q o with⟨rfl,rfl⟩|⟨dM,T⟩<;>rcases J I j m with⟨rfl,rfl⟩|⟨e',S⟩
  .rfl
  .rcases D e f with s|s
   .exact i.a4 _ _ L j A S e s w
   have:=i.lt j (b' S) e w;omega
  .rcases D e w with s|s
   .exact i.a4 _ _ q L T A e f s
   have:=i.lt q (b' T) e f;omega
  exact i.a4 _ _ q j T S e f w
 .intro j z e w;rcases AS z with o|o
  .exact eE (i.lt j o e w) Q
  subst o;rcases D e w with m|m
  .exact eE (i.lt L (b' A) e m) Q
  grind
 intro e x;obtain⟨af,ae⟩:=i.own e x;grind
section
variable {j':X->(Nat->Option Obj)->Prop}
end
def bW.dh{fn}{d}{res}(aX)(e:pD fn.results.toList aX I res=h Z)(m:U Z)(j:dy aX k=h ar)(i:l7 ar=l)(g:fi aX=l)(f:∀b,b<d->aX[b]?=h b):
  bW fn d res ar .normal I k:=by refine⟨.inr a,aX,?_⟩;unfold pD at e;grind
def g.iw{b:af P}{f}{aU}{res}(s:Y b f cS dj res aU)(aX)(j:r.guard=n)(e:r.op=.call {callee:=.value cQ,args:=ag,argTypes:=dt})(u:g8 (bF I cQ)=h (f,cap))(i:lc (ag.toList.map (bF I)++fg cap)=gr aX cS)(o:ho (c aX) cS=l)(p:dy aX k=h dj)(t:ew dj=l)(m:ew aU=l)(d:fi aX=l)(q:ax (c aX) (c aU)=l)(x:fp F r.dst=l)(w:g b F be (.al all bq::av) .normal (gh r.dst (fk (aX++gZ (c k) (c aU-c aX)) res) I) (de aX aU k)):g b F be (.al all (r::bq)::av) .normal I k:=
 fm.call (λ_ _ _ _=>jf j) e u aX s i o p t m d (fz q) r.dst a (lh x) w
def g.dY{d:af P}{i}(t:bl d i cS dj res aU)(aX)(m:r.guard=n)(f:r.op=.call {callee:=.value cQ,args:=ag,argTypes:=dt})(x:g8 (bF I cQ)=h (i,cap))(j:lc (ag.toList.map (bF I)++fg cap)=gr aX cS)(p:ho (c aX) cS=l)(q:dy aX k=h dj)(u:ew dj=l)(o:∀b,ew (aU b)=l)(e:fi aX=l)(s:∀b,ax (c aX) (c (aU b))=l)(y:fp F r.dst=l)(w:∀b,g d F be (.al all bq::av) .normal (gh r.dst (fk (aX++gZ (c k) (c (aU b)-c aX)) (res b)) I) (de aX (aU b) k)):g d F be (.al all (r::bq)::av) .normal I k:=
 fm.gN (λ_ _ _ _=>jf m) f x aX t j p q u o e (λb=>fz (s b)) r.dst a (lh y) w
def g.aA{P:aD}{b:af P}{F}{be}{av}{I}{k}{all bq}{r}{cQ}{ag}{dt}{a}{cap}{cS}{dj aU}{res}(w:Y b a cS dj res aU)(aX)(d:(r.guard,r.op,g8 (bF I cQ),lc (ag.toList.map (bF I)++fg cap),ho (c aX) cS,dy aX k,ew dj,ew aU,fi aX,ax (c aX) (c aU),fp F r.dst)=(n,.call {callee:=.value cQ,args:=ag,argTypes:=dt},h (a,cap),gr aX cS,l,h dj,l,l,l,l,l))(s:g b F be (.al all bq::av) .normal (gh r.dst (fk (aX++gZ (c k) (c aU-c aX)) res) I) (de aX aU k)):g b F be (.al all (r::bq)::av) .normal I k:=by simp only[lL]at d;obtain⟨e,f,i,j,m,a,o,p,q,t,u⟩:=d;exact g.iw w aX e f i j m a o p q t u s
def g.a1{P:aD}{e:Type}{i:af P}{F}{be}{av}{I}{k}{all bq}{r}{cQ}{ag}{dt}{f}{cap}{cS}{dj}{a:e->m aq}{d:e->y}(x:bl i f cS dj d a)(aX)(o:(r.guard,r.op,g8 (bF I cQ),lc (ag.toList.map (bF I)++fg cap),ho (c aX) cS,dy aX k,ew dj,fi aX,fp F r.dst)=(n,.call {callee:=.value cQ,args:=ag,argTypes:=dt},h (f,cap),gr aX cS,l,h dj,l,l,l))(j:∀b,(ew (a b),ax (c aX) (c (a b)))=(l,l))(z:∀b,g i F be (.al all bq::av) .normal (gh r.dst (fk (aX++gZ (c k) (c (a b)-c aX)) (d b)) I) (de aX (a b) k)):g i F be (.al all (r::bq)::av) .normal I k:=by simp only[lL]at o j;obtain⟨p,q,s,t,u,f,w,b,A⟩:=o;exact g.dY x aX p q s t u f w (λb=>(j b).1) b (λb=>(j b).2) A z
def l2:m y->m y->Option (m Prop)
 |[],[]=>h []
 |d::a,e::b=>match kw d e with
  |some f=>match l2 a b with
   |some g=>h (gQ f g)
   |none=>n
  |none=>n
 |_,_=>n
def tm{k}{b}:∀{z:m X}{e f:m y}{d:m Prop},l2 e f=h d->U d->b5 k b z e->b5 k b z f
 |[],[],[],_,_,_,_=>trivial
 |_::_,[],_,_,_,_,a=>a.elim
 |[],_::_,_,_,_,_,a=>a.elim
 |[],[],_::_,_,a,_,_=>by simp[l2]at a
 |_::_,_::_,[],_,a,_,_=>by simp[l2]at a
 |w::z,r::g,s::i,d,a,j,q=>by
  simp[l2]at a;cases o:kw r s with
  |none=>grind
  |some t=>
   cases p:l2 g i with
   |none=>grind
   |some u=>
    simp[o,p]at a;subst a;rw[U.Y]at j;exact⟨pp o j.1 q.1,tm p j.2 q.2⟩
def g.bI{d:af P}{i}(x:bl d i cS dj res aU)(aX)(o:r.guard=n)(f:r.op=.call {callee:=.value cQ,args:=ag,argTypes:=dt})(y:g8 (bF I cQ)=h (i,cap))(j:l2 (ag.toList.map (bF I)++fg cap) (gr aX cS)=h Z)(m:U Z)(q:ho (c aX) cS=l)(s:dy aX k=h dj)(A:ew dj=l)(p:∀b,ew (aU b)=l)(e:fi aX=l)(u:∀b,ax (c aX) (c (aU b))=l)(B:fp F r.dst=l)(w:∀b,g d F be (.al all bq::av) .normal (gh r.dst (fk (aX++gZ (c k) (c (aU b)-c aX)) (res b)) I) (de aX (aU b) k)):g d F be (.al all (r::bq)::av) .normal I k:=
 fm.eZ (λ_ _ _ _=>jf o) f y aX x (λC z t=>tm j m t) q s A p e (λb=>fz (u b)) r.dst a (lh B) w
def abx{b:Act}{a}(d:a<b.tmps.size):(b.put (h a) aa).tmps.getD a J=aa:=by simp[Act.put,hF,uQ d]
def dv.of_eq{V dK}(a:V=dK)(d:dv b dK):dv b V:=N
def yn{A}{a:Sem Next}(e:dv b (A.events P b.a #[]))(d:a=(do pure (.value (<-A)))):dv b (a.events P b.a #[]):=by grind[i4]
def IW{a}{fn}{ap:Array X->Sem X}(b:P.funcs[a]?=h fn)(j:(fn.name== "runtime.NumGoroutine")=v)(s:fn.body.isNone=l)(i:Extern.findNext fn=n)(d:Extern.find fn=h ap)(args)(g:dA P (ap args))(p)(V):
  (callFunc a args).events P p V=V.push ⟨.mark (.extern a),v,l⟩:=by have f:fn.name≠ "runtime.NumGoroutine":=N;have e:fn.body=n:=wR;simp[callFunc,b,f,e,i,d];rw[g p]
section
variable {q:af P}
def ei(P:aD)(p:Nat)(k:an)(o:bL)(f:m aq)(q:ι->y)(b:ι->m aq):Prop:=
 ∀d g,bY p f d o g->bb f d->∃e i a j,(ab g.eval k).run P d.a=.ok i a.a/\(i=.value j∨(i=.skip/\j=J))/\bx (b e) a j (q e)/\bb (b e) a/\cO f d (b e) a/\dv d ((ab g.eval k).events P d.a #[])
def g.cD(M:ι->y)(b:ι->m aq)(af:r.guard=n)(ag:fp F r.dst=l)(T:ei P F r I k M b)(U:∀o,g q F be (.al all bq::av) .normal (gh r.dst (M o) I) (b o)):g q F be (.al all (r::bq)::av) .normal I k:=by
 intro ai O R j Q C u N idx i a B;cases idx with
 |nil=>exact a.elim
 |cons ah idx=>
 refine ry i a.1 (jf af) λaa w=>?_;have f:=j.rely w;have d:=R.rely w j;obtain⟨o,Y,p,ab,A,e,ae,J,K,W⟩:=T aa O d f;have x:=K.too0 f;refine⟨Y,p,ab,A,e,⟨⟨k,b o,f,J,K⟩,W⟩,?_⟩;refine U o p _ ?_ J Q C u N idx i a.2 λS s D t X z e E=>B S s D t X z e ((w.aT.trans x).trans E);cases V:r.dst with
 |none=>exact d.mono x f.len
 |some Z=>exact(d.mono x f.len).put (lh ag Z V) ae
def g.aK{a}(e:a2 P r (bF I) k a ar)(b:r.guard=n)(d:fp F r.dst=l)(f:g q F be (.al all bq::av) .normal (gh r.dst a I) ar):g q F be (.al all (r::bq)::av) .normal I k:=
 g.Q (.a3 (λ_ _ _ _=>jf b) e) d f
def oQ(a:m an)(d:bL)(f:an):Bool:=match f.guard with
 |none=>l
 |some (e,b)=>match yK d a e with
  |some (h l)=>b
  |some (h v)=>!b
  |_=>v
def j5(a:oQ all I r=l):∀d g b,bY F d g I b->aP r (yielded all.toArray b.tmps)=l:=by
 intro d g b f;unfold oQ at a;split at a
 .grind [jf]
 rename_i j i e;split at a
 .rename_i t;simp only[aP,e,yL t f,a];rfl
 .rename_i t;simp only[aP,e,yL t f];grind
 grind
def g.iy{e}{aU}{res}(s:Y q e cS dj res aU)(aX)(i:oQ all I r=l)(d:r.op=.call {callee:=.value cQ,args:=ag,argTypes:=dt})(u:g8 (bF I cQ)=h (e,cap))(f:lc (ag.toList.map (bF I)++fg cap)=gr aX cS)(m:ho (c aX) cS=l)(o:dy aX k=h dj)(t:ew dj=l)(j:ew aU=l)(b:fi aX=l)(p:ax (c aX) (c aU)=l)(x:fp F r.dst=l)(w:g q F be (.al all bq::av) .normal (gh r.dst (fk (aX++gZ (c k) (c aU-c aX)) res) I) (de aX aU k)):g q F be (.al all (r::bq)::av) .normal I k:=
 fm.call (j5 i) d u aX s f m o t j b (fz p) r.dst a (lh x) w
end
section
variable {q:af P}
def g.fU{dE}(f:g q F be (.code t::av) .normal dE ar){cT}(a:i' I dE=h Z)(d:U Z)(b:jw k ar=h cT)(e:U cT):g q F be (.code t::av) .normal I k:=
 g.bc ar b e (b1.le f (eu a d))
def Cu:m iu->m iu
 |.blk _::av=>Cu av
 |av=>av
def g.fB:∀{av:m iu},g q F be (Cu av) .normal I k->g q F be av .normal I k
 |[],a=>a
 |.blk _::av,a=>g.fB (av:=av) a
 |.code _::_,a=>a
 |.al _ _::_,a=>a
def g.ck{r S2:Type}{iV}(id){u e}(o:i5 id av=h u)(J:Go.AM.Cu u=.code iV::e)(z:S2->Prop)(ek:S2->bL)(A:S2->m aq)(j)(p:r->Prop)(b:r->bL)(d:r->m aq)(B:r->Nat)(f){a}(D:i' I (b f)=h Z)(s:U Z)(C:jw k (d f)=h a)(w:U a)(y:c k=j)(E:p f)(round:(∀i {I:bL} {k:m aq} {Z a:m Prop},z i->i' I (ek i)=h Z->U Z->jw k (A i)=h a->U a->g q F be u .normal I k) ->
   ∀f,p f->g q F (mj q F be av p b d B j f) [.code t] .normal (b f) (d f))(after:∀i,z i->g q F be (.code iV::e) .normal (ek i) (A i)):g q F be (.code (.loop t)::av) .normal I k:=
 g.aB j p b d B f D s C w y E (round λi _ _ _ _ K x s o w=>g.fB (by rw[J];exact(after i K).fU x s o w))
end
section
variable {q:af P}
def iQ(o:af P)(r:Nat)(j:m y)(i:m aq)(g:Bool)(e:ι->m aq):Prop:=
 ∀a (z:m X) (d:Nat),b5 i a z j->bb i a->(∃L,a.s[r]?=h L/\L.v=.func (.yield d) #[] #[]) ->
  ∃fn tmps assign body,(Instr.yield d z.toArray).run P a.a=.ok (.round d fn tmps assign body) a.a/\(Instr.yield d z.toArray).events P a.a #[]=#[⟨.obj d,v,v⟩] /\
  ∀(k:ai->a6->Prop) p f,(∀q b,bb (e q) b->dh i a (e q) b->cj o k (G (p.finish (.bool g)) f) b) ->
   cj o k (G (Frame.round d fn tmps assign body .normal) (p::f)) a
def zs{b}(f:p.heap[d]?=h (.loop b)):(Instr.getLoop d).run P p=.ok b p/\∀a,(Instr.getLoop d).events P p a=a.push ⟨.obj d,v,v⟩:=by
 have e:(getObj d).run P p=.ok (.loop b) p:=by simp[getObj,Sem.run,f]
 have g:∀a,(getObj d).events P p a=a.push ⟨.obj d,v,v⟩:=λa=>by simp only[getObj,Sem.events,Sem.runT,f];rfl
 constructor
 .simp[Instr.getLoop,e]
 intro a;simp[Instr.getLoop,e,g]
def En{e gi}(b:p.heap[d]?=h (.loop e)):(setObj d (.loop gi)).run P p=.ok () {p with heap:=p.heap.setIfInBounds d (.loop gi)}/\∀a,(setObj d (.loop gi)).events P p a=a.push ⟨.obj d,l,v⟩:=by
 constructor
 .simp only[setObj,Sem.run,b]
 intro a;simp[setObj,Sem.events,Sem.runT,b];rfl
def ab0{a}{args}(i:p.heap[d]?=h (.loop a))(b:args.size=a.params.size):
  (Instr.yield d args).run P p=.ok (.round d a.fn ((a.params.zip args).foldl (λtmps (j,f)=>tmps.setIfInBounds j f) a.tmps) a.assign a.body) p/\(Instr.yield d args).events P p #[]=#[⟨.obj d,v,v⟩]:=by
 obtain⟨e,g⟩:=zs (P:=P) i;constructor
 .simp[Instr.yield,e,b]
 simp[Instr.yield,e,g,b]
def abS{a}(g:p.heap[d]?=h (.loop a))(b:a.state=.ready):
  (Instr.beginRound d).run P p=.ok () {p with heap:=p.heap.setIfInBounds d (.loop {a with state:=.busy})}/\(Instr.beginRound d).events P p #[]=#[⟨.obj d,v,v⟩,⟨.obj d,l,v⟩]:=by
 obtain⟨e,i⟩:=zs (P:=P) g;obtain⟨f,j⟩:=En (P:=P) (gi:={a with state:=.busy}) g;constructor
 .simp[Instr.beginRound,e,f,b]
 simp[Instr.beginRound,e,i,f,j,b]
def abV{a}(f:p.heap[d]?=h (.loop a))(u):
  (Instr.endRound d u).run P p=.ok (.bool u.isNone) {p with heap:=p.heap.setIfInBounds d (.loop {a with state:=if u.isNone then .ready else .done,pending:=u})}/\(Instr.endRound d u).events P p #[]=#[⟨.obj d,v,v⟩,⟨.obj d,l,v⟩]:=by
 obtain⟨b,g⟩:=zs (P:=P) f;obtain⟨e,i⟩:=En (P:=P) (gi:={a with state:=if u.isNone then .ready else .done,pending:=u}) f;constructor
 .simp only[Instr.endRound,cL,b,e,c',d_]
 simp only[Instr.endRound,aC,b,g,e,i,aF,Sem.events_pure];rfl
def abU{a}(f:p.heap[d]?=h (.loop a))(b:a.state≠.busy):
  (Instr.endLoop d).run P p=.ok a.pending {p with heap:=p.heap.setIfInBounds d (.loop {a with state:=.exhausted})}/\(Instr.endLoop d).events P p #[]=#[⟨.obj d,v,v⟩,⟨.obj d,l,v⟩]:=by
 obtain⟨e,g⟩:=zs (P:=P) f;obtain⟨j,i⟩:=En (P:=P) (gi:={a with state:=.exhausted}) f;have k:(a.state==.busy)=v:=by cases m:a.state<;>simp_all
 constructor
 .simp[Instr.endLoop,e,j,b]
 simp[Instr.endLoop,e,g,i,b]
section steps
variable {i:aG}{x:Act}{f:m Item}{eY:Bool}
def ab1(cy:r.op=.call {callee:=.value cQ,args:=ag,argTypes:=dt})(t:x.eval cQ=.func (.yield d) #[] #[]):
  (ab x.eval r).run P p=(Instr.yield d (ag.toList.map x.eval).toArray).run P p/\(ab x.eval r).events P p #[]=(Instr.yield d (ag.toList.map x.eval).toArray).events P p #[]:=by
 have O:ag.map x.eval=(ag.toList.map x.eval).toArray:=N;constructor
 .exact RR
 exact RR
def acc{bq}{fn}{tmps}{assign body}(a:aR[e]?=h r)(g:aP r (yielded aR x.tmps)=l)(k:i.kind≠.early)(j:(ab x.eval r).run P p=.ok (.round d fn tmps assign body) bi):
  ao P eY (G (i.U x (.inRegion aR (e::bq)::f)) ah) p=.go (G (Frame.round d fn tmps assign body .normal) (i.U x (.inRegion aR (e::bq)::f)::ah)) bi (Go.Conc.listed P i.fn x r p):=by have b:(i.kind==CallKind.early)=v:=N;rw[zy a g (λm o=>by grind[ya])];simp[stepG.apply,j,G,Frame.U,b,GStep.after,Go.Conc.listed]
def ab9{a}(k:i.roundOf=h d)(o:i.kind≠.early)(m:p.heap[d]?=h (.loop a))(g:a.state=.ready):
  ao P eY (G (i.U x (.beginRound::f)) ah) p=.go (G (i.U x f) ah) {p with heap:=p.heap.setIfInBounds d (.loop {a with state:=.busy})} (seen P i.fn #[⟨.obj d,v,v⟩,⟨.obj d,l,v⟩]):=by obtain⟨j,e⟩:=abS (P:=P) m g;have b:(i.kind==CallKind.early)=v:=N;simp[G,ao,stepG.exec,stepG.apply,Frame.U,k,b,j,e,GStep.after,Frame.finish]
def acd{b}{u}{a}{t}(C:i.roundOf=h d)(b3:i.kind=.normal)(e:p.heap[d]?=h (.loop b))(f:(u=n/\a=[])∨(u=h .ret/\∃k1,a=.code .ret::k1)∨(∃id k1,u=h (.exit id)/\a=.code (.exit id)::k1/\exitTo id k1=n)):
  ao P eY (G (i.U x a) (t::ah)) p=.go (G (t.finish (.bool u.isNone)) ah) {p with heap:=p.heap.setIfInBounds d (.loop {b with state:=if u.isNone then .ready else .done,pending:=u})} (seen P i.fn #[⟨.obj d,v,v⟩,⟨.obj d,l,v⟩]):=by
 obtain⟨O,al⟩:=abV (P:=P) e u;rcases f with⟨rfl,rfl⟩|⟨rfl,k1,rfl⟩|⟨id,k1,rfl,rfl,A⟩
 .simp only[Option.isNone_none,dw]at O;exact PJ
 .simp only[Option.isNone_some,dn,kh]at O;exact PJ
 simp[Option.isNone_some,dn,kh]at O;simp[G,ao,stepG.exec,Frame.U,C,O,al,GStep.after,doReturn,b3,A]
def ab_{a}(j:p.heap[d]?=h (.loop a))(g:a.state≠.busy):
  ao P eY (G (i.U x (.endRangeFunc d::f)) ah) p=.go (G (i.U x ((a.pending.map Item.code).toList++f)) ah) {p with heap:=p.heap.setIfInBounds d (.loop {a with state:=.exhausted})} (seen P i.fn #[⟨.obj d,v,v⟩,⟨.obj d,l,v⟩]):=by obtain⟨b,e⟩:=abU (P:=P) j g;simp[G,ao,stepG.exec,Frame.U,b,e,GStep.after]
def abW{fn}{tmps}{params}{assign body}:
  (Instr.enterLoop fn tmps params assign body n).run P p=.ok (p.heap.size+1,[{target:=.collected p.heap.size,args:=#[]}]) {p with heap:=(p.heap.push (.deferred (h []))).push (.loop {state:=.ready,pending:=n,fn,tmps,params,assign,body,defers:=p.heap.size})} /\
  (Instr.enterLoop fn tmps params assign body n).events P p #[]=#[]:=by
 have d:∀b p,(newObj b).run P p=.ok p.heap.size {p with heap:=p.heap.push b}:=λb p=>by simp[newObj,Sem.run]
 have e:∀b p a,(newObj b).events P p a=a:=λb p a=>by simp[newObj,Sem.events,Sem.runT]
 constructor
 .simp[Instr.enterLoop,d];rfl
 simp[Instr.enterLoop,d,e]
def acb{b}{Z}{assign body}{a}{fn}{t}(y:i.roundOf=n)(q:i.kind≠.early)(r:P.funcs[a]?=h fn)(A:(fn.name== "runtime.NumGoroutine")=v)(z:fn.body.isNone=v)(s:x.eval b=.func (.func a) #[] t.toArray):
  ao P eY (G (i.U x (.code (.rangeFunc b Z assign body)::f)) ah) p =
   .go (G (Frame.enter P a (Value.func (.yield (p.heap.size+1)) #[] #[]::t).toArray .normal) (i.U {x with defers:={target:=.collected p.heap.size,args:=#[]}::x.defers} (.inRangeFunc (p.heap.size+1)::f)::ah))
    {p with heap:=(p.heap.push (.deferred (h []))).push (.loop {state:=.ready,pending:=n,fn:=i.fn,tmps:=x.tmps,params:=Z,assign,body,defers:=p.heap.size})} #[]:=by
 obtain⟨w,u⟩:=abW (P:=P) (p:=p) (fn:=i.fn) (tmps:=x.tmps) (params:=Z) (assign:=assign) (body:=body);have o:(i.kind==CallKind.early)=v:=N;have m:fn.name≠ "runtime.NumGoroutine":=N;have k:fn.body≠n:=N;have e:∀d j g,({fn:=i.fn,tmps:=x.tmps,todo:=j,defers:=d,mode:=g,kind:=i.kind,roundOf:=i.roundOf}:aG).eval b=.func (.func a) #[] t.toArray:=by intro d j g;rw[<-s];cases b<;>rfl
 simp[G,ao,stepG.exec,Frame.U,y]at e⊢;simp[w,u,GStep.after,stepG.apply,resolve,e,Deferred.ofValue,invoke,callFunc,r,m,k,o,seen];rfl
end steps
end
section
variable {q:af P}
def bb.fL(i:bb k b){f:Nat}{a}{m}(aJ:k[f]?=h (.loop F a m))(j:∃L,b.s[f]?=h L/\L.v=.func (.yield d) #[] #[]):
  ∃tmps fn e,b.s[f]?=h ⟨.func (.yield d) #[] #[],[d]⟩/\b.a.heap[d]?=h (.loop {m with tmps:=tmps,fn:=fn,defers:=e})/\tmps.size=F/\(∀o,bx k b (tmps.getD o J) (look a o))/\(∀r,b.D d r=n):=by obtain⟨L,g,p⟩:=j;obtain⟨q,tmps,fn,e,x,t,w,s,u⟩:=i.box f _ L aJ g;grind
def bb.gA(i:bb k b){j}{g}{u gi}{ed}(aJ:k[j]?=h (.loop F g u)){tmps}{fn e}(x:b.s[j]?=h ⟨.func (.yield d) #[] #[],[d]⟩)(C:b.a.heap[d]?=h (.loop {u with tmps:=tmps,fn:=fn,defers:=e}))(M:tmps.size=F)(B:∀o,bx k b (tmps.getD o J) (look g o))(I:∀t,b.D d t=n)(w:ed=.N∨ed=.loop F g gi):
  bb (k.set j ed) {b with a:={b.a with heap:=b.a.heap.setIfInBounds d (.loop {gi with tmps:=tmps,fn:=fn,defers:=e})}}/\cO k b (k.set j ed) {b with a:={b.a with heap:=b.a.heap.setIfInBounds d (.loop {gi with tmps:=tmps,fn:=fn,defers:=e})}}:=by
 have S:d<b.a.heap.size:=i.lt _ (b' x) d D;have r:∀f,f≠d->(b.a.heap.setIfInBounds d (.loop {gi with tmps:=tmps,fn:=fn,defers:=e}))[f]?=b.a.heap[f]?:=λf m=>by grind
 have R:b.s.set j ⟨.func (.yield d) #[] #[],[d]⟩=b.s:=m3;have Q:j<c k:=(cP.1 aJ).1;have z:fQ (.loop F g u) ⟨.func (.yield d) #[] #[],[d]⟩ ed ⟨.func (.yield d) #[] #[],[d]⟩:=by rcases w with rfl|rfl<;>rfl
 have p:fw k b (k.set j ed) {b with a:={b.a with heap:=b.a.heap.setIfInBounds d (.loop {gi with tmps:=tmps,fn:=fn,defers:=e})}}:=by
  refine⟨λ_ _ _ q=>q,λE y L U A=>?_⟩;by_cases O:j=E
  .grind
  exact⟨y,L,by grind,A,.refl _ _⟩
 have:=i.b5 (cl:=b.D) (bi:={b.a with heap:=b.a.heap.setIfInBounds d (.loop {gi with tmps:=tmps,fn:=fn,defers:=e})}) (ed:=ed) (cw:=⟨.func (.yield d) #[] #[],[d]⟩) aJ x z D (λf _ m=>r f N) (λ_ _ _ _=>rfl) (λ_ _ _ q=>q)
  (λf t K s=>by
   have T:f≠d:=N;rw[<-i.mem f t K s];simp[aI]
   grind) (λf m=>by grind) a a a (by
   rcases w with rfl|rfl
   .trivial
   .refine⟨d,tmps,fn,e,a,N,M,λo=>?_,I⟩
    .have:=(B o).mono p i.len
     grind)
 grind
def g.yield{d:ι->m aq}{e}{bh}{res}(ah:iQ q e bh k res d)(G:r.guard=n)(ak:fp F r.dst=l)(S:r.op=.call {callee:=.value cQ,args:=ag,argTypes:=dt}){N0}{iv}{ba}(R:k[e]?=h (.loop N0 iv ba))(af:bF I cQ=.n (.Q (.aY e)))(aJ:ag.toList.map (bF I)=bh)(f:∀T,g q F be (.al all bq::av) .normal (gh r.dst (ay (.bool res)) I) (d T)):g q F be (.al all (r::bq)::av) .normal I k:=by
 intro aI x an w i z J Z idx u b Q;cases idx with
 |nil=>exact b.elim
 |cons T idx=>
 refine .next a λt aD=>?_;have X:=q.bJ aD;have s:=w.rely X;have j:=an.rely X w;have M:=eH j cQ;rw[af]at M;obtain⟨_,L,V,aE,_⟩:=(show cC _ t _ (.aY e)from M)
 obtain⟨U,tmps,fn,aG,aM,aH,ao,ar,au⟩:=s.box e _ L R V;subst aM;have aw:b5 k t (ag.toList.map x.eval) bh:=by grind[m_,eH]
 obtain⟨aF,aK,assign,body,H,al,ae⟩:=ah t (ag.toList.map x.eval) U aw s ⟨_,V,rfl⟩;obtain⟨ab,ai⟩:=ab1 (P:=P) (p:=t.a) (x:=x) S aE;refine⟨_,t,_,acc b.1 (jf G) u (ab.trans H),⟨⟨k,k,s,s,.refl _ _⟩,dv.seen ?_⟩,ae Z _ _ λY A y o=>?_⟩
 .rw[ai,al];exact .Q (mA (L:=⟨.func (.yield U) #[] #[],[U]⟩) (b' V) D)
 have N:=qs (i:=i) (x:=x) (f:=z) all.toArray T idx (.bool res);rw[b.1]at N;simp[n5]at N;rw[N];refine f Y A _ ?_ y i z J Z idx u b.2 λaz C W E aB K O B=>Q az C W E aB K O ((X.aT.trans o).trans B);cases aa:r.dst with
 |none=>exact j.mono o s.len
 |some aC=>exact(j.mono o s.len).put (lh ak aC aa) (show bx (d Y) A (.bool res) (ay (.bool res))from Rd.bool)
def rz:m Tmp->m y->bL->bL
 |f::d,e::b,a=>rz d b ((f,e)::a)
 |_,_,a=>a
def zi(b:Nat):m Tmp->Bool
 |[]=>l
 |d::a=>match ax (d+1) b with|true=>zi b a|false=>v
def GW{F}{k}{b}:∀{e:m Tmp}{a:m y}{z:m X}{I:bL}{x:Act},bY F k b I x->b5 k b z a->zi F e=l->bY F k b (rz e a I) {x with tmps:=(e.zip z).foldl (λtmps (i,j)=>tmps.setIfInBounds i j) x.tmps}
 |[],a,z,I,x,d,_,_=>by simpa[rz]using d
 |_::_,[],[],I,x,d,_,_=>by simpa[rz]using d
 |_::_,[],_::_,I,x,d,f,_=>f.elim
 |_::_,_::_,[],I,x,d,f,_=>f.elim
 |i::p,O::a,j::z,I,x,d,f,g=>by
  simp[zi]at g;split at g
  .rename_i o;have:=GW (d.put (O:=i) (fz o) f.1) f.2 g;simpa[rz,Act.put]using this
  grind
def ZZ:Exit->Option (Option Code)
 |.normal=>h n
 |.ret=>h (h .ret)
 |.exit id=>h (h (.exit id))
 |_=>n
def iQ.intro{a5:Type}{f F}{e}{b}{bh}{k}{O:a5->m aq}{u}(aS:k[f]?=h (.loop F e b))(bj:b.state=.ready)(aN:c bh=b.params.size)(bl:zi F b.params.toList=l)(bo:b1 q F b.assign (λA M g=>A=.normal/\g[f]?=h (.loop F e b)/\b1 q F b.body (λA bb w=>ZZ A=h u/\w[f]?=h (.loop F e {b with state:=.busy}) /\
   ∃bq,ra (w.set f (.loop F e {b with state:=if u.isNone then .ready else .done,pending:=u})) (O bq)) M (g.set f (.loop F e {b with state:=.busy}))) (rz b.params.toList bh e) k):iQ q f bh k u.isNone O:=by
 intro D z d bm Z aL;obtain⟨tmps,fn,bn,W,aF,aH,aI,bp⟩:=Z.fL aS aL;have a':c z=b.params.size:=by grind[b5.get]
 obtain⟨a3,a4⟩:=ab0 (P:=P) (args:=z.toArray) aF N;refine⟨_,_,_,_,a3,a4,λak al j aJ=>?_⟩;let J:aG:={fn:=fn,tmps:=#[],todo:=[],defers:=[],mode:=.run,kind:=.normal,roundOf:=h d}
 have p:J.kind≠.early:=by simp[J]
 have aK:bY F k D (rz b.params.toList bh e) {tmps:=(b.params.zip z.toArray).foldl (λtmps (a2,x)=>tmps.setIfInBounds a2 x) tmps,defers:=[]}:=by
  have:=GW (x:={tmps:=tmps,defers:=[]}) (I:=e) ⟨aH,⟨[],B⟩,aI⟩ bm bl;have A:(b.params.zip z.toArray).foldl (λtmps (ag:Tmp×X)=>tmps.setIfInBounds ag.1 ag.2) tmps=(b.params.toList.zip z).foldl (λtmps (ag:Tmp×X)=>tmps.setIfInBounds ag.1 ag.2) tmps:=by rw[<-Array.foldl_toList];simp
  grind
 show cj q ak (G (J.U {tmps:=(b.params.zip z.toArray).foldl (λtmps (a2,x)=>tmps.setIfInBounds a2 x) tmps,defers:=[]} [.code b.assign,.beginRound,.code b.body]) (al::j)) D;refine bo D _ aK Z J [.beginRound,.code b.body] (al::j) ak p ?_;rintro A M g bs aw ⟨rfl,aR,br⟩ az s t;refine .next a λa0 aa=>?_;have H:=q.bJ aa;have S:=s.rely H;have aB:=az.rely H s;have bk:∃L,a0.s[f]?=h L/\L.v=.func (.yield d) #[] #[]:=by obtain⟨ar,y,k1,av,au⟩:=(t.trans H.aT).box f _ _ aS W;rw[aR]at k1;cases k1;exact⟨y,av,au⟩
 obtain⟨bw,a9,a7,U,V,aC,aD,aE⟩:=S.fL aR bk;have ai:=S.gA (gi:={b with state:=.busy}) aR U V aC aD aE (.inr rfl);have R:∀{D:a6} {k:m aq} {L:Loc},D.s[f]?=h L->L.aj=[d]->dv D #[⟨.obj d,v,v⟩,⟨.obj d,l,v⟩]:=λ{D k L} Y p=>
  .fo (mA (b' Y) N) (mA (b' Y) N)
 refine⟨_,_,_,ab9 (d:=d) a p V bj,⟨⟨_,_,S,ai.1,ai.2⟩,dv.seen (R (k:=g) U a)⟩,?_⟩;have ba:=ai.2.too0 S;have bg:=ai.1;refine br _ aw (aB.mono ba S.len) bg J [] (al::j) ak p ?_;rintro A bc bf a1 ay ⟨r,aQ,aP,bt⟩ f3 C af;have stA:=((t.trans H.aT).trans ba).trans af;have fin:∀K i,cX a1 i->((u=n/\K=[])∨(u=h .ret/\∃k1,K=.code .ret::k1)∨(∃id k1,u=h (.exit id)/\K=.code (.exit id)::k1/\exitTo id k1=n)) ->
   ∃T E Q,ao P q.b3 (G (J.U ay K) (al::j)) i.a=.go T E.a Q/\kH i E Q/\cj q ak T E:=by
  intro K i o aM;have an:=C.rely o;have bd:∃L,i.s[f]?=h L/\L.v=.func (.yield d) #[] #[]:=by obtain⟨ar,y,k1,av,au⟩:=(stA.trans o.aT).box f _ _ aS W;rw[aQ]at k1;cases k1;exact⟨y,av,au⟩
  obtain⟨bu,a_,a8,ab,ae,aT,aU,aX⟩:=an.fL aQ bd;have ah:=an.gA (gi:={b with state:=if u.isNone then .ready else .done,pending:=u}) aQ ab ae aT aU aX (.inr rfl);obtain⟨aY,aZ,_⟩:=bt _ ah.1;exact⟨_,_,_,acd (d:=d) a a ae aM,⟨⟨_,_,an,ah.1,ah.2⟩,dv.seen (R (k:=bf) ab a)⟩,aJ aP _ aY (((stA.trans o.aT).trans (ah.2.too0 an)).trans (aZ.too0 ah.1))⟩
 cases A with
 |normal=>
  cases r;exact .next a λi o=>fin [] i (q.bJ o) (.inl ⟨a,a⟩)
 |ret=>
  cases r;intro pre;exact .next a λi o=>fin _ i (q.bJ o) (.inr (.inl ⟨a,pre,a⟩))
 |exit id=>
  cases r;intro pre aO;refine .next a λi o=>fin _ i (q.bJ o) (.inr (.inr ⟨id,_,a,a,?_⟩));have:=aO [];simpa[exitTo]using this
 |_=>cases r
end
def dg(p:af P)(k:Nat)(u:Code)(aM:fD)(t:bL)(j:m aq):Prop:=
 ∀i q,bY k j i t q->bb j i->∀g s f (o:ai->a6->Prop),g.kind≠.early->g.roundOf=n ->
  (∀r d a b e,aM r d a->bY k a b d e->bb a b->dh j i a b->kO p o g s f r e b)->cj p o (G (g.U q (.code u::s)) f) i
section
variable {q:af P}{aM:fD}
def b1.bw(m:b1 q F t aM I k):dg q F t aM I k:=λp f j d g o a e b _ i=>m p f j d g o a e b i
theorem dg.seq{N z}(T:dg q F N (wt (dg q F z aM) aM) I k):dg q F (.seq N z) aM I k:=by
 intro W R U e B K f A i b g;refine .ctl e a (λ_=>pF) λV d=>?_;refine T V R (U.rely d e) (e.rely d) B (.code z::K) f A i b ?_;intro r O Q w o M J E y;have C:=d.aT.trans y;cases r with
 |normal=>exact M w o J E B K f A i b λr S m x p u s t j=>g r S m x p u s t (C.trans j)
 |_=>exact kO.cons (λ_ _=>rfl) D (g _ _ _ _ _ M J E C)
theorem dg.block{id}(x:dg q F t (u0 id aM) I k):dg q F (.block id t) aM I k:=by
 intro B r y e s f i p j g lX;refine .ctl e a (λ_=>zw) λz d=>?_;refine x z r (y.rely d e) (e.rely d) s (.inBlock id::f) i p j g ?_;intro ap dE ar m fS bm C al o;have O:=d.aT.trans o;cases ap with
 |normal=>
  exact PM
 |exit b=>
  simp[u0]at bm;split at bm
  .exact Ry
  .rename_i u
   intro pre vw;have:=lX (.exit b) dE ar m fS bm C al O (pre++[.inBlock id]) (λgn=>by
    rw[k_,vw];have:(id==b)=v:=N
    simp[exitTo,this])
   grind
 |ret=>exact lX _ _ _ _ _ bm C al O
 |panic w=>exact lX _ _ _ _ _ bm C al O
 |goto A=>exact lX _ _ _ _ _ bm C al O
 |outgrown=>exact lX _ _ _ _ _ bm C al O
def bb.jK(a:bb k b){r:Nat->Prop}(g:∀e,r e->e<b.a.heap.size/\∀L∈b.s,e∉L.aj):bb k {b with own:=r}:=
 ⟨a.mem,a.len,λj d L aJ f=>eA.cc (k:=k) (b:=b) (ar:=k) (aE:={b with own:=r}) ⟨λ_ _ _ a=>a,λ_ d L a i=>⟨d,L,a,i,.refl _ _⟩⟩ a.len (λ_ _=>⟨rfl,λ_=>rfl⟩) (a.box j d L aJ f),a.a4,a.lt,g⟩
def bb.bE(e:bb k b){ba}{r:Nat->Prop}(y:b.own ba)(s:∀i,r i->b.own i)(E:¬r ba)(B:∀C,b.D ba C=n)(w:b.a.heap[ba]?=h (.deferred (h []))):
  bb (k++[.bn]) {b with s:=b.s++[⟨.int .i64 ba,[ba]⟩],own:=r}/\e9 b {b with s:=b.s++[⟨.int .i64 ba,[ba]⟩],own:=r}:=by
 obtain⟨J,I⟩:=e.own ba y;have q:fw k b (k++[.bn]) {b with s:=b.s++[⟨.int .i64 ba,[ba]⟩],own:=r}:=by refine⟨λ_ _ _ e=>e,λm o L aJ d=>⟨o,L,N,?_,.refl _ _⟩⟩;grind
 refine⟨⟨e.mem,by simp[e.len],?_,?_,?_,?_⟩,⟨a,λ_ _ _ e=>e,λ_ _ _=>rfl,e.mem,?_⟩⟩
 .intro m o L aJ d;rcases rO d with u|⟨f,rfl⟩
  .have f:m<c k:=by rw[<-e.len];grind
   rw[jm f]at aJ;exact(e.box m o L aJ u).cc q e.len λ_ _=>⟨a,λ_=>rfl⟩
  rw[f,e.len,hx (bC _)]at aJ;simp at aJ;subst aJ;exact⟨ba,a,w,B⟩
 .intro m t L p d g i cW j;rcases rO d with k1|⟨z,rfl⟩<;>rcases rO g with x|⟨A,rfl⟩
  .exact e.a4 m t L p k1 x i cW j
  .grind
  .grind
  grind
 .intro L d i cW;simp[e2,fU]at d;rcases d with d|rfl
  .exact e.lt L d i cW
  grind
 .intro i cW;obtain⟨F,D⟩:=e.own i (s i cW);grind
 grind
def zf:Option Code->Option Exit
 |none=>h .normal
 |some .ret=>h .ret
 |some (.exit id)=>h (.exit id)
 |_=>n
def dg.rangeFunc{bM}{Z}{assign body}{bG}{o9}{ar:ι->m aq}{gi:ι->Loop}(aF:∀b x,bY F k b I x->bb k b->∃aY:m X,x.eval bM=.func (.func bG) #[] aY.toArray/\b5 k b aY o9)(aG:bl q bG (.n (.Q (.aY (c k)))::o9) (k++[.loop F I {state:=.ready,pending:=n,fn:=0,tmps:=#[],params:=Z,assign:=assign,body:=body,defers:=0}]) res ar)(bj:∀u,(ar u)[c k]?=h (.loop F I (gi u))/\(gi u).state≠.busy)(f:∀u,∃al,zf (gi u).pending=h al/\aM al I ((ar u).set (c k) .N++[.bn])):dg q F (.rangeFunc bM Z assign body) aM I k:=by
 intro b x bc aI i A ah bK d aQ bh;obtain⟨⟨fn,aH,Y,H⟩,bT⟩:=aG;refine .next a λe aO=>?_;have aa:=q.bJ aO;have y:=aI.rely aa;have E:=bc.rely aa aI;obtain⟨aY,br,R⟩:=aF e x E y;generalize aP:e.a.heap.size=ba;have bR:=λeY=>acb (P:=P) (eY:=eY) (f:=A) (ah:=ah) (Z:=Z) (assign:=assign) (body:=body) (i:=i) (p:=e.a) aQ d aH Y H br;rw[aP]at bR;let w1:au:={e.a with heap:=e.a.heap.push (.deferred (h []))}
 let aT:Loop:={state:=.ready,pending:=n,fn:=i.fn,tmps:=x.tmps,params:=Z,assign:=assign,body:=body,defers:=ba}
 let w2:au:={e.a with heap:=(e.a.heap.push (.deferred (h []))).push (.loop aT)}
 have bP:w2.heap.size=ba+2:=N;have bq:w1.heap.size=ba+1:=N;have aK:∀i,i<e.a.heap.size->w1.heap[i]?=e.a.heap[i]?:=λi d=>by grind
 have bZ:∀i,i<w1.heap.size->w2.heap[i]?=w1.heap[i]?:=λi d=>by grind
 have bH:∀i,i<e.a.heap.size->w2.heap[i]?=e.a.heap[i]?:=λi d=>by grind
 have bs:w2.heap[ba]?=h (.deferred (h [])):=N;have bW:w2.heap[ba+1]?=h (.loop aT):=N;have bu:∀i,e.a.heap.size<=i->∀r,e.D i r=n:=λi d r=>by
  cases s:e.D i r with
  |none=>rfl
  |some af=>have:=y.block s;omega
 let j:Loc:=⟨.func (.yield (ba+1)) #[] #[],[ba+1]⟩
 let K:Loc:=⟨.int .i64 ba,[ba]⟩
 let ai:Loop:={state:=.ready,pending:=n,fn:=0,tmps:=#[],params:=Z,assign:=assign,body:=body,defers:=0}
 obtain⟨bd,bf⟩:=y.cY (cl:=e.D) (bi:=w2) w bH (λ_ _ _=>rfl) (λi d r af s=>by grind) rfl rfl rfl;have bF:fw k e (k++[.loop F I ai]) ⟨e.s++[j],e.D,w2,e.own⟩:=by refine⟨λ_ _ _ bg=>bg,λbQ bU L aJ g=>⟨bU,L,N,?_,.refl _ _⟩⟩;grind
 obtain⟨V,b0⟩:=bd.bY (bU:=.loop F I ai) (L:=j) bf rfl y ⟨ba+1,x.tmps,i.fn,ba,rfl,bW,E.size,λb4=>(E.aL b4).mono bF y.len,λr=>bu _ w r⟩ (λi d=>by grind)
 have aB:=V.jK (r:=λi=>e.own i∨i=ba) (by
  rintro i (d|rfl)
  .exact V.own i d
  .refine⟨by grind,λL g=>?_⟩;simp[e2,fU]at g;rcases g with g|rfl
   .intro J;have:=y.lt L g i J;omega
   grind)
 have d1:=y.dV;obtain⟨a0,a1⟩:=d1.cY (cl:=e.D) (bi:=w1) w aK (λ_ _ _=>rfl) (λi d r af s=>by grind) rfl rfl rfl;obtain⟨an,a2⟩:=a0.bY (bU:=.N) (L:=K) a1 rfl d1 B (λi d=>by grind);obtain⟨a3,a4⟩:=an.cY (cl:=e.D) (bi:=w2) N bZ (λ_ _ _=>rfl) (λi d r af s=>by grind) rfl rfl rfl;obtain⟨a5,a8⟩:=a3.bY (bU:=.N) (L:=j) a4 rfl an B (λi d=>by grind);have aC:e9 ⟨e.s++[K]++[j],e.D,w2,e.own⟩ ⟨e.s++[j],e.D,w2,λi=>e.own i∨i=ba⟩:=by
  refine⟨a,λ_ _ _ bg=>bg,λ_ _ _=>rfl,V.mem,?_⟩;rintro i ((d|rfl)|⟨L,g,d⟩)
  .grind
  .exact .inr ⟨K,by simp,by grind⟩
  grind
 refine⟨_,⟨e.s++[K]++[j],e.D,w2,e.own⟩,_,bR q.b3,⟨⟨_,_,d1,a5,a2.trans a8⟩,.nil⟩,.aP aC (bT _ (Value.func (.yield (ba+1)) #[] #[]::aY) ?_ aB bK _ λu bN af b2 b6 bp S aX=>?_)⟩
 .refine⟨⟨λbU C=>?_,j,?_,a,a⟩,?_⟩
  .rw[hx (bC _)]at C;simp at C;subst C;rfl
  .show (e.s++[j])[c k]?=_;rw[<-y.len,hx (bC _)];simp
  exact R.mono (k:=k) (b:=e) (ar:=k++[.loop F I ai]) (aE:=⟨e.s++[j],e.D,w2,λi=>e.own i∨i=ba⟩) ⟨bF.mem,bF.box⟩ y.len
 have W:(i.U {x with defers:={target:=.collected ba,args:=#[]}::x.defers} (.inRangeFunc (ba+1)::A)).finish af=i.U {x with defers:={target:=.collected ba,args:=#[]}::x.defers} (.endRangeFunc (ba+1)::A):=cV;refine uV (ah:=ah) (t:=i.U {x with defers:={target:=.collected ba,args:=#[]}::x.defers} (.inRangeFunc (ba+1)::A)) S b6 λb3 bI=>?_;rw[W];refine .next a λQ bX=>?_;have bL:=q.bJ bX;have aZ:=(S.rely bI).rely bL;have bJ:=(aX.trans bI.aT).trans bL.aT;obtain⟨M,aL⟩:=bj u;have aD:∃L,Q.s[c k]?=h L/\L.v=.func (.yield (ba+1)) #[] #[]:=by obtain⟨ed,ag,k1,aR,aS⟩:=bJ.box (c k) (.loop F I ai) j (show(k++[aq.loop F I ai])[c k]?=_ from AR) (by show(e.s++[j])[c k]?=_;rw[<-y.len,hx (bC _)];simp);rw[M]at k1;cases k1;exact⟨ag,aR,aS⟩
 obtain⟨bS,ao,ak,ab,aU,bx,bA,bB⟩:=aZ.fL M aD;obtain⟨O,ae⟩:=aZ.gA (gi:={gi u with state:=.exhausted}) (ed:=.N) M ab aU bx bA bB (.inl rfl);refine⟨_,_,_,ab_ aU aL,⟨⟨_,_,aZ,O,ae⟩,dv.seen (.fo (mA (b' ab) D) (mA (b' ab) D))⟩,?_⟩;have z:=bJ.trans (ae.too0 aZ);generalize bO:({Q with a:={Q.a with heap:=Q.a.heap.setIfInBounds (ba+1) (.loop {{gi u with state:=.exhausted}with tmps:=bS,fn:=ao,defers:=ak})}}:a6)=o at O ae z;have az:o.own ba:=by rw[z.own];grind
 have ay:o.a.heap[ba]?=h (.deferred (h [])):=by rw[z.a7 ba (.inr a)];omega
 have aw:∀r,o.D ba r=n:=λr=>by rw[z.bA ba N (λL g=>(aB.own ba (.inr a)).2 L g)];grind
 obtain⟨bD,t2⟩:=O.bE (ba:=ba) (r:=e.own) az (λi d=>by rw[z.own];grind) (λJ=>by have:=(y.own ba J).1;omega) aw ay;refine .aP t2 ?_;have bE:dh k e ((ar u).set (c k) .N++[.bn]) {o with s:=o.s++[⟨.int .i64 ba,[ba]⟩],own:=e.own}:=by
  refine⟨N,λi d=>?_,λi r af s=>z.mem i r af s,λi d b1 r=>?_,λL g i d=>?_,λbQ bU L aJ g=>?_,z.os,z.tape,z.output,a⟩
  .show o.a.heap[i]?=_;rw[z.a7 i (.inl d)];exact bH i (y.own i d).1
  .show o.D i r=_;rw[z.bA i N (λL g=>?_)];grind
  .simp only[e2,fU]at g;rcases g with g|rfl
   .rcases z.bS L g i d with av|⟨bV,av,dG⟩
    .grind
    grind
   grind
  have bn:=(cP.1 aJ).1;have bm:=(cP.1 g).1;obtain⟨ed,ag,k1,aR,aS⟩:=z.box bQ bU L N N;grind
 have a_:bY F ((ar u).set (c k) .N++[.bn]) {o with s:=o.s++[⟨.int .i64 ba,[ba]⟩],own:=e.own} I {x with defers:={target:=.collected ba,args:=#[]}::x.defers}:=by
  have s:=E.mono bE y.len;obtain⟨bt,T⟩:=E.defers;refine⟨s.size,⟨c ((ar u).set (c k) .N)::bt,⟨⟨N,⟨.int .i64 ba,[ba]⟩,ba,?_,a,a⟩,λJ=>?_,T.mono bE.ext⟩⟩,s.aL⟩
  .show (o.s++_)[_]?=_;rw[<-O.len,hx (bC _)];simp
  have av:=T.e8 _ J;grind
 obtain⟨al,C,bo⟩:=f u;have bw:=bh al I _ _ _ bo a_ bD (aa.aT.trans bE);revert C;show zf (gi u).pending=h al->cj q bK (G (i.U _ (((gi u).pending.map Item.code).toList++A)) ah) _;intro C;cases aN:(gi u).pending with
 |none=>rw[aN]at C;cases C;exact bw
 |some t=>
  rw[aN]at C;cases t<;>simp[zf,reduceCtorEq,e_]at C
  .subst C;exact bw [] bk
  subst C;exact bw A
def bY.callee{o}{g}(d:look I o=ay (.fn (.func g) [] cap)):∀f a,bY F k f I a->bb k f->∃e:m X,a.eval (.tmp o)=.func (.func g) #[] e.toArray/\b5 k f e (fg cap):=by
 intro f a p _;have b:=p.aL o;rw[d]at b;have b:=b8 b;show ∃e:m X,a.tmps.getD o J=.func (.func g) #[] e.toArray/\_;generalize a.tmps.getD o J=y at b;cases b with
 |fn s j d i q r t u w x=>
  grind[qj]
def bl.e7{g}{fn}{args}{ar:ι->m aq}(u:P.funcs[g]?=h fn)(r:(fn.name== "runtime.NumGoroutine")=v)(o:fn.body=h t)(C:ax args.length fn.ntmps=l)(D:kG args k->dg q fn.ntmps t (λB w f=>∃s,bW fn k.length (res s) (ar s) B w f) (h_ 0 args) k):bl q g args k res ar:=by refine⟨⟨fn,u,r,by grind⟩,λe z b a=>?_⟩;exact(bl.hx u r o (fz C) λI y g E A F i x p d j=>D ⟨e,z,b,a⟩ I y g E A F i x p d j).2 e z b a
def Sv(fn:Func)(e:y)(a:m aq):fD:=λi j f=>
 (i=.ret∨i=.normal)/\f=a/\jY a=l/\∃b g d,oI j fn.results.toList=h b/\po b=h g/\kw g e=h d/\U d
def bl.bO{i}{fn}{args}{ar:ι->m aq}(Y:P.funcs[i]?=h fn)(ao:(fn.name== "runtime.NumGoroutine")=v)(K:fn.body=h t)(W:ax args.length fn.ntmps=l)(al:b1 q fn.ntmps t (λap af f=>∃X,Sv fn (res X) (ar X) ap af f) (h_ 0 args) k):bl q i args k res ar:=by
 refine⟨⟨fn,Y,ao,by grind⟩,λaz z O N V g I=>?_⟩;obtain⟨an,aE⟩:=b5.get O;let s:aG:={fn:=i,tmps:=#[],todo:=[],defers:=[],mode:=.run,kind:=.normal,roundOf:=n}
 have ah:Frame.enter P i z.toArray .normal=s.U {tmps:=z.toArray++Array.replicate (fn.ntmps-z.toArray.size) J,defers:=[]} [.code t]:=by simp[Frame.enter,Frame.U,Y,K,s]
 rw[ah];have W:=fz W;refine al az {tmps:=z.toArray++Array.replicate (fn.ntmps-z.toArray.size) J,defers:=[]} ⟨by grind,⟨[],B⟩,λo=>?_⟩ N s [] g V D ?_
 .rw[yU];simp[g5,dw,sD];have:=aE o;rcases dY o (c z) with aH|aF
  .exact O2
  rw[w' w];trivial
 rintro ap ag f T e ⟨aa,S,rfl,av,u,ai,aw,E,F,ab,R⟩ M r U;have fin:∀b d,cX T d->b.fn=i->b.tmps=e.tmps->b.defers=e.defers->b.mode=.returning->b.kind=.normal->cj q V (G b g) d:=by
  intro b d a x y ak A C;have j:=M.rely a r;obtain⟨aB,aD,ae,aC⟩:=Mw (P:=P) j E F;obtain⟨p,Q⟩:=j.defers;have H:e.defers=[]:=by
   cases p with
   |nil=>cases ay:e.defers with
    |nil=>rfl
    |cons ai u=>rw[ay]at Q;exact Q.elim
   |cons au p=>exact absurd rfl (vQ av _ (b' (Q.e8 au D)))
  refine I aa b aB _ ⟨x,A,by grind,C,fn,by grind,λZ _=>?_⟩ (pp ab R ae) (r.rely a) (U.trans a.aT);rw[y];exact⟨aD Z,λap S=>by rw[aC Z #[]]at S;grind⟩
 rcases S with rfl|rfl
 .intro pre;exact .ctl r rfl (λ_=>Ev rfl) λd a=>fin _ d a rfl rfl (g3 _) rfl rfl
 exact .ctl r rfl (λ_=>Et rfl) λd a=>fin _ d a rfl rfl (g3 _) rfl rfl
end
structure uE{P:aD}(q:af P)(F:Nat)(aR:Array an)(I:bL)(k:m aq)(E:Nat->y)(t:Nat->bL)(idx:Nat->Option Nat)(last:Nat):Prop where
 cT:∀e r,aR[e]?=h r->∀ap∈r.after,eV ap=l->ap.on<e
 eY:∀e r O,aR[e]?=h r->r.dst=h O->idx O=h e/\O<F
 dO:∀O e,idx O=h e->∃r,aR[e]?=h r/\r.dst=h O
 Q:∀e r,aR[e]?=h r->e≠last->aY q F aR.toList r (t e) k (E e) k
 eX:∀e r,aR[e]?=h r->e≠last->∀o k b aa,bx k b aa (match idx o with|some u=>(if ∃ap∈r.after,eV ap=l/\ap.on=u then E u else .any)|none=>look I o)->bx k b aa (look (t e) o)
 hj:∀r,aR[last]?=h r->∀u,u<aR.size->u≠last->∃ap∈r.after,eV ap=l/\ap.on=u
 ec:last<aR.size
section
variable {q:af P}{E:Nat->y}{t:Nat->bL}{idx:Nat->Option Nat}{last:Nat}
theorem KR{a o}(i:∀b,b<aR.size->L.getD b l=l):Region.linearise.go .any aR a o L []=[]:=by
 cases a with
 |zero=>exact Dy o L
 |succ j=>
  have d:aN .any aR L=[]:=by
   cases d:aN .any aR L with
   |nil=>rfl
   |cons e f=>
    have g:e∈aN .any aR L:=N;grind[ps]
  grind[vJ]
def uE.eR(s:uE q F aR I k E t idx last){W:ai->a6->Prop}{y:aG}{D}(A:y.kind≠.early){cI}(aa:∀d i,i.tmps.size=F->(∀b,bx k d (i.tmps.getD b J) (match idx b with|some m=>if m=last then .any else E m|none=>look I b))->i.defers=[]->bb k d->dh k cI k d->cj q W (G (y.U i (.inRegion aR [last]::D)) ah) d):
  ∀C L,L.size=aR.size->c (L.toList.filter (λy=>!y))<=C->¬L.getD last v=l ->
   (∀e x,aR[e]?=h x->L.getD e v=l->∀g∈x.after,eV g=l->L.getD g.on v=l) ->
   ∀d i,me F k d (gL I E idx L) i->i.defers=[]->bb k d->dh k cI k d ->
   ∀b,cj q W (G (y.U i (.inRegion aR (Region.linearise.go .any aR C b L [])::D)) ah) d:=by
 intro C;induction C with
 |zero=>
  intro L ak ab an aE d i r S u O b;exfalso;have T:L[last]'(by have:=s.ec;omega)∈L.toList:=by simp
  have az:=s.ec;cases A:L[last]'w with
  |true=>exact an (by simp[hF,iR (by omega:last<L.size),A])
  |false=>
   have:L[last]'w∈L.toList.filter (λy=>!y):=hg.2 ⟨T,by grind⟩;grind
 |succ C al=>
  intro L ak ab an aE d i r S u O b;rw[vJ];cases aw:(aN .any aR L)[b % c (aN .any aR L)]? with
  |none=>
   exfalso;have ag:aN .any aR L=[]:=by
    cases ag:aN .any aR L with
    |nil=>rfl
    |cons aO aL=>
     grind[Nat.mod_lt]
   have ay:∀e,e<aR.size->L.getD e v=l:=by
    intro e;induction e using Nat.strongRecOn with
    |_ e au=>
     intro B;cases A:L.getD e v with
     |true=>rfl
     |false=>
      have T:e∈aN .any aR L:=ps.2 ⟨aR[e],iR B,by
       grind,λg X V=>by
       have:=s.cT e _ (iR B) g X V
       grind⟩
      grind
   exact an (ay last s.ec)
  |some e=>
   have B:=b' aw;obtain⟨x,o,ar,af⟩:=ps.1 B;have az:e<aR.size:=(jl.1 o).1;have H:¬L.getD e v=l:=N;by_cases ao:e=last
   .subst ao;have R:Region.linearise.go .any aR C (b / c (aN .any aR L)) (L.setIfInBounds e l) []=[]:=by
     refine KR λm ae=>?_;have aq:(L.setIfInBounds e l).getD m v=l:=by
      rw[mD w];by_cases g:m=e
      .grind
      obtain⟨Z,X,V,rfl⟩:=s.hj x o m ae g;grind
     grind
    simp[R];refine aa d i r.size (λb=>?_) S u O;have:=r.aL b;unfold gL at this;cases f:idx b with
    |none=>grind
    |some m=>
     simp only[f]at this⊢;obtain⟨vS,bA,_⟩:=s.dO _ _ f;by_cases g:m=e
     .rw[bo g];trivial
     rw[bj g];obtain⟨Z,X,V,rfl⟩:=s.hj x o m (jl.1 bA).1 g;grind
   have aI:(L.setIfInBounds e l).size=aR.size:=N;have aH:c ((L.setIfInBounds e l).toList.filter (λy=>!y))<=C:=by have z:L.toList[e]?=h v:=Rq;grind[x0]
   have av:∀m U,aR[m]?=h U->(L.setIfInBounds e l).getD m v=l->∀g∈U.after,eV g=l->(L.setIfInBounds e l).getD g.on v=l:=wQ;have aJ:¬(L.setIfInBounds e l).getD last v=l:=wQ
   have aC:bY F k d (t e) i:=r.fj λb k d Q M=>s.eX e x o ao b k d Q (by
    unfold gL at M;cases f:idx b with
    |none=>grind
    |some m=>
     simp only[f]at M⊢;split
     .grind
     .trivial)
   have aK:∀p Q,dh k d k p->bx k p Q (E e)->me F k p (gL I E idx (L.setIfInBounds e l)) (i.put x.dst Q):=by
    intro p Q K M;cases S:x.dst with
    |none=>
     refine⟨r.size,r.defers.imp λ_ z=>z.mono K.ext,λb=>?_⟩;have j:=(r.aL b).mono K.ext u.len;simp only[Act.put];unfold gL at j⊢;cases f:idx b with
     |none=>grind
     |some m=>
      exact PI
    |some Y=>
     obtain⟨aF,aB⟩:=s.eY e x Y o S;refine⟨by simp[Act.put,r.size],r.defers.imp λ_ z=>z.mono K.ext,λb=>?_⟩;simp only[Act.put];by_cases g:Y=b
     .subst g;have aM:Y<i.tmps.size:=by rw[r.size];exact aB
      simp only[hF,uQ aM,h9];unfold gL;simp only[aF];rw[bo ((mD w).2 (.inl a))];exact M
     have j:=(r.aL b).mono K.ext u.len;simp only[hF]at j⊢;rw[sN g];unfold gL at j⊢;cases f:idx b with
     |none=>grind
     |some m=>
      exact PI
   have:=s.Q e x o ao d i aC u y D ah W e (Region.linearise.go .any aR C (b / c (aN .any aR L)) (L.setIfInBounds e l) []) A N;simp only[w8]at this;exact this λQ p M aD K=>al _ aI aH aJ av p _ (aK _ _ K M) (by cases x.dst<;>exact S) aD (O.trans K) _
theorem uE.region(B:uE q F aR I k E t idx last)(N:P.follows Departure.mixedOrders=l){A:ai->a6->Prop}{p:aG}{i}(u:p.kind≠.early){cI}{w7}{id}(s:bY F k cI I w7)(M:w7.defers=[])(y:bb k cI)(O:∀o j,j.tmps.size=F->(∀d,bx k o (j.tmps.getD d J) (match idx d with|some w=>if w=last then .any else E w|none=>look I d))->j.defers=[]->bb k o->dh k cI k o->cj q A (G (p.U j (.inRegion aR [last]::i)) ah) o):
  cj q A (G (p.U w7 (.code (.region id aR l)::i)) ah) cI:=by
 refine .next a λb g=>?_;have g:=q.bJ g;have f:=y.rely g;have C:=s.rely g y;have x:cO k b k {b with a:={b.a with drawn:=b.a.drawn+1}}:=cO.same rfl rfl rfl rfl;have z:bb k {b with a:={b.a with drawn:=b.a.drawn+1}}:=f.same rfl;have K:=g.aT.trans (x.too0 f);refine⟨_,{b with a:={b.a with drawn:=b.a.drawn+1}},#[],Eu,⟨⟨k,k,f,z,x⟩,.nil⟩,?_⟩;simp[Region.schedule,N,Bool.true_or,dw];refine B.eR u (cI:=cI) O aR.size _ D D wM FB _ w7 ?_ M z K _;have m:=C.mono (x.too0 f) f.len;refine⟨m.size,m.defers,λd=>?_⟩;unfold gL;cases Q:idx d with
 |none=>exact m.aL d
 |some w=>
  simp only;rw[bj]
  .exact m.aL d
  exact wM
end
def dX(q:af P)(x:Nat)(a:m an)(t:an)(w:bL)(j:m aq)(z:ι->y)(e:ι->m aq):Prop:=
 ∀i k,bY x j i w k->bb j i->∀(o:aG) s f (p:ai->a6->Prop) r b,o.kind≠.early->a.toArray[r]?=h t ->
  (∀g u d,bx (e g) d u (z g)->bb (e g) d->dh j i (e g) d->cj q p (G (o.U (k.put t.dst u) (.inRegion a.toArray b::s)) f) d)->cj q p (G (o.U k (.inRegion a.toArray (r::b)::s)) f) i
def pQ:m an->Nat->(Nat->y)->m (Option Nat×y)
 |[],_,_=>[]
 |d::e,a,b=>(d.dst,b a)::pQ e (a+1) b
def Fa{f:Nat->y}:∀{e:m an}{b a:Nat},(pQ e b f)[a]?=(e[a]?).map λd=>(d.dst,f (b+a))
 |[],b,a=>by simp[pQ]
 |d::g,b,0=>by simp[pQ]
 |d::g,b,a+1=>by simp[pQ,n8];rw[Fa,show b+1+a=b+(a+1) by omega]
def ek(a:m an)(b:bL)(f:Nat->y)(d:Nat):bL:=fZ (λe=>en e (da (a.getD d ev).after.toList)) 0 (pQ a 0 f) (mQ a b)
def oj(a:m an)(b:bL)(d:Nat->y):bL:=fZ (λ_=>l) 0 (pQ a 0 d) (mQ a b)
def pb(a:Nat):m an->Bool
 |[]=>l
 |b::d=>match fp a b.dst with|true=>pb a d|false=>v
def IK{F}:∀{e:m an},pb F e=l->∀(a:Nat)b,e[a]?=h b->fp F b.dst=l
 |[],_,a,b,d=>by grind
 |i::j,d,a,b,f=>by
  simp[pb]at d;split at d
  .rename_i g;cases a with
   |zero=>grind
   |succ a=>exact IK d a b N
  grind
def o8:m an->Nat->Bool
 |[],_=>l
 |b::d,a=>match tt a (da b.after.toList)with|true=>o8 d (a+1)|false=>v
def GO:∀{i:m an}{g:Nat},o8 i g=l->∀(a:Nat)d,i[a]?=h d->∀f∈da d.after.toList,f<g+a
 |[],_,_,a,d,e=>by grind
 |o::p,g,e,a,d,b=>by
  simp[o8]at e;split at e
  .rename_i j;cases a with
   |zero=>simp at b;subst b;exact DB j
   |succ a=>intro f k;have:=GO e a d N f k;omega
  grind
def xp(pre:Nat->Bool):m Nat->Bool
 |[]=>v
 |a::b=>match pre a with|true=>xp pre b|false=>l
theorem GF{pre:Nat->Bool}:∀{d:m Nat},xp pre d=l->∃b∈d,pre b=v
 |[],a=>by cases a
 |b::f,a=>by
  simp[xp]at a;split at a
  .obtain⟨t,e,i⟩:=GF a;grind
  grind
def oc(pre:Nat->Bool)(b:Nat):m an->Nat->Bool
 |[],_=>l
 |e::d,a=>match pre a with
  |true=>oc pre b d (a+1)
  |false=>match ad a b with
   |true=>oc pre b d (a+1)
   |false=>match xp pre (da e.after.toList)with|true=>oc pre b d (a+1)|false=>v
theorem H6{pre:Nat->Bool}{A}:∀{g:m an}{d:Nat},oc pre A g d=l->∀(a:Nat)e,g[a]?=h e->pre (d+a)=v->d+a≠A->∃o∈da e.after.toList,pre o=v
 |[],_,_,a,e,f=>by grind
 |q::p,d,f,a,e,b=>by
  intro i j;simp[oc]at f;cases a with
  |zero=>
   simp at b;subst b;simp[kk]at i j;grind[Nat.eq_of_beq_eq_true,GF]
  |succ a=>
   have k:oc pre A p (d+1)=l:=N;exact H6 k a e N N w
section
variable {q:af P}{idx:Nat->Option Nat}
def Zk{g:Nat->y}{j}(q:∀a k b f,bx k b f (match idx a with|some i=>(if ∃d∈r.after,eV d=l/\d.on=i then g i else .any)|none=>look I a)->bx k b f (look (ek aR.toList I g e) a))(p:me F k b (gL I g idx L) j)(s:∀d∈r.after,eV d=l->L.getD d.on v=l):bY F k b (ek aR.toList I g e) j:=p.fj λa k b f m=>q a k b f (by
 unfold gL at m;cases o:idx a with
 |none=>grind
 |some i=>
  simp only[o]at m⊢;split
  .grind
  .trivial)
def aex{s p:Nat->y}{d}{o}(t:∀f,r.dst=h f->idx f=h e/\f<F)(N:∀f m,idx f=h m->∃r,aR[m]?=h r/\r.dst=h f)(A:aR[e]?=h r)(M:e<L.size)(O:∀m,L.getD m v=l->p m=s m)(w:c b.s=c k)(i:dh k b d aE)(j:me F k b (gL I s idx L) o)(K:bx d aE aa (p e)):me F d aE (gL I p idx (L.setIfInBounds e l)) (o.put r.dst aa):=by
 have old:∀g,idx g≠h e->bx d aE (o.tmps.getD g J) (gL I p idx (L.setIfInBounds e l) g):=by intro g Q;have x:=(j.aL g).mono i.ext w;unfold gL at x⊢;grind[mD]
 cases E:r.dst with
 |none=>
  refine⟨j.size,j.defers.imp λ_ q=>q.mono i.ext,λg=>?_⟩;refine old g λz=>?_;grind
 |some f=>
  obtain⟨B,D⟩:=t f E;refine⟨by simp[Act.put,j.size],j.defers.imp λ_ q=>q.mono i.ext,λg=>?_⟩;simp[Act.put];by_cases u:f=g
  .subst u;have C:f<o.tmps.size:=by rw[j.size];exact D
   simp[hF,uQ C,h9];unfold gL;simp only[B];rw[bo ((mD M).2 (.inl a))];exact K
  have:=old g (λz=>by grind);simp[hF]at this⊢;grind
def SN{S7:∀a e,aR[a]?=h e->∀b∈e.after,eV b=l->b.on<a}(o:L.size=aR.size)(k:aN .any aR L=[]):∀a,a<aR.size->L.getD a v=l:=by
 intro a;induction a using Nat.strongRecOn with
 |_ a f=>
  intro d;cases m:L.getD a v with
  |true=>rfl
  |false=>
   have i:a∈aN .any aR L:=ps.2 ⟨aR[a],iR d,by grind,λb j g=>by grind⟩;grind
def aaD{o}(a:(aN .any aR L)[o % c (aN .any aR L)]?=n):aN .any aR L=[]:=by
 cases d:aN .any aR L with
 |nil=>rfl
 |cons e b=>
  grind[Nat.mod_lt]
theorem SP(g:L.size=aR.size)(i:c (L.toList.filter (λb=>!b))<=0):∀a,a<aR.size->L.getD a v=l:=by
 intro a f;have d:L[a]'w∈L.toList:=D;cases e:L[a]'w with
 |true=>simp[hF,iR (by omega:a<L.size),e]
 |false=>
  have:L[a]'w∈L.toList.filter (λb=>!b):=hg.2 ⟨d,by grind⟩;grind
end
def dV(b:Nat)(y:Nat->Bool):Nat->Bool:=λa=>match ad a b with|true=>l|false=>y a
section
variable {q:af P}{C:Type}{E:C->Nat->y}{idx:Nat->Option Nat}{br:C->(Nat->Bool)->m aq}{g2:C->(Nat->Bool)->Prop}{t:Nat}
def kq(L:Array Bool):Nat->Bool:=λa=>L.getD a v
def TX(a:e<L.size):kq (L.setIfInBounds e l)=dV e (kq L):=by funext u;have b:=mD (L:=L) (e:=e) (u:=u) a;simp[kq,dV];grind[Nat.eq_of_beq_eq_true,Nat.beq_refl]
def Tz{t}(i:L.size=j)(g:∀e,t<=e->¬L.getD e v=l):j-t<=c (L.toList.filter (λa=>!a)):=by
 have k:(L.toList.drop t).filter (λa=>!a)=L.toList.drop t:=by rw[rl];intro a f;obtain⟨d,b,rfl⟩:=hd f;have:=g (t+d) w;simp[sA,nb]at b;simp[hF,iR (by omega:t+d<L.size),h9]at this;grind
 grind[List.drop_sublist]
theorem n1.ix(all)(t):n1 all (List.range' t (c all-t)) (all.drop t):=by
 have key:∀a j,(∀u r,a[u]?=h r->all[j+u]?=h r)->n1 all (List.range' j (c a)) a:=by
  intro a;induction a with
  |nil=>intro j _;trivial
  |cons r b x=>
   exact Q'
 have:=key (all.drop t) t λu r s=>by grind
 grind
structure uz{P:aD}(q:af P)(F:Nat)(aR:Array an)(I:bL){C:Type}(E:C->Nat->y)(br:C->(Nat->Bool)->m aq)(g2:C->(Nat->Bool)->Prop)(idx:Nat->Option Nat)(t:Nat):Prop where
 cT:∀e r,aR[e]?=h r->∀ap∈r.after,eV ap=l->ap.on<e
 eY:∀e r O,aR[e]?=h r->r.dst=h O->idx O=h e/\O<F
 dO:∀O e,idx O=h e->∃r,aR[e]?=h r/\r.dst=h O
 Q:∀κ (y:Nat->Bool) e r,g2 κ y->aR[e]?=h r->e<t->y e=v->(∀ap∈r.after,eV ap=l->y ap.on=l)->(∀u Lk,aR[u]?=h Lk->y u=l->∀ap∈Lk.after,eV ap=l->y ap.on=l)->dX q F aR.toList r (ek aR.toList I (E κ) e) (br κ y) (λbm:{Sh:C // (∀u,y u=l->E Sh u=E κ u)/\g2 Sh (dV e y)}=>E bm.1 e) (λbm=>br bm.1 (dV e y))
 eX:∀(E:Nat->y) e r,aR[e]?=h r->∀o k b aa,bx k b aa (match idx o with|some u=>(if ∃ap∈r.after,eV ap=l/\ap.on=u then E u else .any)|none=>look I o)->bx k b aa (look (ek aR.toList I E e) o)
 fin:∀(E:Nat->y) o k b aa,bx k b aa (match idx o with|some u=>E u|none=>look I o)->bx k b aa (look (oj aR.toList I E) o)
 gU:∀e r,aR[e]?=h r->t<=e->∀L:Array Bool,(∀e r,aR[e]?=h r->L.getD e v=l->∀ap∈r.after,eV ap=l->L.getD ap.on v=l)->(∀ap∈r.after,eV ap=l->L.getD ap.on v=l)->∀f,f<e->L.getD f v=l
 gg:t<=aR.size
 h0:∀κ (y:Nat->Bool),g2 κ y->(∀e,e<t->y e=l)->∀e,t<=e->e<aR.size->E κ e=.any
def Kb(b:L.size=j)(a:e<j):L.getD e l=v↔¬L.getD e v=l:=N
theorem uz.seq(r:uz q F aR I E br g2 idx t):∀k a(L:Array Bool)y,L.size=aR.size->t<=a->a<=aR.size->aR.size-a<=k->(∀o,o<aR.size->(L.getD o v=l↔o<a)) ->
  Region.linearise.go .any aR k y L []=List.range' a (aR.size-a):=by
 intro k;induction k with
 |zero=>
  grind[Dy]
 |succ k V=>
  intro a L y B W X Y A;by_cases R:a=aR.size
  .grind [KR]
  .rw[vJ];have u:a<aR.size:=w;have S:∀b j,aR[b]?=h j->L.getD b v=l->∀i∈j.after,eV i=l->L.getD i.on v=l:=λb j d g i x f=>by have m:=(jl.1 d).1;have e:=(A b m).1 g;have C:=r.cT b j d i x f;grind
   have T:∀b,b∈aN .any aR L->b=a:=λb g=>by
    obtain⟨j,d,s,U⟩:=ps.1 g;have m:=(jl.1 d).1;have K:¬b<a:=λO=>(Kb B m).1 s ((A b m).2 O);rcases dY a b with e|e
    .have:=r.gU b j d w L S U a e;grind
    omega
   have Q:a∈aN .any aR L:=ps.2 ⟨aR[a],iR u,(Kb B u).2 (λD=>by grind),λi x f=>by
    have:=r.cT a _ (iR u) i x f
    grind⟩
   have M:0<c (aN .any aR L):=List.length_pos_of_mem Q;have z:=p7 y M;rw[bJ z];have p:=T _ (xf z);simp[p];rw[V (a+1) _ _ N w w w (λo J=>by grind[mD])];rw[show aR.size-a=(aR.size-(a+1))+1 by omega,List.range'_succ]
def uz.eR(m:uz q F aR I E br g2 idx t){aM:ai->a6->Prop}{s:aG}{x}(Y:s.kind≠.early){dN}{cI}(X:∀b y d g,g2 b y->(∀e,e<t->y e=l)->bY F (br b y) d (oj aR.toList I (E b)) g->bb (br b y) d->dh dN cI (br b y) d->cj q aM (G (s.U g (.inRegion aR (List.range' t (aR.size-t))::x)) ah) d):
  ∀r b L,g2 b (kq L)->L.size=aR.size->c (L.toList.filter (λs=>!s))<=r->(∀o,t<=o->¬L.getD o v=l) ->
   (∀e z,aR[e]?=h z->L.getD e v=l->∀D∈z.after,eV D=l->L.getD D.on v=l) ->
   ∀d g,me F (br b (kq L)) d (gL I (E b) idx L) g->bb (br b (kq L)) d->dh dN cI (br b (kq L)) d ->
   ∀k,cj q aM (G (s.U g (.inRegion aR (Region.linearise.go .any aR r k L [])::x)) ah) d:=by
 have fin:∀b L d g r k,g2 b (kq L)->L.size=aR.size->c (L.toList.filter (λs=>!s))<=r->(∀o,t<=o->¬L.getD o v=l)->(∀e,e<t->L.getD e v=l)->me F (br b (kq L)) d (gL I (E b) idx L) g->bb (br b (kq L)) d->dh dN cI (br b (kq L)) d->cj q aM (G (s.U g (.inRegion aR (Region.linearise.go .any aR r k L [])::x)) ah) d:=by
  intro b L d g r k A M Q O ak C i p;have W:=m.gg;rw[m.seq r t L k M (bC _) W (by have aD:=Tz (j:=aR.size) (t:=t) M O;omega) (λo J=>⟨λal=>by grind,λal=>ak o al⟩)]
  exact X b _ d g A ak (C.fj λk ay d ar H=>m.fin (E b) k ay d ar (by
   unfold gL at H;cases u:idx k with
   |none=>grind
   |some o=>
    simp only[u]at H⊢;obtain⟨z,f,_⟩:=m.dO _ _ u;rcases dY o t with B|B
    .grind
    .rw[m.h0 b _ A ak o B (jl.1 f).1];trivial)) i p
 intro r;induction r with
 |zero=>
  intro b L A M Q O V d g C i p k;have W:=m.gg;grind[SP]
 |succ r ab=>
  intro b L A M Q O V d g C i p k;have W:=m.gg;cases ae:(aN .any aR L)[k % c (aN .any aR L)]? with
  |none=>exact fin b L d g _ k A M Q O (λe u=>SN (S7:=m.cT) M (aaD ae) e w) C i p
  |some e=>
   have u:=b' ae;obtain⟨z,f,ao,ag⟩:=ps.1 u;have aq:e<aR.size:=(jl.1 f).1;rcases dY e t with R|R
   rotate_left
   .exact fin b L d g _ k A M Q O (λo J=>m.gU e z f R L V ag o w) C i p
   rw[vJ,ae];have av:¬L.getD e v=l:=N;have aF:c ((L.setIfInBounds e l).toList.filter (λs=>!s))<=r:=by
    have B:L.toList[e]?=h v:=by rw[Gu,iR (by omega:e<L.size)];simpa[hF,iR (by omega:e<L.size)]using av
    grind[x0]
   have au:∀S K,aR[S]?=h K->(L.setIfInBounds e l).getD S v=l->∀D∈K.after,eV D=l->(L.setIfInBounds e l).getD D.on v=l:=wQ;have a:bY F (br b (kq L)) d (ek aR.toList I (E b) e) g:=Zk (m.eX (E b) e z f) C ag;have:=m.Q b (kq L) e z A f R (by unfold kq;grind) ag V d g a i s x ah aM e (Region.linearise.go .any aR r (k / c (aN .any aR L)) (L.setIfInBounds e l) []) Y N;simp only[w8]at this;refine this λaE ar af H U T=>?_;obtain⟨aB,az,an⟩:=aE;have aw:=TX (L:=L) (e:=e) w;simp only at H U T;rw[<-aw]at H U T an;exact ab aB _ an N aF (λo J=>by grind[mD]) au af _ (aex (λaC Z=>m.eY e z aC f Z) m.dO f w (λS aa=>az S aa) i.len T C H) U (p.trans T) _
def b1.reg(aD:P.follows Departure.mixedOrders=l)(x:Nat)(t:C->Nat->y)(O:C->(Nat->Bool)->m aq)(f:C->(Nat->Bool)->Prop)(an:C)(aS:f an λ_=>v)(aB:O an (λ_=>v)=k)(ak:lw all=l)(a4:o8 all 0=l)(a5:pb F all=l)(a8:x<=c all)(Q:∀e,x<=e->e<c all->∀L:Nat->Prop,(∀e,e<c all->L e->∀i∈da (all.getD e ev).after.toList,L i)->(∀i∈da (all.getD e ev).after.toList,L i)->∀K,K<e->L K)(B:∀j (y:Nat->Bool),f j y->(∀e,e<x->y e=l)->∀e,x<=e->e<c all->t j e=.any)(ae:∀j (y:Nat->Bool) e r,f j y->all[e]?=h r->e<x->y e=v->(∀i∈da r.after.toList,y i=l)->(∀g ab,all[g]?=h ab->y g=l->∀i∈da ab.after.toList,y i=l)->dX q F all r (ek all I (t j) e) (O j y) (λaJ:{aO:C // (∀g,y g=l->t aO g=t j g)/\f aO (dV e y)}=>t aJ.1 e) (λaJ=>O aJ.1 (dV e y))){aM:fD}(aC:∀j y,f j y->(∀e,e<x->y e=l)->fm q F all (all.drop x) (aM .normal) (oj all I (t j)) (O j y))(id:Nat):
  b1 q F (.region id all.toArray l) aM I k:=by
 have S:∀e:Nat,all.toArray[e]?=all[e]?:=λe=>by simp
 let idx:Nat->Option Nat:=λo=>(aA (c all)).find? (λe=>decide ((all.getD e ev).dst=h o));have ba:∀o g,idx o=h g->∃r,all[g]?=h r/\r.dst=h o:=N;have a0:∀e r E,all[e]?=h r->r.dst=h E->idx E=h e:=by
  intro e r E cy u;have bp:e<c all:=(cP.1 cy).1;cases aG:idx E with
  |none=>
   have:=sB.1 aG e N;grind
  |some g=>
   grind[DU]
 have bc:∀o,jW o all=l↔∃g,idx o=h g:=by grind[Dd,vv]
 have G:∀e r,all[e]?=h r->all.getD e ev=r:=λe r bd=>by grind
 have u:uz q F all.toArray I t O f idx x:=by
  refine⟨?_,?_,?_,?_,?_,?_,λe r cy V L aT aU K aE=>?_,by grind,λj y av ar e p s=>B j y av ar e p N⟩
  .intro e r cy i ac z;rw[S]at cy;have:=GO a4 e r cy i.on (l5.2 ⟨i,by grind,z,rfl⟩);omega
  .intro e r E cy u;rw[S]at cy;exact⟨a0 e r E cy u,lh (IK a5 e r cy) E u⟩
  .grind
  .intro j y e r av cy Z T aF aX;rw[S]at cy;exact ae j y e r av cy Z T (λi ac=>by grind[l5]) λg r J aR i ac=>by grind[l5]
  .intro t e r cy o k b aa ai;rw[S]at cy;show bx k b aa (look (ek all I t e) o);unfold ek;rw[G e r cy];rcases vL (A:=λg=>en g (da r.after.toList)) (I:=mQ all I) (o:=o) (d:=pQ all 0 t) (e:=0)with⟨g,a',p,s,w⟩|w
   .rw[w];rw[Fa]at p;cases J:all[g]? with
    |none=>grind
    |some aI=>
     simp[J,lK,e_,lL,cZ]at p;rw[a0 g aI o J p.1]at ai;simp only at ai;rw[bo]at ai
     .grind
     simp[cZ]at s;obtain⟨i,aP,aQ,x⟩:=l5.1 (qI s);grind
   rw[w,ts];split
   .trivial
   grind
  .intro t o k b aa ai;show bx k b aa (look (oj all I t) o);unfold oj;rcases vL (A:=λ_=>l) (I:=mQ all I) (o:=o) (d:=pQ all 0 t) (e:=0)with⟨g,a',p,s,w⟩|w
   .rw[w];rw[Fa]at p;grind
   rw[w,ts];split
   .trivial
   grind
  rw[S]at cy;refine Q e V (cP.1 cy).1 (λK=>L.getD K v=l) (λa_ aY a9 i ac=>?_) (λi ac=>?_) K aE
  .grind [l5]
  grind[l5]
 intro b aP a6 X aQ aH ay ao z U;refine .next a λR ah=>?_;have ah:=q.bJ ah;have ag:=X.rely ah;have H:=a6.rely ah X;have M:cO k R k {R with a:={R.a with drawn:=R.a.drawn+1}}:=cO.same rfl rfl rfl rfl;have Y:bb k {R with a:={R.a with drawn:=R.a.drawn+1}}:=ag.same rfl;have a1:=ah.aT.trans (M.too0 ag);refine⟨_,{R with a:={R.a with drawn:=R.a.drawn+1}},#[],Eu,⟨⟨k,k,ag,Y,M⟩,.nil⟩,?_⟩;simp only[Region.schedule,aD,Bool.true_or,dw];have W:kq (Array.replicate all.toArray.size v)=λ_=>v:=by funext e;simp[kq,hF,xj];split<;>simp
 refine u.eR z (dN:=k) (cI:=b) (λj y aL au av ar az s af=>?_) all.toArray.size an _ N D D ?_ ?_ _ aP ?_ N N _
 .refine aC j y av ar aL au az s aQ aH ay ao _ z ?_ λa3 a2 aN aw aK f3 w a7=>U .normal _ _ aN aw aK f3 w (af.trans a7);grind[n1.ix]
 .intro e _ bp;simp[hF,xj]at bp;split at bp<;>simp at bp
 .exact FB
 rw[W,aB];have al:=H.mono (M.too0 ag) ag.len;refine⟨al.size,al.defers,λo=>?_⟩;unfold gL;cases aZ:idx o with
 |none=>exact al.aL o
 |some g=>
  simp only;rw[bj]
  .exact al.aL o
  exact wM
def dX.to{p:Type}{s:ι->y}{b:ι->m aq}{t:p->y}{o:p->m aq}(A:dX q F all r I k s b)(D:∀d,∃e,s d=t e/\b d=o e):dX q F all r I k t o:=by intro O w z i x e f u C a g j B;refine A O w z i x e f u C a g j λd S Q K M N=>?_;obtain⟨R,E,J⟩:=D d;grind
def aY.tocE{d:Type}{A}{B:d->y}{z:d->m aq}(K:aY q F all r I k A ar)(p:d)(e:A=B p)(f:ar=z p):dX q F all r I k B z:=by subst e f;exactλN D J j E s b C M a i o g=>K N D J j E s b C M a i o λO x t u w=>g p O x t u w
end
section
variable {q:af P}
theorem dX.a3{C:ι->y}{d:ι->m aq}(Q:r.guard=n)(M:∀f g,bb k f->(∀D,bx k f (g D) (bF I D))->∃(e:ι)(b:a6)(j:X),(ab g r).run P f.a=.ok (.value j) b.a/\bx (d e) b j (C e)/\bb (d e) b/\cO k f (d e) b/\dv f ((ab g r).events P f.a #[])):dX q F all r I k C d:=by intro f E K i S U J R T z w x u;refine ry w x (jf Q) λO p=>?_;have o:=i.rely p;obtain⟨e,b,j,s,t,B,A,N⟩:=M O E.eval o (eH (K.rely p i));exact⟨_,b,j,s,.inl a,⟨⟨k,d e,o,B,A⟩,N⟩,u e j b t B (p.aT.trans (A.too0 o))⟩
def dX.dc{j}(t:aY q F all r I k j ar):dX q F all r I k (λ_:Unit=>j) (λ_=>ar):=
 λx o s f p w b m u a e g d=>t x o s f p w b m u a e g λy i=>d () y i
def aY.aK{a}(d:a2 P r (bF I) k a ar)(b:r.guard=n):aY q F all r I k a ar:=.a3 (λ_ _ _ _=>jf b) d
def aY.eval{d}(aZ:bZ P ac)(a:a_ q CT)(e:iJ ac CT bh all I k r=h (d,n,cq))(b:U cq):aY q F all r I k d k:=eh aZ a e b
def aY.w{E}(aZ:bZ P ac:=by exact bc)(lV:a_ q CT:=by first|assumption|exact a_.nil)(s:iJ ac CT [] all I k r=h (E,n,[]):=by rfl):aY q F all r I k E k:=eh aZ lV s B
def q8(i:af P)(g:Nat)(a:m an)(f:bL)(d:m aq)(e:Nat->y)(pre:Nat->Bool):m an->Nat->Prop
 |[],_=>True
 |j::k,b=>(match pre b with|true=>aY i g a j (ek a f e b) d (e b) d|false=>True)/\q8 i g a f d e pre k (b+1)
def q9(i:af P)(g:Nat)(a:m an)(f:bL)(d:m aq)(e:Nat->y)(j:Nat):m an->Nat->Prop
 |[],_=>True
 |k::o,b=>(match ad b j with|true=>True|false=>aY i g a k (ek a f e b) d (e b) d)/\q9 i g a f d e j o (b+1)
theorem q8.get{g:Nat->y}{pre:Nat->Bool}:∀{i:m an}{d:Nat},q8 q F all I k g pre i d->∀(b:Nat)e,i[b]?=h e->pre (d+b)=l->aY q F all e (ek all I g (d+b)) k (g (d+b)) k
 |[],_,_,b,e,f=>by grind
 |o::p,d,f,0,e,a=>λx=>by simp at a;subst a;have j:=f.1;grind
 |o::p,d,f,b+1,e,a=>λx=>by have:=q8.get f.2 b e N N;grind
theorem q9.get{g:Nat->y}{A}:∀{i:m an}{d:Nat},q9 q F all I k g A i d->∀(b:Nat)e,i[b]?=h e->d+b≠A->aY q F all e (ek all I g (d+b)) k (g (d+b)) k
 |[],_,_,b,e,f=>by grind
 |o::p,d,f,0,e,a=>λx=>by simp at a;subst a;have j:=f.1;simp only[kk]at x;grind[Nat.eq_of_beq_eq_true]
 |o::p,d,f,b+1,e,a=>λx=>by have:=q9.get f.2 b e N w;grind
def kV(pre:Nat->Bool)(d:Nat->y)(e:ι->Nat->y)(b:ι)(a:Nat):y:=match pre a with|true=>d a|false=>e b a
def DS{t}{pre:Nat->Bool}{o:Nat->y}{j:ι->Nat->y}{s:ι->m aq}{br:ι->(Nat->Bool)->m aq}(R:pre A=v)(T:oc pre A all 0=l)(same:∀d b,pre b=l->j d b=o b)(C:∀b f,all[b]?=h f->pre b=l->aY q F all f (ek all I o b) k (o b) k)(qY:∀d (y:Nat->Bool) b f,all[b]?=h f->b≠A->b<t->y b=v->(∀e w,all[e]?=h w->y e=l->∀u∈da w.after.toList,y u=l)->aY q F all f (ek all I (j d) b) (br d y) (j d b) (br d (dV b y)))(B:∀f,all[A]?=h f->dX q F all f (ek all I o A) k (λd=>j d A) s)(Q:∀d (y:Nat->Bool),(∀b,y b=l->pre b=l)->s d=br d (dV A y)):
  ∀i (y:Nat->Bool) b f,(i.isSome=y A/\(i=n->∀b,y b=l->pre b=l))->all[b]?=h f->b<t->y b=v->(∀u∈da f.after.toList,y u=l)->(∀d w,all[d]?=h w->y d=l->∀u∈da w.after.toList,y u=l) ->
   dX q F all f (ek all I (i.elim o j) b) (i.elim k λd=>br d y) (λK:{D:Option ι // (∀d,y d=l->D.elim o j d=i.elim o j d)/\(D.isSome=dV b y A/\(D=n->∀e,dV b y e=l->pre e=l))}=>K.1.elim o j b) (λK=>K.1.elim k λd=>br d (dV b y)):=by
 intro i y b f N r z x J p;have U:∀{e},dV b y e=l->e=b∨y e=l:=λ{e} g=>by unfold dV at g;grind[Nat.eq_of_beq_eq_true]
 have S:∀{e},e≠b->dV b y e=y e:=λ{e} g=>by unfold dV;grind[Nat.eq_of_beq_eq_true]
 by_cases M:b=A
 .subst M;cases i with
  |some d=>grind
  |none=>
   refine(B f r).to λd=>⟨⟨h d,λe g=>same d e (N.2 a e g),?_,λE=>by cases E⟩,a,Q d y (N.2 a)⟩
   unfold dV;grind[Nat.beq_refl]
 cases i with
 |none=>
  have O:pre b=l:=by grind[H6]
  exact(C b f r O).tocE ⟨n,λ_ _=>rfl,by grind,λ_ e g=>by grind⟩ a a
 |some d=>exact(qY d y b f r M z x p).tocE ⟨h d,λ_ _=>rfl,by grind,λE=>by cases E⟩ rfl rfl
def y4{t}{pre:Nat->Bool}{b:Option ι}{y:Nat->Bool}(g:b.isSome=y A/\(b=n->∀a,y a=l->pre a=l))(e:A<t)(f:∀a,a<t->y a=l):∃d,b=h d:=by
 cases b with
 |some d=>grind
 |none=>grind
def g.dd(O:P.follows Departure.mixedOrders=l)(A)(pre:Nat->Bool)(r:Nat->y)(u:ι->Nat->y)(d:ι->m aq){id}(z:lw aR.toList=l)(B:o8 aR.toList 0=l)(C:pb F aR.toList=l)(p:Nat.blt A (c aR.toList)=l)(D:pre A=v)(E:oc pre A aR.toList 0=l)(s:q8 q F aR.toList I k r pre aR.toList 0)(qY:∀b,q9 q F aR.toList I (d b) (kV pre r u b) A aR.toList 0)(afn:dX q F aR.toList (aR.toList.getD A ev) (ek aR.toList I r A) k (λb=>kV pre r u b A) d)(M:∀b,g q F be av .normal (oj aR.toList I (kV pre r u b)) (d b)):g q F be (.code (.region id aR l)::av) .normal I k:=by
 have p:=fz p;have:=b1.reg (q:=q) (F:=F) (I:=I) (k:=k) O (all:=aR.toList) (c aR.toList) (λf:Option ι=>f.elim r (kV pre r u)) (λf _=>f.elim k d) (λf y=>f.isSome=y A/\(f=n->∀e,y e=l->pre e=l)) n ⟨rfl,λ_ _ J=>by cases J⟩ a z B C (bC _)
  (λe i j=>absurd j (p_.2 i)) (λf y _ _ e i j=>absurd j (p_.2 i))
  (DS (br:=λb _=>d b) D E (λb e w=>by simp only[kV,w]) (λe t o w=>by have:=s.get e t o N;grind) (λb y e t o x _ _ _=>by have:=(qY b).get e t o N;grind)
   (λt K=>by grind) (λ_ _ _=>rfl))
  (aM:=g q F be av) (λf y Q R=>by obtain⟨b,rfl⟩:=y4 Q p R;rw[uL];exact .nil (M b)) id
 exact wL
end
section
variable {q:af P}
def wx(a:m an)(b:Nat):m Nat->Bool
 |[]=>v
 |d::e=>match en b (da (a.getD d ev).after.toList)with|true=>l|false=>wx a b e
def NV{all}{e}:∀{g:m Nat},wx all e g=l->∃b,b∈g/\en e (da (all.getD b ev).after.toList)=l
 |[],a=>by cases a
 |b::k,a=>by
  simp only[wx]at a;cases f:en e (da (all.getD b ev).after.toList)with
  |true=>exact⟨b,by simp,f⟩
  |false=>
   simp only[f]at a;obtain⟨j,i,d⟩:=NV a;exact⟨j,by simp[i],d⟩
def uT(a:m an):Nat->m Nat->Bool
 |0,_=>l
 |d+1,b=>match en d b with
  |true=>uT a d b
  |false=>match wx a d b with|true=>uT a d b|false=>v
def A6{all}:∀{d:Nat}{e:m Nat},uT all d e=l->∀a,a<d->en a e=l∨∃f,en f e=l/\en a (da (all.getD f ev).after.toList)=l
 |0,_,_,a,k=>by omega
 |d+1,e,b,a,k=>by
  simp[uT]at b;cases i:en d e with
  |true=>
   simp[i]at b;by_cases j:a=d
   .subst j;exact .inl i
   exact A6 b a w
  |false=>
   simp[i]at b;cases g:wx all d e with
   |false=>simp[g]at b
   |true=>
    simp[g]at b;by_cases j:a=d
    .subst j;obtain⟨f,k1,o⟩:=NV g;exact .inr ⟨f,vN k1,o⟩
    exact A6 b a w
def g.hy(G:P.follows Departure.mixedOrders=l)(A last)(pre:Nat->Bool)(r:Nat->y)(u:ι->Nat->y)(j f:ι->m aq){id}(ab:lw aR.toList=l)(ae:o8 aR.toList 0=l)(ah:pb F aR.toList=l)(z:Nat.blt A (c aR.toList)=l)(al:pre A=v)(ar:oc pre A aR.toList 0=l)(aa:ad (last+1) (c aR.toList)=l)(V:uT aR.toList last (da (aR.toList.getD last ev).after.toList)=l)(ai:pre last=v)(au:ad last A=v)(J:q8 q F aR.toList I k r pre aR.toList 0)(qY:∀a,q9 q F aR.toList I (j a) (kV pre r u a) A aR.toList.dropLast 0)(t:dX q F aR.toList (aR.toList.getD A ev) (ek aR.toList I r A) k (λa=>kV pre r u a A) j)(E:∀a,aY q F aR.toList (aR.toList.getD last ev) (ek aR.toList I (kV pre r u a) last) (j a) (u a last) (f a))(p:∀a,g q F be av .normal (oj aR.toList I (kV pre r u a)) (f a)):g q F be (.code (.region id aR l)::av) .normal I k:=by
 have ag:=dp aa;have aw:last≠A:=by grind[Nat.beq_refl]
 have z:=fz z;have:=b1.reg (q:=q) (F:=F) (I:=I) (k:=k) G (all:=aR.toList) (c aR.toList) (λs:Option ι=>s.elim r (kV pre r u)) (λs y=>s.elim k λa=>match y last with|true=>f a|false=>j a) (λs y=>s.isSome=y A/\(s=n->∀e,y e=l->pre e=l)) n ⟨rfl,λ_ _ K=>by cases K⟩ rfl ab ae ah (bC _)
  (λe b i=>absurd i (p_.2 b)) (λs y _ _ e b i=>absurd i (p_.2 b))
  (DS (br:=λa y=>match y last with|true=>f a|false=>j a) al ar (λa e R=>by simp[kV,R]) (λe B o R=>by have:=J.get e B o (by rwa [cZ]);rwa [cZ]at this)
   (λa y e B o Y X D x=>by
    by_cases an:e=last
    .subst an;have b:=E a;rw[show aR.toList.getD e ev=B by simp[aj,o]]at b;simp[D,dV,sM];rw[show kV pre r u a e=u a e by simp[kV,ai]];exact b
    .have M:=(cP.1 o).1;have ak:aR.toList.dropLast[e]?=h B:=N;have b:=(qY a).get e B ak (by rwa [cZ]);rw[cZ]at b;have O:ad last e=v:=um;have C:y last=v:=by
      cases C:y last with
      |false=>rfl
      |true=>
       have W:=bJ (l:=aR.toList) (by omega:last<c aR.toList);have Z:∀p T,aR.toList[p]?=h T->aR.toList.getD p ev=T:=λp T K=>by simp[aj,K]
       rw[Z _ _ W]at V;rcases A6 V e w with i|⟨p,i,U⟩
       .grind [qI]
       have af:=x last _ W C p (qI i);cases ao:aR.toList[p]? with
       |none=>rw[show aR.toList.getD p ev=ev by simp[aj,ao]]at U;simp[ev,da,en]at U
       |some ok=>
        grind[qI]
     simp[dV,O,C];exact b)
   (λB Q=>by rw[show aR.toList.getD A ev=B by simp[aj,Q]]at t;exact t)
   (λa y S=>by
    have C:y last=v:=N
    simp[dV,au,C]))
  (aM:=g q F be av) (λs y H S=>by
   obtain⟨a,rfl⟩:=y4 H z S;rw[uL];simp[Option.elim,S last w]
   exact .nil (p a)) id
 exact wL
end
def jr(a:bD):X:=.string ⟨a.toArray⟩
def Tg{a}{b}(d:a.data.toList=b):Value.string a=jr b:=by subst d;simp[jr]
theorem EK{a}(d:Rd bB aa (.T a)):aa=jr a/\dT aa=l:=by
 cases d with
 |T b _=>exact⟨Tg b,rfl⟩
section
variable {q:af P}{E:Nat->y}{br:(Nat->Bool)->m aq}
def nk:m an->m (m Bool)->m (m Bool)
 |[],x=>x
 |r::ba,x=>d (lQ x (da r.after.toList)) λt=>nk ba (x++[t])
 where d:m Bool->(m Bool->m (m Bool))->m (m Bool)
 |[],bm=>bm []
 |true::ba,bm=>d ba λba=>bm (l::ba)
 |false::ba,bm=>d ba λba=>bm (v::ba)
theorem yD:∀d(a:m Bool->m (m Bool)),nk.d d a=a d
 |[],a=>rfl
 |true::b,a=>by simp[nk.d];rw[yD b]
 |false::b,a=>by simp[nk.d];rw[yD b]
def H5{a:m an}{y:Nat->Bool}(q:∀(b:Nat)d,a[b]?=h d->y b=l->∀g∈da d.after.toList,y g=l):
  ∀k e,(∀j,k[j]?=a[c e+j]?)->(∀(b:Nat) f,e[b]?=h f->∀d,a[b]?=h d->(∀g∈da d.after.toList,y g=l)->∀i,gA f i=l->y i=l) ->
   ∀(b:Nat) (f:m Bool),(nk k e)[b]?=h f->∀d,a[b]?=h d->(∀g∈da d.after.toList,y g=l)->∀i,gA f i=l->y i=l
 |[],e,_,p=>p
 |d::k,e,o,p=>by
  simp[nk];rw[yD];refine H5 q k _ (λj=>?_) ?_
  .have:=o (j+1);grind
  intro b f r;have s:=o 0;simp[ml,kk]at s;rcases Nat.lt_trichotomy b (c e) with u|rfl|t
  .grind
  .rw[hx (bC _)]at r;grind[B_]
  grind
def hy(a:m an)(d e:Nat):Bool:=match(nk a [])[d]? with|some b=>gA b e|none=>v
def GP{y:Nat->Bool}(j:∀(a:Nat)b,all[a]?=h b->y a=l->∀f∈da b.after.toList,y f=l):∀d b,all[d]?=h b->(∀f∈da b.after.toList,y f=l)->∀a,hy all d a=l->y a=l:=by
 intro d b g i a e;unfold hy at e;split at e
 .rename_i t k;exact H5 j all [] D D d t k b g i a e
 grind
def SK{y:Nat->Bool}(k:∀(a:Nat)j,all[a]?=h j->y a=l->∀m∈da j.after.toList,y m=l)(p:y e=v):∀a,(a=e∨hy all a e=l)->y a=v:=by
 intro a i;rcases i with rfl|i
 .exact p
 cases o:y a with
 |false=>rfl
 |true=>
  have b:∃d,all[a]?=h d:=by
   cases b:all[a]? with
   |some d=>grind
   |none=>
    exfalso;have q:c (nk all [])=c all:=by
     have:∀f g,c (nk f g)=c g+c f:=by
      intro f;induction f with
      |nil=>intro g;simp[nk]
      |cons j f r=>intro g;simp[nk];grind[yD]
     grind
    unfold hy at i;grind
  obtain⟨d,b⟩:=b;have:=GP k a d b (k a d b o) e i;grind
def cg(j:af P)(i:Nat)(a:m an)(g:bL)(f:Nat->y)(e:(Nat->Bool)->m aq)(b:Nat)(k:an):Prop:=
 ∀y:Nat->Bool,(∀d,hy a b d=l->y d=l)->(∀d,(d=b∨hy a d b=l)->y d=v)->aY j i a k (ek a g f b) (e y) (f b) (e (dV b y))
def uq{P}(f:af P)(d:Nat)(a:m an)(b:bL)(i:Nat->y)(e:(Nat->Bool)->m aq):m an->Nat->Prop
 |[],_=>True
 |j::k,g=>cg f d a b i e g j/\uq f d a b i e k (g+1)
theorem uq.get{all}:∀{g:m an}{f:Nat},uq q F all I E br g f->∀d b,g[d]?=h b->cg q F all I E br (f+d) b
 |[],_,_,d,b,e=>by grind
 |i::j,f,e,0,b,a=>by simp at a;subst a;exact e.1
 |i::j,f,e,d+1,b,a=>by have:=uq.get e.2 d b N;grind
def g.ca{id}(A:P.follows Departure.mixedOrders=l)(o:Nat->y)(j:(Nat->Bool)->m aq)(C:j (λ_=>v)=k)(t:lw aR.toList=l)(u:o8 aR.toList 0=l)(w:pb F aR.toList=l)(i:uq q F aR.toList I o j aR.toList 0)(D:∀y,(∀e,e<c aR.toList->y e=l)->g q F be av .normal (oj aR.toList I o) (j y)):g q F be (.code (.region id aR l)::av) .normal I k:=by
 have:=b1.reg (q:=q) (F:=F) (I:=I) (k:=k) A (all:=aR.toList) (c aR.toList) (λ_:Unit=>o) (λ_=>j) (λ_ _=>True) () B C t u w (bC _)
  (λe b d=>absurd d (p_.2 b)) (λr y _ _ e b d=>absurd d (p_.2 b))
  (λr y e s _ f _ z x p=>by have b:=i.get e s f;rw[cZ]at b;exact(b y (GP p e s f x) (SK p z)).tocE ⟨(),λ_ _=>rfl,B⟩ a a)
  (aM:=g q F be av) (λr y _ E=>by rw[uL];exact .nil (D y E)) id
 exact wL
end
section
variable {q:af P}{E:Nat->y}{i:Bool->Bool->Bool->m aq}{f1 f2 f3:Nat}
abbrev ln(e:Bool->Bool->Bool->m aq)(a b d:Nat):(Nat->Bool)->m aq:=λy=>e (y a) (y b) (y d)
def pN{y:Nat->Bool}(a:ad u e=v):dV e y u=y u:=by simp only[dV,a]
def E8{y:Nat->Bool}:dV e y e=l:=Aj
def cg.eM(a:ad f1 e=v)(b:ad f2 e=v)(j:ad f3 e=v)(k:∀d f g,aY q F all r (ek all I E e) (i d f g) (E e) (i d f g)):cg q F all I E (ln i f1 f2 f3) e r:=by intro y _ _;show aY q F all r _ (i (y f1) (y f2) (y f3)) _ (i (dV e y f1) (dV e y f2) (dV e y f3));rw[pN a,pN b,pN j];exact k _ _ _
def cg.cN(aZ:bZ P ac:=by exact bc)(lV:a_ q CT:=by first|assumption|exact a_.nil)(s:∀x t O,iJ ac CT [] all (ek all I E e) (i x t O) r=h (E e,n,cq):=by intro x t O;cases x<;>cases t<;>cases O<;>rfl)(c8:ad f1 e=v:=by rfl)(dG:ad f2 e=v:=by rfl)(ap:ad f3 e=v:=by rfl)(cy:U cq:=by simp only[U,a9];omega):cg q F all I E (ln i f1 f2 f3) e r:=.eM c8 dG ap λx t O=>aY.eval aZ lV (s x t O) cy
def cg.ay(aZ:bZ P ac:=by exact bc)(lV:a_ q CT:=by first|assumption|exact a_.nil)(s:∀x t O,iJ ac CT [] all (ek all I E e) (i x t O) r=h (E e,n,[]):=by intro x t O;cases x<;>cases t<;>cases O<;>rfl)(c8:ad f1 e=v:=by rfl)(dG:ad f2 e=v:=by rfl)(ap:ad f3 e=v:=by rfl):cg q F all I E (ln i f1 f2 f3) e r:=.cN (cq:=[]) aZ lV s c8 dG ap B
def cg.d_(d:ad f1 e=l)(p:ad f1 e=l)(b:ad f2 e=v)(j:ad f3 e=v)(o:∀f g,aY q F all r (ek all I E e) (i v f g) (E e) (i l f g)):cg q F all I E (ln i f1 f2 f3) e r:=by intro y _ m;have k:=dp d;subst k;show aY q F all r _ (i (y f1) (y f2) (y f3)) _ (i (dV f1 y f1) (dV f1 y f2) (dV f1 y f3));rw[E8,pN b,pN j,m f1 (.inl a)];exact o _ _
def cg.d'(f:ad f2 e=l)(b:ad f1 e=v)(m:ad f3 e=v)(d:hy all f3 e=l)(p:ad f2 e=l)(o:∀g,aY q F all r (ek all I E e) (i g v v) (E e) (i g l v)):cg q F all I E (ln i f1 f2 f3) e r:=by intro y _ j;have k:=dp f;subst k;show aY q F all r _ (i (y f1) (y f2) (y f3)) _ (i (dV f2 y f1) (dV f2 y f2) (dV f2 y f3));rw[E8,pN b,pN m,j f2 (.inl a),j f3 (.inr d)];exact o _
def cg.ea(j:ad f3 e=l)(b:ad f1 e=v)(d:ad f2 e=v)(g:hy all e f2=l)(p:ad f3 e=l)(o:∀k,aY q F all r (ek all I E e) (i k l v) (E e) (i k l l)):cg q F all I E (ln i f1 f2 f3) e r:=by intro y aZ f;have m:=dp j;subst m;show aY q F all r _ (i (y f1) (y f2) (y f3)) _ (i (dV f3 y f1) (dV f3 y f2) (dV f3 y f3));rw[E8,pN b,pN d,f f3 (.inl a),aZ f2 g];exact o _
end
def xq(a:Nat->Bool):m Nat->Bool
 |[]=>v
 |b::d=>match a b with|true=>l|false=>xq a d
def GG{e:Nat->Bool}:∀{d:m Nat},xq e d=l->∃b∈d,e b=l
 |[],a=>by cases a
 |b::j,a=>by
  simp[xq]at a;split at a
  .grind
  obtain⟨i,f,g⟩:=GG a;grind
def v'(a:m an)(d:Nat):Nat->m Nat->Bool
 |0,b=>en d b
 |f+1,b=>match en d b with|true=>l|false=>xq (λe=>v' a d f (da (a.getD e ev).after.toList)) b
def zm{all}{f}{L:Nat->Prop}(i:∀j,j<c all->L j->∀a∈da (all.getD j ev).after.toList,L a):∀{k:Nat}{d:m Nat},v' all f k d=l->(∀a∈d,L a)->L f
 |0,d,b,e=>e f (qI b)
 |k+1,d,b,e=>by
  simp only[v']at b;split at b
  .grind [qI]
  obtain⟨a,q,g⟩:=GG b;rcases dY a (c all) with o|o
  .exact zm i g (i a o (e a q))
  have:all.getD a ev=ev:=N;rw[this]at g;exact zm i g (λr p=>by simp[ev,da]at p)
def uW(a:m an)(b:Nat)(d:m Nat):Nat->Bool
 |0=>l
 |e+1=>match v' a e b d with|true=>uW a b d e|false=>v
def Bj{all}{g}{d}:∀{b:Nat},uW all g d b=l->∀a,a<b->v' all a g d=l
 |0,_,a,f=>by omega
 |b+1,e,a,f=>by
  simp[uW]at e;split at e
  .rename_i i;by_cases j:a=b
   .grind
   exact Bj e a w
  grind
def vd(a:m an)(d:Nat):Nat->Nat->Bool
 |_,0=>l
 |b,e+1=>match uW a d (da (a.getD b ev).after.toList) b with|true=>vd a d (b+1) e|false=>v
def Cm{all}{f}:∀{b e:Nat},vd all f b e=l->∀a,b<=a->a<b+e->uW all f (da (all.getD a ev).after.toList) a=l
 |b,0,_,a,g,i=>by omega
 |b,e+1,d,a,g,i=>by
  simp[vd]at d;split at d
  .rename_i t;by_cases j:a=b
   .grind
   exact Cm d a w w
  grind
section
variable {q:af P}
def tu(b:Nat)(pre:Nat->Bool)(e:Nat->y)(f:ι->Nat->y)(d:ι)(a:Nat):y:=match Nat.blt a b with|true=>kV pre e f d a|false=>.any
def g.eI(ae:P.follows Departure.mixedOrders=l)(A t U)(pre:Nat->Bool)(j:Nat->y)(z:ι->Nat->y)(e:ι->m aq){id}(S:lw aR.toList=l)(T:o8 aR.toList 0=l)(V:pb F aR.toList=l)(Z:pre A=v)(ab:oc pre A aR.toList 0=l)(R:Nat.blt t (c aR.toList)=l)(f:Nat.blt A t=l)(Y:∀b,pre b=l->b<t)(o:vd aR.toList U t (c aR.toList-t)=l)(x:q8 q F aR.toList I k j pre aR.toList 0)(qY:∀d,q9 q F aR.toList I (e d) (tu t pre j z d) A (aR.toList.take t) 0)(Q:dX q F aR.toList (aR.toList.getD A ev) (ek aR.toList I j A) k (λd=>tu t pre j z d A) e)(E:∀d,g q F be (.al aR.toList (aR.toList.drop t)::av) .normal (oj aR.toList I (tu t pre j z d)) (e d)):g q F be (.code (.region id aR l)::av) .normal I k:=by
 have R:=fz R;have f:=fz f;have:=b1.reg (q:=q) (F:=F) (I:=I) (k:=k) ae (all:=aR.toList) t (λi:Option ι=>i.elim j (tu t pre j z)) (λi _=>i.elim k e) (λi y=>i.isSome=y A/\(i=n->∀b,y b=l->pre b=l)) n ⟨rfl,λ_ _ W=>by cases W⟩ a S T V w
  (λb r B L af p E D=>zm af (Bj (Cm o b r w) E D) p)
  (λi y J K b r B=>by
   obtain⟨d,rfl⟩:=y4 J f K;have:Nat.blt b t=v:=by
    cases C:Nat.blt b t with
    |false=>rfl
    |true=>have:=fz C;omega
   simp[Option.elim,tu,this])
  (DS (br:=λd _=>e d) Z ab (λd b p=>by have:Nat.blt b t=l:=AQ (Y b p);simp[tu,this,kV,p])
   (λb u s p=>by have:=x.get b u s N;grind)
   (λd y b u s O M _ _=>by
    have aa:(aR.toList.take t)[b]?=h u:=N
    have:=(qY d).get b u aa N;grind)
   (λu X=>by grind) (λ_ _ _=>rfl))
  (aM:=g q F be av) (λi y J K=>by obtain⟨d,rfl⟩:=y4 J f K;exact E d) id
 exact wL
end
def ef(b:Nat)(e:ak)(g:X):X->(Nat->Option Obj)->Prop:=λf a=>f=.pointer (h ⟨b,0,n⟩)/\a b=h (.cells #[g] e (0,0))/\∀d,d≠b->a d=n
section
variable {q:af P}
def aY.gl(aZ:bZ P ac){o C}(d){e}(al:oQ all I r=l)(u:r.op=.load o (.global C))(J:db d k=h (.K (ef C W aa)))(s:bX ac o=h e)(ae:dT aa=l)(S:ht e [.c (.val aa)]=h (.Q (.c (.val aa)))):
  aY q F all r I k (ay (.val aa)) k:=by
 intro b T ag E i au ah ar av O D K A;refine ry D K (j5 al _ _ _ ag) λg Y=>?_;have m:=E.rely Y;have aJ:=er J;have an:d<c g.s:=by rw[m.len];grind
 have w:=bJ an;generalize g.s[d]=L at w;obtain⟨af,⟨ai,x,ao⟩,H,Z,aq⟩:=m.box d _ L aJ w;have y:=H C _ x;have G:C∈L.aj:=(Z C).2 N
 have X:T.eval (.global C)=.pointer (h ⟨C,0,n⟩):=rfl;have M:bN k g [aa] [.c (.val aa)]:=⟨Rd.val ae,B⟩;obtain⟨Q,V,R⟩:=tL (b:=g) (k:=k) (P:=P) (aZ o e s) (i:=C) (off:=0) (z:=[aa]) (ah:=[.c (.val aa)]) (ap:=.Q (.c (.val aa))) (λU aw t=>by
  simp only[aI,y]
  grind) M S
 refine⟨.value Q,g,Q,by simp[ab,u,X,Instr.loadAt,Instr.sureAddr,V],.inl a,⟨⟨k,k,m,m,.refl _ _⟩,?_⟩,A Q g R m Y.aT⟩;intro p f;have ak:p∈(loadVar o ⟨C,0,n⟩).events P g.a #[]:=by
  have ap:ab T.eval r=(do pure (.value (<-loadVar o ⟨C,0,n⟩))):=by simp[ab,u,X,Instr.loadAt,Instr.sureAddr]
  rw[ap]at f;simpa[V]using f
 obtain⟨U,t,rfl⟩:=pc (aZ o e s) (j:=1) (λU t=>⟨aa,by simp only[aI,y];grind⟩) (by have:=se S;grind) p ak;exact qp (b' w) G
end
section
variable {q:af P}
def ur{P}(i:af P)(g:Nat)(a:m an)(f:bL)(b:m aq)(e:Nat->y):m y->m an->Nat->Prop
 |_::o,k::j,d=>aY i g a k (ek a f e d) b (e d) b/\ur i g a f b e o j (d+1)
 |[],_,_=>True
 |_::_,[],_=>False
theorem ur.get{all}{o:Nat->y}:∀{i:m y}{j:m an}{g:Nat},ur q F all I k o i j g->∀a e,j[a]?=h e->a<c i->aY q F all e (ek all I o (g+a)) k (o (g+a)) k
 |[],_,_,_,a,e,_,b=>absurd b (iU _)
 |_::i,[],_,f,a,e,_,b=>f.elim
 |p::i,r::j,g,f,0,e,d,_=>by cases d;exact f.1
 |p::i,r::j,g,f,a+1,e,d,b=>by have:=ur.get f.2 a e d N;grind
def g.gf(C:P.follows Departure.mixedOrders=l)(ag)(t){id}(u:lw aR.toList=l)(x:o8 aR.toList 0=l)(z:pb F aR.toList=l)(i:ax (c ag) (c aR.toList)=l)(e:vd aR.toList t (c ag) (c aR.toList-c ag)=l)(f:ur q F aR.toList I k (λd=>ag.getD d .any) ag aR.toList 0)(r:g q F be (.al aR.toList (aR.toList.drop (c ag))::av) .normal (oj aR.toList I λd=>ag.getD d .any) k):g q F be (.code (.region id aR l)::av) .normal I k:=by
 have i:=fz i;have:=b1.reg (q:=q) (F:=F) (I:=I) (k:=k) C (all:=aR.toList) (c ag) (λ_:Unit=>λd=>ag.getD d .any) (λ_ _=>k) (λ_ _=>True) () B a u x z i
  (λd b j L D A r o=>zm D (Bj (Cm e d b w) r o) A)
  (λs y _ _ d b j=>by grind)
  (λs y d E _ p m _ _ _=>by have b:=f.get d E p m;rw[cZ]at b;exact b.tocE ⟨(),λ_ _=>rfl,B⟩ a a)
  (aM:=g q F be av) (λs y _ _=>r) id
 exact wL
end
section
variable {q:af P}
def p1{e:Type}(w:af P)(u:Nat)(k:fD)(t:m iu)(s:e->Prop)(r:e->bL)(p:e->m aq)(q:e->Nat)(x:Nat)(y:e):fD:=λo d f=>match o with
 |.normal=>∃i j,x<=j/\s i/\q i<q y/\iO d (r i)/\qB j (r i)=l/\∃a b,f=a++b/\c a=j/\(kt j a=l/\jY b=l)/\ra a (p i)
 |o=>g w u k t o d f
def g.hi{A:Type}(V:Nat)(z:A->Prop)(e:A->bL)(b_:A->m aq)(S:A->Nat)(f){cT}(y:i' I (e f)=h Z)(ar:U Z)(aF:jw k (b_ f)=h cT)(an:U cT)(aB:c k=V)(H:z f)(round:∀f,z f->g q F (p1 q F be av z e b_ S V f) [.code t] .normal (e f) (b_ f)):g q F be (.code (.loop t)::av) .normal I k:=by
 intro ah aP au s X Q J B b K;have ae:=jX aF an;obtain⟨aL,M,_⟩:=ae ah s;refine xt (λaf d aE=>∃bv,z bv/\bY F (b_ bv) aE (e bv) d/\bb (b_ bv) aE/\dh k ah (b_ bv) aE/\S bv=af) ?_ ?_ ⟨f,H,(au.le (eu y ar)).aj ae s,aL,M.too0 s,a⟩
 .rintro j d aE ⟨bv,p,R,C,O,ap⟩;exact Pa
 rintro af d aE ⟨bv,p,R,C,O,rfl⟩ ay;refine round bv p aE d R C X (.inLoop t::Q) J B b ?_;intro ap aN ak u E ag x r i;cases ap with
 |normal=>
  obtain⟨ai,aG,ab,ao,aD,aC,aO,o,T,rfl,aa,⟨G,al⟩,aI⟩:=ag;have W:=r.drop N;obtain⟨aK,Y,aH⟩:=aI _ W;have f3:=x.le aC;have aw:e9 u (u.cut (c o)):=⟨rfl,λ_ _ _ az=>az,λ_ _ _=>rfl,r.mem,λX b=>b.imp id λ⟨L,aM,b⟩=>⟨L,gN aM,b⟩⟩
  refine .aP aw (ay E (u.cut (c o)) (S ai) aD ⟨ai,ao,⟨f3.size,f3.defers.imp λ_ c8=>(c8.drop al).mono Y.ext,λaJ=>aH _ _ ((f3.aL aJ).drop (vz N))⟩,aK,?_,a⟩);exact((O.trans i).drop w).trans (Y.too0 W)
 |_=>exact kO.cons (λ_ _=>rfl) D (K _ _ _ _ _ ag x r (O.trans i))
def g.ft{e:Type}{p}{o:e->Prop}{a:e->bL}{d:e->m aq}{f:e->Nat}{r}{u}(j)(b){cT}(i:p<=j)(y:i' I (a b)=h Z)(A:U Z)(w:qB j (a b)=l)(s:vT j k=l)(t:jw (k.take j) (d b)=h cT)(B:U cT)(z:kt j (k.take j)=l)(C:o b)(x:f b<f r):
  g q F (p1 q F be u o a d f p r) [] .normal I k:=
 ⟨b,j,i,C,x,eu y A,w,k.take j,k.drop j,(sK j k).symm,by grind[Nat.le_of_ble_eq_true,y6],⟨z,(y6 s).2⟩,jX t B⟩
def g.fF{r:Type}{t}{j:r->Prop}{e:r->bL}{f:r->m aq}{o:r->Nat}{p}{id}{x i y}(s:i5 id x=n)(u:i5 id i=h y)(z:g q F be y .normal I k):
  g q F (p1 q F be i j e f o t p) (.code (.exit id)::x) .normal I k:=
 b1.mono (g.bs (R:=λa b=>p1 q F be i j e f o t p .normal a b) s u z) λd a b A=>by
  have key:∀w d,g q F (λd a b=>match d with
    |.normal=>p1 q F be i j e f o t p .normal a b
    |d=>g q F be i d a b) w d a b->g q F (p1 q F be i j e f o t p) w d a b:=by
   have d:(λd a b=>match d with
    |.normal=>p1 q F be i j e f o t p .normal a b
    |d=>g q F be i d a b)=p1 q F be i j e f o t p:=by funext d a b;cases d<;>rfl
   grind
  exact key _ _ A
end
def dc(d:bL)(a:m Nat):bL:=a.map λb=>(b,look d b)
section
variable {q:af P}
def g.dF{f:Type}(j)(aX)(e:f->Prop)(b:f->bL)(d:f->m aq)(o:f->Nat)(a){cT}(r:i' I (dc I aX++b a)=h Z)(s:U Z)(p:jw k (d a)=h cT)(u:U cT)(i:c k=j)(w:e a)(round:∀a,e a->g q F (mj q F be av e (λa=>dc I aX++b a) d o j a) [.code t] .normal (dc I aX++b a) (d a)):g q F be (.code (.loop t)::av) .normal I k:=
 .aB j e (λa=>dc I aX++b a) d o a r s p u i w round
end
section
variable {q:af P}{E:Nat->y}{ap:Bool->Bool->Bool->Bool->m aq}{f1 f2 f3 f4:Nat}
abbrev mC(f:Bool->Bool->Bool->Bool->m aq)(a b d e:Nat):(Nat->Bool)->m aq:=λy=>f (y a) (y b) (y d) (y e)
theorem NP{y:Nat->Bool}(a:ad u e=v):dV e y u=y u:=by simp only[dV,a]
theorem aet{y:Nat->Bool}:dV e y e=l:=Aj
def cg.jG(g:ad f1 e=v)(i:ad f2 e=v)(k:ad f3 e=v)(j:ad f4 e=v)(m:∀a b d f,aY q F all r (ek all I E e) (ap a b d f) (E e) (ap a b d f)):cg q F all I E (mC ap f1 f2 f3 f4) e r:=by intro y _ _;grind[NP]
def cg.jH(aZ:bZ P ac)(lV:a_ q CT)(cy:U cq)(s:∀x i t O,iJ ac CT [] all (ek all I E e) (ap x i t O) r=h (E e,n,cq):=by intro x i t O;cases x<;>cases i<;>cases t<;>cases O<;>rfl)(c8:ad f1 e=v:=by rfl)(dG:ad f2 e=v:=by rfl)(C:ad f3 e=v:=by rfl)(al:ad f4 e=v:=by rfl):cg q F all I E (mC ap f1 f2 f3 f4) e r:=.jG c8 dG C al λx i t O=>aY.eval aZ lV (s x i t O) cy
def cg.aV(aZ:bZ P ac:=by exact bc)(lV:a_ q CT:=by first|assumption|exact a_.nil)(s:∀x i t O,iJ ac CT [] all (ek all I E e) (ap x i t O) r=h (E e,n,[]):=by intro x i t O;cases x<;>cases i<;>cases t<;>cases O<;>rfl)(c8:ad f1 e=v:=by rfl)(dG:ad f2 e=v:=by rfl)(C:ad f3 e=v:=by rfl)(al:ad f4 e=v:=by rfl):cg q F all I E (mC ap f1 f2 f3 f4) e r:=.jH (cq:=[]) aZ lV B s c8 dG C al
def cg.dX(a:ad f2 f1=v)(f:ad f3 f1=v)(b:ad f4 f1=v)(e:hy all f2 f1=l)(g:hy all f3 f1=l)(d:hy all f4 f1=l)(i:aY q F all r (ek all I E f1) (ap v v v v) (E f1) (ap l v v v)):cg q F all I E (mC ap f1 f2 f3 f4) f1 r:=Ai
def cg.eU(a:ad f1 f2=v)(f:ad f3 f2=v)(d:ad f4 f2=v)(b:hy all f2 f1=l)(g:hy all f3 f2=l)(e:hy all f4 f2=l)(i:aY q F all r (ek all I E f2) (ap l v v v) (E f2) (ap l l v v)):cg q F all I E (mC ap f1 f2 f3 f4) f2 r:=Ai
def cg.eV(a:ad f1 f3=v)(b:ad f2 f3=v)(f:ad f4 f3=v)(g:hy all f3 f1=l)(e:hy all f3 f2=l)(d:hy all f4 f3=l)(i:aY q F all r (ek all I E f3) (ap l l v v) (E f3) (ap l l l v)):cg q F all I E (mC ap f1 f2 f3 f4) f3 r:=Ai
def cg.eW(a:ad f1 f4=v)(b:ad f2 f4=v)(f:ad f3 f4=v)(g:hy all f4 f1=l)(e:hy all f4 f2=l)(d:hy all f4 f3=l)(i:aY q F all r (ek all I E f4) (ap l l l v) (E f4) (ap l l l l)):cg q F all I E (mC ap f1 f2 f3 f4) f4 r:=Ai
end
section
variable {ac:m (Nat×cr)}
def a2.jR(aZ:bZ P ac){T p U X:ae}(af:r.op=.slice o T (h p) (h U) (h X)){G a5}(ah:bX ac o=h G)(L:G.desc=.slice W)(ai:bX ac W=h a5){eQ}{q d m}{e u A}(an:∀ag s,bx k ag s (η T)->Rd ag.D s (.B eQ a5.size j V))(ak:η p=ay (.int q e))(al:η U=ay (.int d u))(aM:η X=ay (.int m A))(Z:0<=e)(aG:e<=u)(av:u<=A)(aw:A<=j):
  a2 P r η k (ay (.B v a5.size (u.toNat-e.toNat) (fH e.toNat V))) k:=by
 refine .aQ λb I az C=>?_;have S:=an b _ (C T);have get:∀g Q s,η g=ay (.int Q s)->I g=.int Q s:=λg Q s y=>by have t:=C g;rw[y]at t;replace t:=b8 t;generalize I g=aC at t;cases t;rfl
 have R:=get p q e ak;have M:=get U d u al;have Y:=get X m A aM;obtain⟨aa,f,z,H,aE,aF,aH,a,aB⟩:=S.b0;rw[H]at S;have K:=(aZ o G ah).run_underlying (p:=b.a);rw[L]at K;have em:((A.toNat:Nat):Int)=A:=rm w;have ar:((u.toNat:Nat):Int)=u:=rm w;have x:(aT l j f (h (.int q e)) (h (.int d u)) (h (.int m A))).run P b.a=.ok (e.toNat,u.toNat,A.toNat) b.a:=by simp[aT,run_sliceBound (P:=P) b.a m A f _ w w,run_sliceBound (P:=P) b.a d u A.toNat _ w w,run_sliceBound (P:=P) b.a q e u.toNat _ Z w]
 have ao:(aT l j f (h (.int q e)) (h (.int d u)) (h (.int m A))).events P b.a #[]=#[]:=by simp[aT,run_sliceBound (P:=P) b.a m A f _ w w,run_sliceBound (P:=P) b.a d u A.toNat _ w w,lk (P:=P) b.a m A f _ w w,lk (P:=P) b.a d u A.toNat _ w w,lk (P:=P) b.a q e u.toNat _ Z w]
 refine⟨.slice (if A.toNat=e.toNat then aa else aa.map (·.add (e.toNat*a5.size))) (u.toNat-e.toNat) (A.toNat-e.toNat),?_,?_,by simp[ab,af,H,R,M,Y,Instr.sliceAt,K,Instr.slice,x,ao]⟩
 .simp[ab,af,H,R,M,Y,Instr.sliceAt,K,Instr.slice,x,(aZ W a5 ai).bb]
 cases S with
 |B aq F au _ _ _ O N B E=>
  refine Rd.B aq (F+e.toNat*a5.size) (λg u=>au (e.toNat+g) u) w w D (λg y=>O _ w) (λaD=>?_) (λg y u J i=>?_) (λg y u J i=>E _ w u J i)
  .rw[bj w,N w];simp[g6]
  have:=B (e.toNat+g) w u J i;grind
end
def jj(i:X)(k:m Int):X->(Nat->Option Obj)->Prop:=λo e=>o=i/\∃j a g,i=.map (h j)/\(∀f,e f=if f=j then h (.map a g)else n)/\MapKept.Stamped a g /\
 (∀d∈a.toList,∃b,d.key=.int .i64 b/\d.val=.bool l/\a7 .i64 b)/\∀b,b∈k↔∃d∈a.toList,d.key=.int .i64 b
structure Sw(k:m aq)(b:a6)(i:Nat)(al:X)(d:m Int)(L:Loc)(ba:Nat)(V:Array MapEntry)(t:Nat):Prop where
 bU:b.s[i]?=h L
 v:L.v=al
 cn:al=.map (h ba)
 a2:MapKept.Stamped V t
 cw:∀ap∈V.toList,∃j,ap.key=.int .i64 j/\ap.val=.bool l/\a7 .i64 j
 mem:∀j,j∈d↔∃ap∈V.toList,ap.key=.int .i64 j
 heap:b.a.heap[ba]?=h (.map V t)
 aj:∀i,i∈L.aj↔i=ba
def jj.open{al}{d}(bQ:bb k b)(o:k[i]?=h (.K (jj al d))):∃L f a g,Sw k b i al d L f a g:=by have e:i<c b.s:=h7;obtain⟨q,⟨j,f,a,g,m,w,r,t,p⟩,s,u,_⟩:=bQ.box i _ _ o (bJ e);exact⟨_,f,a,g,bJ e,j,m,r,t,p,s f _ N,λi=>by grind⟩
section
variable {ac S bm:ak}{E bv eJ:ae}{al:X}{d:m Int}{j:Int}
def KE{b:Array MapEntry}(f:∀a∈b.toList,∃d,a.key=.int .i64 d/\a.val=.bool l/\a7 .i64 d):∀a∈b.toList,MapKept.IsKey (.int .i64) a.key:=λa e=>by obtain⟨d,g,_⟩:=f a e;exact hI
def Eh{al}{a}(e:bx k b aa a)(d:a=cN al):aa=al:=by subst d;exact Rd.bd e
def Me{j}{a}(e:bx k b aa a)(d:a=ay (.int .i64 j)):aa=.int .i64 j/\a7 .i64 j:=by subst d;have:=b8 e;generalize aa=f at this;cases this;exact bw
def a2.jM(w:r.op=.lookup ac E bv v)(aZ:P.underlying ac=h (.map S bm))(e:P.underlying S=h (.int .i64))(T:∀I,(zeroValue bm).run P I=.ok (.bool v) I)(C:k[i]?=h (.K (jj al d)))(Q:η E=cN al)(y:η bv=ay (.int .i64 j)):a2 P r η k (ay (.bool (d.contains j))) k:=by
 refine a2.dr λo Y B q=>?_;obtain⟨L,s,z,aa,b⟩:=jj.open B C;have p:=(Eh (q E) Q).trans b.cn;obtain⟨R,G⟩:=Me (q bv) y;obtain⟨U,x⟩:=J8 (O:=.int .i64) (f:=.int .i64 j) rfl (KE b.cw);have A:ia o ⟨.obj s,v,v⟩:=mA (b' b.bU) ((b.aj s).2 a);have key:∃g:Bool,(Instr.lookup ac (.map (h s)) (.int .i64 j) v).run P o.a=.ok (.bool g) o.a/\(Instr.lookup ac (.map (h s)) (.int .i64 j) v).events P o.a #[]=#[⟨.obj s,v,v⟩]/\g=d.contains j:=by
  cases U with
  |none=>
   obtain⟨m,t⟩:=KU (ok:=v) aZ e b.heap x (λ_=>T o.a)
   exact⟨v,m,t,by
    symm;rw[<-p9,AX,b.mem]
    rintro⟨u,M,e⟩;exact x.c0 a u M e⟩
  |some F=>
   obtain⟨X,g⟩:=F;obtain⟨m,t⟩:=KU (ok:=v) (eJ:=J) aZ e b.heap x (λw=>by cases w);obtain⟨u,V,W,Z⟩:=x.gF X g rfl;have D:u∈z.toList:=N;obtain⟨_,_,H,_⟩:=b.cw u D;exact⟨l,m.trans (show Result.ok g o.a=_ by grind),t,by symm;rw[AX,b.mem];grind⟩
 obtain⟨g,m,t,K⟩:=key;refine⟨.bool g,?_,by rw[<-K];exact Rd.bool,?_⟩
 .simp only[ab,w,p,R,cL,m,c',d_]
 simp only[ab,w,p,R,aC,m,t,aF,Sem.events_pure];exact .Q A
def a2.jN(ae:r.op=.mapUpdate ac E bv eJ)(aZ:P.underlying ac=h (.map S bm))(C:P.underlying S=h (.int .i64))(F:k[i]?=h (.K (jj al d)))(ak:η E=cN al)(ai:η bv=ay (.int .i64 j))(ah:η eJ=ay (.bool l)):a2 P r η k .any (k.set i (.K (jj al (d++[j])))):=by
 intro p J B u;obtain⟨L,m,q,aa,e⟩:=jj.open B F;have z:=(Eh (u E) ak).trans e.cn;obtain⟨Z,aw⟩:=Me (u bv) ai;have Y:J eJ=.bool l:=by have:=u eJ;rw[ah]at this;have:=b8 this;generalize J eJ=X at this;cases this;rfl
 obtain⟨ao,K⟩:=J8 (O:=.int .i64) (f:=.int .i64 j) rfl (KE e.cw);have x:∀X,ia p ⟨.obj m,X,v⟩:=λX=>mA (b' e.bU) ((e.aj m).2 a);have G:=(jl.1 e.heap).1;have key:∃b o,(Instr.mapUpdate ac (.map (h m)) (.int .i64 j) (.bool l)).run P p.a=.ok () {p.a with heap:=p.a.heap.setIfInBounds m (.map b o)}/\(Instr.mapUpdate ac (.map (h m)) (.int .i64 j) (.bool l)).events P p.a #[]=#[⟨.obj m,v,v⟩,⟨.obj m,l,v⟩] /\
   MapKept.Stamped b o/\(∀g∈b.toList,∃j,g.key=.int .i64 j/\g.val=.bool l/\a7 .i64 j)/\∀Q,Q∈d++[j]↔∃g∈b.toList,g.key=.int .i64 Q:=by
  cases ao with
  |none=>
   obtain⟨w,I⟩:=NQ (E:=.bool l) aZ C e.heap K;refine⟨_,_,w,I,MapKept.stamped_push e.a2 (K.c0 a),λg R=>?_,λQ=>?_⟩
   .rw[Array.toList_push,e2]at R;rcases R with R|R
    .exact e.cw g R
    grind
   rw[e2,e.mem,Array.toList_push];constructor
   .rintro(⟨g,t,A⟩|t)
    .grind
    simp_all
   grind
  |some W=>
   obtain⟨V,aq⟩:=W;obtain⟨g,t,A,av⟩:=K.gF V aq rfl;have U:g∈q.toList:=N;obtain⟨_,_,ag,_⟩:=e.cw g U;have ar:q.modify V (λg=>{key:=.int .i64 j,val:=.bool l,born:=g.born})=q:=by
    apply Array.ext_getElem?;intro af;rw[AY];split
    .rename_i bp;subst bp;rw[t,<-A,<-ag];rfl
    simp
   obtain⟨w,I⟩:=NQ (E:=.bool l) aZ C e.heap K;refine⟨q,aa,w.trans (show Result.ok () {p.a with heap:=p.a.heap.setIfInBounds m (.map (q.modify V λg=>{key:=.int .i64 j,val:=.bool l,born:=g.born}) aa)}=_ by grind),I,e.a2,e.cw,λQ=>?_⟩;rw[e2,e.mem];constructor
   .rintro(y|y)
    .exact y
    grind
   grind
 obtain⟨b,o,w,I,an,H,aM⟩:=key;have M:=B.b8 (j':=jj al (d++[j])) (cw:=L) (bi:={p.a with heap:=p.a.heap.setIfInBounds m (.map b o)}) F e.bU rfl D (λi _ s=>by show(p.a.heap.setIfInBounds m _)[i]?=_;rw[sN (by rintro rfl;exact s ((e.aj m).2 rfl))]) (λi s=>.inl s)
  ⟨λi=>if i=m then h (.map b o)else n,⟨e.v,m,b,o,e.cn,λ_=>rfl,an,H,aM⟩,λi au s=>by grind,λi=>by rw[e.aj];by_cases g:i=m<;>simp[g]⟩ a a a
 have T:p.s.set i L=p.s:=by
  apply qa;intro af;by_cases g:i=af
  .subst g;rw[ix (cP.1 e.bU).1,e.bU]
  grind
 rw[T]at M;refine⟨.skip,_,?_,a,M.1,M.2,?_⟩
 .simp only[ab,ae,z,Z,Y,cL,w,c',d_]
 simp only[ab,ae,z,Z,Y,aC,w,I,aF,Sem.events_pure];exact .fo (x _) (x _)
end
section
variable {q:af P}{ac:ak}
def g.hN(p:r.op=.makeMap ac n)(u:r.guard=n)(w:fp F r.dst=l)(x:∀j,g q F be (.al all bq::av) .normal (gh r.dst (cN j) I) (k++[.K (jj j [])])):g q F be (.al all (r::bq)::av) .normal I k:=by
 refine g.cD (ι:=X) (λj=>cN j) (λj=>k++[.K (jj j [])]) u w (λb z D e=>?_) x;let bi:au:={b.a with heap:=b.a.heap.push (.map #[] 0)}
 have A:bi.heap[b.a.heap.size]?=h (.map #[] 0):=N;have B:bi.heap.size=b.a.heap.size+1:=N;obtain⟨t,s⟩:=e.cY (cl:=b.D) (bi:=bi) N (λf d=>by grind) (λ_ _ _=>rfl) (λf d r y i=>by have:=e.block i;omega) rfl rfl rfl;obtain⟨m,t2⟩:=t.bY s rfl e (bU:=.K (jj (.map (h b.a.heap.size)) [])) (L:=⟨.map (h b.a.heap.size),[b.a.heap.size]⟩)
  ⟨λf=>if f=b.a.heap.size then h (.map #[] 0)else n,⟨rfl,_,#[],0,rfl,λ_=>rfl,MapKept.stamped_empty 0,λo E=>by grind,λC=>by simp⟩,λf r d=>by
   grind,λf=>by by_cases o:f=b.a.heap.size<;>simp[o],λf d r=>by
   simp at d;subst d;show b.D _ _=n;cases i:b.D b.a.heap.size r with
   |none=>rfl
   |some y=>have:=e.block i;omega⟩ (λf d=>by grind)
 refine⟨.map (h b.a.heap.size),.value (.map (h b.a.heap.size)),_,.map (h b.a.heap.size),?_,.inl a,Rd.val a,m,t2,?_⟩
 .simp[ab,p,Instr.makeMap,run_newObj,bi]
 simp[ab,p,Instr.makeMap];exact .nil
end
section
variable {ac:m (Nat×cr)}
def a2.hO(aZ:bZ P ac){E p F:ae}(aa:r.op=.slice o E (h p) (h F) n){H a5}(al:bX ac o=h H)(ao:H.desc=.slice W)(au:bX ac W=h a5){C f T}{t s}{e u}(az:η E=cF d (.B C f T j))(O:a5.size=f){aM Q}(B:k[d]?=h (.q aM Q C V))(av:η p=ay (.int t e))(aw:η F=ay (.int s u))(aB:0<=e)(aC:e<=u)(aD:T+u<=C):a2 P r η k (cF d (.B C f (T+e.toNat) (u.toNat-e.toNat))) k:=by
 subst O;refine .aQ λg q N m=>?_;have ak:=m E;rw[az]at ak;have ai:=ak;change cC k g (q E) (.O d _)at ai;obtain⟨S,⟨Z,I,b,Y,X,af,aJ,an,U,G⟩,y,ag⟩:=ai;have aI:C<=Y:=by
  obtain⟨L,ar,R⟩:=(ag _ _ _ _ B).2 rfl;rcases N.box d _ L B ar with⟨rfl,rfl⟩|⟨i,hi,z,aG,rfl,_,_,aq,_⟩
  .exact g5 _
  rw[U]at R;cases R;exact aq
 have D:=m p;rw[av]at D;replace D:=b8 D;generalize ah:q p=aE at D;cases D;have x:=m F;rw[aw]at x;replace x:=b8 x;generalize M:q F=aF at x;cases x;have J:=(aZ o H al).run_underlying (p:=g.a);rw[ao]at J;have A:(aT l j b (h (.int t e)) (h (.int s u)) n).run P g.a=.ok (e.toNat,u.toNat,b) g.a:=by simp[aT,run_sliceBound (P:=P) g.a s u b _ w w,run_sliceBound (P:=P) g.a t e u.toNat _ w w]
 have K:(aT l j b (h (.int t e)) (h (.int s u)) n).events P g.a #[]=#[]:=by
  simp[aT,run_sliceBound (P:=P) g.a s u b _ w w,run_sliceBound (P:=P) g.a t e u.toNat _ w w,
   lk (P:=P) g.a s u b _ w w,lk (P:=P) g.a t e u.toNat _ w w]
 refine⟨.slice (if b=e.toNat then Z else Z.map (·.add (e.toNat*a5.size))) (u.toNat-e.toNat) (b-e.toNat),?_,⟨S,⟨_,I,_,Y,a,by omega,by omega,an,U,λaH=>?_⟩,y,ag⟩,by simp[ab,aa,X,ah,M,Instr.sliceAt,J,Instr.slice,A,K]⟩
 .simp[ab,aa,X,ah,M,Instr.sliceAt,J,Instr.slice,A,(aZ W a5 au).bb]
 obtain⟨i,rfl,rfl⟩:=G w;exact Rm
end
section
open Go.ChangeMaps (setBlock)
section
def Xk(p)(ty)(b i d m)(seen)(V)(clock)(s:p.heap[b]?=h (.mapIter (h i) d seen m))(u:p.heap[i]?=h (.map V clock))(A:∀j∈V.toList,j.born<d)(D:d<=m):
    ∀f∈(Instr.next (.pointer (h ⟨b,0,n⟩)) v ty).events P p #[],f.sync=v/\(f.loc=.obj b∨f.loc=.obj i):=by
  have J:(getObj b).run P p=.ok (.mapIter (h i) d seen m) p:=by simp[getObj,Sem.run,s]
  have F:(getObj i).run P p=.ok (.map V clock) p:=by simp[getObj,Sem.run,u]
  have R:∀V,(getObj b).events P p V=V.push ⟨.obj b,v,v⟩:=λV=>by simp only[getObj,Sem.events,Sem.runT,s];rfl
  have I:∀V,(getObj i).events P p V=V.push ⟨.obj i,v,v⟩:=λV=>by simp only[getObj,Sem.events,Sem.runT,u];rfl
  have K:∀w1 q g,w1.heap[b]?=h (.mapIter (h i) d seen m)->(setObj b (.mapIter (h i) d q clock)).events P w1 g=g.push ⟨.obj b,l,v⟩:=λw1 q g e=>by simp[setObj,Sem.events,Sem.runT,e];rfl
  have z:∀w1 o,w1.heap[b]?=h (.mapIter (h i) d seen m)->∃w2,(setObj b o).run P w1=.ok () w2:=λw1 o e=>⟨{w1 with heap:=w1.heap.setIfInBounds b o},by simp[setObj,Sem.run,e]⟩
  simp only[Instr.next,aC,J,F,R,I,aF,next_test_false seen V d m A D,kh,dn];generalize y:((if(Array.filter (λj=>decide (j.born<d)) (Array.filter (λf=>!seen.contains f.born) V)).isEmpty=l then #[n]else #[])++Array.map h (Array.filter (λj=>decide (j.born<d)) (Array.filter (λf=>!seen.contains f.born) V)++Array.filter (λj=>decide (j.born≥d)) (Array.filter (λf=>!seen.contains f.born) V)))=L;have M:∃r w1,(w1=p∨w1=p.drew)/\(choose (Question.mapNext L.size)).run P p=.ok r w1/\∀V,(choose (Question.mapNext L.size)).events P p V=V:=by
    by_cases w:L.size<=1
    · exact⟨0,p,Or.inl a,by simp[choose,Sem.run,Question.forced,w],λV=>by simp⟩
    · exact⟨_,p.drew,Or.inr a,by simp only[choose,Sem.run,Question.forced,bz,w,dn,Question.cut];rfl,λV=>by simp⟩
  obtain⟨r,w1,E,B,C⟩:=M;have t:w1.heap[b]?=h (.mapIter (h i) d seen m):=by rcases E with rfl|rfl<;>exact s
  simp only[B,C,aF];intro f k;have fin:f∈(#[⟨.obj b,v,v⟩,⟨.obj i,v,v⟩,⟨.obj b,l,v⟩]:Array aO):=by
    cases x:L[r]? with
    |none=>rw[x]at k;simp[stuck,Sem.events,Sem.runT]at k;rcases k with e|e<;>simp[e]
    |some o=>
      rw[x]at k;cases o with
      |none=>simp at k;rcases k with e|e<;>simp[e]
      |some j=>
        obtain⟨w2,N⟩:=z w1 (.mapIter (h i) d (seen.push j.born) clock) t;simp[K w1 _ _ t]at k;rcases k with e|e|e<;>simp[e]
  simp at fin;rcases fin with rfl|rfl|rfl<;>simp
def Vl(p)(a i d)(seen:Array Nat)(V)(clock)(b)(e:p.heap[a]?=h (.mapIter (h i) d (seen.push b.born) clock))(f:p.heap[i]?=h (.map V clock))(q:b∈V.toList)(r:(V.toList.map (·.born)).Nodup):
    (Instr.entry (.pointer (h ⟨a,0,n⟩))).events P p #[]=#[⟨.obj a,v,v⟩,⟨.obj i,v,v⟩]:=by
  have g:V.find? (·.born==b.born)=h b:=by rw[<-Array.find?_toList];grind[find_born]
  have m:(getObj a).run P p=.ok (.mapIter (h i) d (seen.push b.born) clock) p:=by simp[getObj,Sem.run,e]
  have j:(getObj i).run P p=.ok (.map V clock) p:=by simp[getObj,Sem.run,f]
  have o:∀V,(getObj a).events P p V=V.push ⟨.obj a,v,v⟩:=λV=>by simp only[getObj,Sem.events,Sem.runT,e];rfl
  have k:∀V,(getObj i).events P p V=V.push ⟨.obj i,v,v⟩:=λV=>by simp only[getObj,Sem.events,Sem.runT,f];rfl
  simp only[Instr.entry,aC,m,j,o,k,aF,Array.back?_push,iS,kh,dn,g];rfl
def k4(g e:Nat)(b:Array Nat):X->(Nat->Option Obj)->Prop:=λi a=>∃d:Nat,i=.pointer (h ⟨d,0,n⟩)/\a=λf=>if f=d then h (.mapIter (h g) e b e)else n
def uu(H:X->(Nat->Option Obj)->Prop)(e:Nat)(b:Array MapEntry)(d:Nat):Prop:=∀f a,H f a->a e=h (.map b d)
variable {q:af P}
def bb.ec(bQ:bb k b)(aJ:k[d]?=h (.K H)){f}{V}{t}(g:uu H f V t):b.a.heap[f]?=h (.map V t)/\∃L∈b.s,f∈L.aj:=by have e:d<c b.s:=h7;obtain⟨i,a,j,m,o⟩:=bQ.box d _ b.s[d] aJ (bJ e);have:=g _ _ a;grind
def bb.ha(bQ:bb k b){j t}{dz}(aJ:k[d]?=h (.K (k4 j t dz))):∃a:Nat,b.s[d]?=h ⟨.pointer (h ⟨a,0,n⟩),((b.s[d]?).map (·.aj)).getD []⟩/\b.a.heap[a]?=h (.mapIter (h j) t dz t)/\∀L,b.s[d]?=h L->∀e,e∈L.aj↔e=a:=by
  have g:d<c b.s:=h7;have i:=bJ g;obtain⟨m,⟨a,o,p⟩,f,s,r⟩:=bQ.box d _ b.s[d] aJ i;refine⟨a,?_,f a _ N,λL q e=>?_⟩
  · rw[i];simp[<-o]
  grind
def g.range{o N D}{u A}(j:r.op=.range o (.tmp N))(ag:r.dst=h D)(W:r.guard=n)(G:fp F r.dst=l)(E:P.underlying o=h (.map u A)){ba}(Q:∀b m,bY F k b I m->bb k b->m.eval (.tmp N)=.map (h ba)){qH:Nat}{H:X->(Nat->Option Obj)->Prop}{V}{t}(aJ:k[qH]?=h (.K H))(O:uu H ba V t)(ai:g q F be (.al all bq::av) .normal ((D,.n (.Q (.aY (c k))))::I) (k++[.K (k4 ba t #[])])):g q F be (.al all (r::bq)::av) .normal I k:=by
  refine g.cD (ι:=Unit) (λ_=>.n (.Q (.aY (c k)))) (λ_=>k++[.K (k4 ba t #[])]) W G ?_ λ_=>by exact hI
  intro b m M f;have J:=Q b m M f;obtain⟨x,L,af,T⟩:=f.ec aJ O;have B:=run_range_map b.a o u A ba V t E x;have C:(Instr.range o (.map (h ba))).events P b.a #[]=#[⟨.obj ba,v,v⟩]:=by
    have Z:∀V,(getObj ba).events P b.a V=V.push ⟨.obj ba,v,v⟩:=λV=>by simp only[getObj,Sem.events,Sem.runT,x];rfl
    have ae:∀r K V,(newObj r).events P K V=V:=λr K V=>by simp
    simp[Instr.range,run_underlying E,MapKept.run_getObj_map x,Z,ae]
  have ah:∀d,b.a.heap.size<=d->∀r,b.D d r=n:=λd e r=>by
    cases i:b.D d r with
    |none=>rfl
    |some aa=>have:=f.block i;omega
  let bi:au:=b.a.alloc (.mapIter (h ba) t #[] t);have R:bi.heap.size=b.a.heap.size+1:=by show(b.a.heap.push _).size=_;simp
  have ak:bi.heap[b.a.heap.size]?=h (.mapIter (h ba) t #[] t):=lY _ _;obtain⟨y,Y⟩:=f.cY (cl:=b.D) (bi:=bi) w (λd e=>i7 _ _ e) (λ_ _ _=>rfl) (λd e r aa i=>by grind) rfl rfl rfl;obtain⟨p,s⟩:=y.bY (bU:=.K (k4 ba t #[])) (L:=⟨.pointer (h ⟨b.a.heap.size,0,n⟩),[b.a.heap.size]⟩) Y rfl f
    ⟨λd=>if d=b.a.heap.size then h (.mapIter (h ba) t #[] t)else n,⟨_,rfl,rfl⟩,λd r e=>by grind,λd=>by by_cases S:d=b.a.heap.size<;>simp[S],λd e r=>by grind⟩
    (λd e=>by grind)
  refine⟨(),.value (.pointer (h ⟨b.a.heap.size,0,n⟩)),_,.pointer (h ⟨b.a.heap.size,0,n⟩),?_,.inl a,⟨λbU z=>?_,⟨.pointer (h ⟨b.a.heap.size,0,n⟩),[b.a.heap.size]⟩,?_,a,a⟩,p,s,?_⟩
  · simp[ab,j,J,cL,B,c',d_];rfl
  · rw[hx (bC _)]at z;simp at z;subst z;rfl
  · show(b.s++_)[c k]?=_
    rw[<-f.len,hx (bC _)];simp
  · exact yn (dv.of_eq C (.Q (mA af T))) (by simp[ab,j,J])
def bY.j5{d}(f:look I d=cN aa):∀b a,bY F k b I a->bb k b->a.eval (.tmp d)=aa:=λb a e _=>by have:=e.aL d;rw[f]at this;exact Rd.bd this
inductive su (V:Array MapEntry) (dz:Array Nat)
  |over (s:∀ap∈V.toList,ap.born∈dz)
  |Q (ap:MapEntry) (s:ap∈V.toList) (ju:ap.born∉dz)
def su.c'{V}{dz}:su V dz->y
  |.over _=>.S [.Q (.c (.bool v))]
  |.Q a _ _=>.S [.Q (.c (.bool l)),.Q (.v a.key),.Q (.v a.val)]
def su.aW{V}{dz}:su V dz->Array Nat
  |.over _=>dz
  |.Q a _ _=>dz.push a.born
def g.next{A W}{ty}(cy:r.op=.next (.tmp A) v)(aD:r.type=ty)(aa:r.dst=h W)(ae:r.guard=n)(K:fp F r.dst=l){qH ks:Nat}(ah:look I A=.n (.Q (.aY ks))){ba t}{dz}(T:k[ks]?=h (.K (k4 ba t dz))){H:X->(Nat->Option Obj)->Prop}{V}(aJ:k[qH]?=h (.K H))(ag:uu H ba V t)(Z:MapKept.Stamped V t)(ay:∀b∈V.toList,dT b.key=l/\dT b.val=l)(an:∀p:su V dz,g q F be (.al all bq::av) .normal ((W,p.c')::I) (k.set ks (.K (k4 ba t p.aW)))):g q F be (.al all (r::bq)::av) .normal I k:=by
  refine g.cD (ι:=su V dz) (λp=>p.c') (λp=>k.set ks (.K (k4 ba t p.aW))) ae K ?_ λp=>by rw[aa];exact an p
  intro f ak af o;obtain⟨e,i,w,G⟩:=o.ha T;have u:ak.eval (.tmp A)=.pointer (h ⟨e,0,n⟩):=by
    have:=af.aL A;rw[ah]at this;obtain⟨_,L,S,u,_⟩:=(show cC _ f _ (.aY ks)from this)
    rw[i]at S;cases S;exact u
  obtain⟨U,L,S,aC⟩:=o.ec aJ ag;have au:=b' i;have aw:=(G _ i e).2 a;have Y:dv f ((Instr.next (.pointer (h ⟨e,0,n⟩)) v r.type).events P f.a #[]):=by
    intro b z;obtain⟨ar,O|O⟩:=Xk f.a r.type e ba t t dz V t w U Z.1 (bC _) b z
    · obtain⟨M,wr,aM⟩:=b;grind[mA]
    · obtain⟨M,wr,aM⟩:=b;grind[mA]
  have ao:k.set ks (.K (k4 ba t dz))=k:=m3;rcases run_next_at (P:=P) f.a r.type e ba t t dz V t w U Z.1 (bC _)with⟨ai,C⟩|⟨b,z,w1,R,C⟩
  · have aq:∀b∈V.toList,b.born∈dz:=by intro b z;have:=Array.eq_empty_of_size_eq_zero ai;unfold leftOf at this;grind[Array.filter_eq_empty_iff]
    refine⟨.over aq,.value (.tuple #[.bool v]),f,_,?_,.inl a,⟨[.bool v],a,Rd.bool,B⟩,?_,?_,?_⟩
    · simp[ab,cy,u,cL,C,c',d_]
    · show bb (k.set ks (.K (k4 ba t dz))) f
      grind
    · show cO k f (k.set ks (.K (k4 ba t dz))) f
      rw[ao];exact .refl _ _
    · exact yn Y OB
  · have J:b∈V.toList/\b.born∉dz:=by simp[leftOf]at z;grind
    have x:w1.heap=f.a.heap/\w1.os=f.a.os/\w1.tape=f.a.tape/\w1.output=f.a.output:=by rcases R with rfl|rfl<;>exact⟨rfl,rfl,rfl,rfl⟩
    have az:e<f.a.heap.size:=o.lt _ au e aw;have y:e<w1.heap.size:=N;obtain⟨Q,t2⟩:=o.b8 (d:=ks) (j':=k4 ba t (dz.push b.born)) (cw:=⟨.pointer (h ⟨e,0,n⟩),((f.s[ks]?).map (·.aj)).getD []⟩) (bi:=setBlock w1 e (.mapIter (h ba) t (dz.push b.born) t)) T i rfl
      (by simp[setBlock,x.1]) (λm j al=>by
        have aB:e≠m:=N;simp[setBlock]
        grind) (λm j=>.inl j)
      ⟨λm=>if m=e then h (.mapIter (h ba) t (dz.push b.born) t)else n,⟨e,rfl,rfl⟩,λm r j=>by
        by_cases s:m=e
        · subst s
          simp[dw]at j;cases j;simp[setBlock];grind
        grind,λm=>by
        rw[G _ i m]
        by_cases s:m=e<;>simp[s]⟩ (by simp[setBlock,x.2.1]) (by simp[setBlock,x.2.2.1]) (by simp[setBlock,x.2.2.2])
    obtain⟨D,E⟩:=ay b J.1;refine⟨.Q b J.1 J.2,.value (.tuple #[.bool l,b.key,b.val]),_,_,?_,.inl a,⟨[.bool l,b.key,b.val],a,Rd.bool,Rd.val D,Rd.val E,B⟩,Q,t2,?_⟩
    · simp[ab,cy,u,cL,C,c',d_]
    · exact yn Y OB
def g.entry{p u}(i:r.op=.entry (.tmp p))(M:r.dst=h u)(Q:r.guard=n)(z:fp F r.dst=l){qH ks:Nat}(R:look I p=.n (.Q (.aY ks))){ba t:Nat}{dz:Array Nat}{ap:MapEntry}(D:k[ks]?=h (.K (k4 ba t (dz.push ap.born)))){V:Array MapEntry}(aJ:k[qH]?=h (.K H))(J:uu H ba V t)(s:MapKept.Stamped V t)(w:ap∈V.toList){bv:y}(E:∀e:a6,bx k e (.tuple #[ap.key,ap.val]) bv)(S:g q F be (.al all bq::av) .normal ((u,bv)::I) k):g q F be (.al all (r::bq)::av) .normal I k:=by
  refine g.cD (ι:=Unit) (λ_=>bv) (λ_=>k) Q z ?_ λ_=>by exact hI
  intro e A C d;obtain⟨j,b,f,N⟩:=d.ha D;have m:A.eval (.tmp p)=.pointer (h ⟨j,0,n⟩):=by
    have:=C.aL p;rw[R]at this;obtain⟨_,L,o,m,_⟩:=(show cC _ e _ (.aY ks)from this)
    rw[b]at o;cases o;exact m
  obtain⟨x,L,o,B⟩:=d.ec aJ J;have K:=run_entry_at (P:=P) e.a j ba t dz V t ap f x w s.2.1;have O:=Vl (P:=P) e.a j ba t dz V t ap f x w s.2.1;refine⟨(),.value (.tuple #[ap.key,ap.val]),e,_,?_,.inl a,E e,d,.refl _ _,?_⟩
  · simp[ab,i,m,cL,K,c',d_]
  · exact yn (dv.of_eq O (.fo (mA (b' b) ((N _ b j).2 a)) (mA o B))) (by simp[ab,i,m])
end
end
inductive fv where
 |nil (x:Option Addr)
 |row (i cap:Nat)
def c6(b:fv)(f:Nat):X:=match b with
 |.nil d=>.slice d 0 0
 |.row e a=>.slice (h ⟨e,0,n⟩) f a
def tR(bP)(j):dT (c6 bP j)=l:=by cases bP<;>rfl
def E_(a:m X):Nat->m M:=λb=>[.val (a.getD b J)]
section
variable {q:af P}
def b1.e6{aM}{dE:ι->bL}{ar:ι->m aq}(J:∀e f,bY F k e I f->bb k e->∃(b:ι)(a:a6),a.a=e.a/\bY F (ar b) a (dE b) f/\bb (ar b) a/\cO k e (ar b) a)(M:∀b,b1 q F t aM (dE b) (ar b)):b1 q F t aM I k:=by intro e f O d C w o B u s;obtain⟨b,a,N,E,z,y⟩:=J e f O d;have A:=y.too0 d;refine .aP (.of d z N A) ?_;exact M b a f E z C w o B u λD K i x j Q p r g=>s D K i x j Q p r (A.trans g)
def g.gK(d){y:aq}(f:ι->aq)(s:k[d]?=h y)(r:∀i L,eA k i y L->∃j,(∀ar,eA ar i (f j) L)/\fQ y L (f j) L)(D:∀j,g q F be (.code t::av) .normal I (k.set d (f j))):g q F be (.code t::av) .normal I k:=by
 refine b1.e6 (dE:=λ_=>I) (ar:=λj=>k.set d (f j)) (λi M z bQ=>?_) D;have O:d<c k:=(cP.1 s).1;have E:d<c i.s:=h7;have A:=bJ E;generalize i.s[d]=L at A;obtain⟨j,J,Q⟩:=r i L (bQ.box d _ L s A);have w:fw k i (k.set d (f j)) i:=by
  refine⟨λ_ _ _ r=>r,λm o p b e=>?_⟩;by_cases x:d=m
  .subst x;rw[s]at b;cases b;rw[A]at e;cases e;simp_all
  exact⟨o,p,by grind,e,.refl _ _⟩
 have u:cO k i (k.set d (f j)) i:=
  ⟨bC _,λ_ _ _=>rfl,λ_ _ _ r=>r,λ_ _ _ _=>rfl,λL r N C=>.inr ⟨L,r,C⟩,w.box,rfl,rfl,rfl,rfl⟩
 refine⟨j,i,a,⟨z.size,z.defers.imp λ_ B=>B.mono u.ext,λK=>(z.aL K).mono u.ext bQ.len⟩,⟨bQ.mem,by simp[bQ.len],?_,bQ.a4,bQ.lt,bQ.own⟩,u⟩;intro m o p b e;by_cases x:d=m
 .subst x;simp_all
 rw[kJ x]at b;exact(bQ.box m o p b e).cc w bQ.len λ_ _=>⟨a,λ_=>rfl⟩
def g.gx(d)(b:ι->X->(Nat->Option Obj)->Prop)(f:k[d]?=h (.K H))(p:∀j a,H j a->∃e,b e j a)(i:∀e,g q F be (.code t::av) .normal I (k.set d (.K (b e)))):g q F be (.code t::av) .normal I k:=
 g.gK d (λe=>.K (b e)) f (λr L ⟨a,m,o⟩=>let ⟨e,bp⟩:=p _ _ m;⟨e,λ_=>⟨a,bp,o⟩,rfl⟩) i
def g.gL(d){W f}(a:Nat->m M)(x:k[d]?=h (.q W f j V))(J:∀b,b<j->c (a b)=f)(N:∀A b,b<j->∀(i:Nat) p,(a b)[i]?=h p->∃t,(V b)[i]?=h t/\∀o,Rd A o t->Rd A o p)(y:g q F be (.code t::av) .normal I (k.set d (.q W f j a))):g q F be (.code t::av) .normal I k:=by
 refine g.gK (ι:=Unit) d (λ_=>.q W f j a) x (λU L u=>⟨(),λC=>?_,λ_=>rfl,bC _⟩) λ_=>y;rcases u with T|⟨D,Z,z,X,r,s,Y,O,S,B,Q⟩
 .exact .inl T
 refine .inr ⟨D,Z,z,X,r,s,Y,O,S,⟨B.len,J,λb e i p w=>?_⟩,Q⟩;obtain⟨t,aa,R⟩:=N U.D b e i p w;obtain⟨o,K,E⟩:=B.rd b e i t aa;exact⟨o,K,R o E⟩
end
def nv:M->Bool
 |.int _ _|.bool _|.T _|.bp|.bD|.dq|.val _=>l
 |_=>v
def nu:R->Bool
 |.c a=>nv a
 |.any=>l
 |_=>v
def yJ:m R->Bool
 |[]=>l
 |a::b=>match nu a with|true=>yJ b|false=>v
def vu:E1->Bool
 |.Q b=>nu b
 |.agg a=>yJ a
def yI:m E1->Bool
 |[]=>l
 |a::b=>match vu a with|true=>yI b|false=>v
def yH:y->Bool
 |.n b=>vu b
 |.S a=>yI a
 |.any=>l
section
theorem vt{a}{t}(b:nv t=l)(d:Rd bB aa t):Rd a aa t:=by
 cases d<;>first|(simp[nv]at b;done)|skip
 case int c8=>exact .int c8
 case bool=>exact .bool
 case T c8 dG=>exact .T c8 dG
 case bp=>exact .bp
 case bD=>exact .bD
 case dq=>exact .dq
 case val c8=>exact .val c8
def Kc{a}(d:nu a=l)(e:cC k b aa a):cC ar aE aa a:=by
 cases a with
 |c f=>exact vt d e
 |any=>exact e
 |_=>simp[nu]at d
def Ke:∀{z:m X}{a:m R},yJ a=l->bN k b z a->bN ar aE z a
 |[],[],_,_=>trivial
 |[],_::_,_,d=>d.elim
 |_::_,[],_,d=>d.elim
 |i::z,g::a,e,d=>by
  simp[yJ]at e;cases f:nu g with
  |false=>grind
  |true=>simp[f]at e;exact⟨Kc f d.1,Ke e d.2⟩
def Dc{E}(a:vu E=l)(d:eB k b aa E):eB ar aE aa E:=by
 cases E with
 |Q i=>exact Kc a d
 |agg g=>obtain⟨z,e,f⟩:=d;exact⟨z,e,Ke a f⟩
def Kd:∀{z:m X}{a:m E1},yI a=l->e1 k b z a->e1 ar aE z a
 |[],[],_,_=>trivial
 |[],_::_,_,d=>d.elim
 |_::_,[],_,d=>d.elim
 |i::z,g::a,e,d=>by
  simp[yI]at e;cases f:vu g with
  |false=>grind
  |true=>simp[f]at e;exact⟨Dc f d.1,Kd e d.2⟩
def Zn{a}(d:yH a=l)(e:bx k b aa a):bx ar aE aa a:=by
 cases a with
 |n j=>exact Dc d e
 |S i=>obtain⟨z,f,g⟩:=e;exact⟨z,f,Kd d g⟩
 |any=>trivial
end
def qL:m aq->Bool
 |[]=>l
 |.K _::a=>qL a
 |.N::a=>qL a
 |_=>v
def Lq:∀{e:m aq},qL e=l->∀a∈e,(∃H,a=.K H)∨a=.N
 |[],_,a,aJ=>by grind
 |b::f,g,a,aJ=>by
  have d:((∃H,b=.K H)∨b=.N)/\qL f=l:=by cases b<;>simp_all[qL]
  rcases eT.1 aJ with rfl|aJ
  .exact d.1
  exact Lq d.2 a aJ
def AG(i:m aq)(j:Nat)(p:X)(k o:Nat)(g:Nat->m M):Prop:=
 ∀e,bb i e->∃L d,e.s[j]?=h L/\(∀a b f,e.D a b=h f->d a b=h f)/\(∀a,a∉L.aj->∀b,d a b=e.D a b)/\(∀a b f,d a b=h f->e.a.cell? ⟨a,b,n⟩=h f) /\
  (∀a∈L.aj,∀b,e.D a b=n)/\Rd d p (.B v k o g)
section
variable {q:af P}
def b5.hM{k}{b}{i}:∀{z:m X}{a:m y}{S:Nat}{e:X},b5 k b z a->z[S]?=h e->bx k b e i->b5 k b z (a.set S i)
 |[],[],_,_,_,d,_=>by grind
 |[],_::_,_,_,d,_,_=>d.elim
 |_::_,[],_,_,d,_,_=>d.elim
 |o::z,j::a,0,e,d,g,f=>by simp at g;subst g;exact⟨f,d.2⟩
 |o::z,j::a,S+1,e,d,g,f=>⟨d.1,b5.hM (S:=S) d.2 N f⟩
def pW(j:m aq)(k f:m y):Prop:=
 ∀e z,bb j e->b5 j e z k->∃(i:Nat->Prop) (d:Mem),(∀a,i a->∃L∈e.s,a∈L.aj)/\(∀a b g,e.D a b=h g->d a b=h g)/\(∀a,¬i a->∀b,d a b=e.D a b) /\
  (∀a b g,d a b=h g->e.a.cell? ⟨a,b,n⟩=h g)/\(∀a,i a->∀b,e.D a b=n)/\b5 j {e with D:=d} z f
def pW.refl(k)(bh):pW k bh bh:=λe z b d=>⟨λ_=>False,e.D,λ_ a=>a.elim,λ_ _ _ a=>a,λ_ _ _=>rfl,b.mem,λ_ a=>a.elim,d⟩
def pW.step{bh e}(I:pW k bh e)(o T){r}{f}(O:e[o]?=h (cN r))(x:AG k T r f j V):pW k bh (e.set o (ay (.B v f j V))):=by
 classical
 intro q z i y;obtain⟨t,d,aa,Q,W,G,R,B⟩:=I q z i y;obtain⟨L,m,C,H,M,U,X,S⟩:=x q i;have p:∀a b g,d a b=h g->(d a b).or (m a b)=h g:=λa b g s=>by grind
 have w:∀a b g,m a b=h g->(d a b).or (m a b)=h g:=λa b g s=>by
  cases D:d a b with
  |none=>grind
  |some A=>
   grind
 refine⟨λa=>t a∨a∈L.aj,λa b=>(d a b).or (m a b),N,λa b g s=>p a b g (Q a b g s),N,?_,?_,?_⟩
 .intro a b g s;cases D:d a b with
  |none=>grind
  |some A=>grind
 .grind
 have u:fw k {q with D:=d} k {q with D:=λa b=>(d a b).or (m a b)}:=⟨p,λY t L aJ C=>⟨t,L,aJ,C,.refl _ _⟩⟩
 have K:=B.mono u i.len;obtain⟨Z,F⟩:=b5.get B;have E:o<c z:=N;have J:z[o]?=h r:=by have:=F o;rw[O,bJ E]at this;have:=Rd.bd (show Rd d z[o] (.val r)from this);grind
 exact K.hM J (show bx k {q with D:=λa b=>(d a b).or (m a b)} r (ay (.B v f j V))from Rd.mono w S)
end
def cu(j:ak)(i:Nat)(e:fv)(f:Nat)(b:m X):X->(Nat->Option Obj)->Prop:=λp d=>p=.nilFunc/\(∀q∈b,dT q=l)/\c b=f*i/\match e with
 |.nil _=>f=0/\d=λ_=>n
 |.row k a=>f<=a/\a<=9223372036854775807/\∃g,c (b++g)=a*i/\d=λo=>if o=k then h (.cells (b++g).toArray j (0,0))else n
def ma(b:Nat)(a:m X):Nat->m M:=λd=>((a.drop (d*b)).take b).map .val
def NS{f}{ag}(a:c ag=j*f)(bp:e<j):c (ma f ag e)=f:=by have:e*f+f<=j*f:=F4;simp[ma,a];omega
def NR{f}{ag}{t}(b:(ma f ag e)[u]?=h t):∃a,ag[e*f+u]?=h a/\t=.val a:=by simp[ma,nd,iA,p6]at b;grind
def cu.lookup{f cap}{ag}(d:cu W f (.row i cap) j ag aa ld):∃a,c (ag++a)=cap*f/\ld i=h (.cells (ag++a).toArray W (0,0))/\∀b,(ld b).isSome=l↔b=i:=by obtain⟨_,_,_,_,_,a,e,g⟩:=d;grind
def Rd.j6{cap f}{ag}(q:∀s∈ag,dT s=l)(d:c ag=j*f)(g:j<=cap)(p:cap<=9223372036854775807)(u:∀m,bB i m=ag[m]?):Rd bB (.slice (h ⟨i,0,n⟩) j cap) (.B v f j (ma f ag)):=by refine Rd.en (bB:=bB) (f:=f) (j:=j) (V:=ma f ag) (z:=ag) (x:=h ⟨i,0,n⟩) (i:=i) (off:=0) (cap:=cap) (o:=v) ⟨d,λr b=>NS d b,λr b y t e=>?_⟩ bk g p D (λA k w=>by grind);obtain⟨k,a,rfl⟩:=NR e;exact⟨k,a,.val (q k (b' a))⟩
section
variable {q:af P}
def cu.fJ{f d}{bP}{ag}(e:k[d]?=h (.K (cu W f bP j ag)))(V:Nat->m M)(C:∀a,a<j->c (V a)=f/\∀J b g E,(V a)[b]?=h g->ag[a*f+b]?=h E->Rd J E g):AG k d (c6 bP j) f j V:=by
 intro q bQ;have ab:=(cP.1 e).1;have X:d<c q.s:=h7;have r:=bJ X;generalize q.s[d]=L at r;obtain⟨O,H,Q,F,u⟩:=bQ.box d _ L e r;cases bP with
 |nil K=>
  obtain⟨_,_,_,rfl,_⟩:=H;exact⟨L,q.D,r,λ_ _ _ S=>S,λ_ _ _=>rfl,bQ.mem,u,Rd.dI⟩
 |row i cap=>
  obtain⟨ai,af,Z,aa⟩:=H.lookup;obtain⟨ah,G,A,U,R,_⟩:=H;have I:=(F i).2 N
  have Y:=Q i _ Z;obtain⟨s,t⟩:=bQ.fx (i:=i) (z:=ag) (u i I) (λp ao T=>by
   simp[aI,Y]
   grind)
  refine⟨L,λy p=>if y=i then ag[p]? else q.D y p,r,t,λy aM p=>bj N,s.mem,u,?_⟩;refine Rd.en (f:=f) (j:=j) (V:=V) (z:=ag) (x:=h ⟨i,0,n⟩) (i:=i) (off:=0) (cap:=cap) (o:=v) ⟨A,λa bp=>(C a bp).1,λa bp b g w=>?_⟩ bk U R D (λal an ak=>by grind);have ae:b<f:=N;have B:a*f+b<c ag:=by rw[A];have:a*f+f<=j*f:=F4;omega
  exact⟨ag[a*f+b],bJ B,(C a bp).2 _ b g _ w (bJ B)⟩
def ei.fu{f}{E aC:ae}(K:j_ P r E aC W a5)(aa:a5.size=f){bP}{ag}(T:bF I E=cN (c6 bP j))(Y:k[d]?=h (.K (cu W f bP j ag))){sd}{dK:Nat->m M}(bp:bF I aC=ay (.B sd f 1 dK)){h6}(bK:c h6=f)(bC:∀bB g (t:Nat) bt,(dK 0)[t]?=h bt->Rd bB g bt->h6[t]?=h g/\dT g=l)(x:(j+1)*a5.bytes<=140737488355328):
  ei P F r I k (λbf:fv=>cN (c6 bf (j+1))) λbf=>k.set d (.K (cu W f bf (j+1) (ag++h6))):=by
 intro b aD aN bQ;obtain⟨bY,t2,a0,bU,Z,A,G,y,R⟩:=K.op;have bl:=(cP.1 Y).1;have ar:d<c b.s:=h7;have Q:=bJ ar;generalize b.s[d]=L at Q;obtain⟨bS,aB,bN,aK,aF⟩:=bQ.box d _ L Y Q;have bd:=b' Q;have al:=eH aN E;rw[T]at al;have al:=Rd.bd al;have S:=eH aN aC;rw[bp]at S;have S:=b8 S;have aM:=aB.2.1;have H:=aB.2.2.1;have bV:∀i,b.a.heap.size<=i->∀r,b.D i r=n:=λi x r=>by
  cases bm:b.D i r with
  |none=>rfl
  |some g=>have:=bQ.block bm;omega
 have mk:∀q B cap,c6 bP j=.slice B j cap->cap<j+1->bb (k.map λ_=>.N) {b with D:=q}->(∀e r g,b.D e r=h g->q e r=h g) ->
   Rd q (.slice B j cap) (.B v f j (ma f ag))->(∀{O},dv {b with D:=q} O->dv b O) ->
   ∃a0 aw af g,(ab aD.eval r).run P b.a=.ok aw af.a/\(aw=.value g∨(aw=.skip/\g=J))/\bx (k.set d (.K (cu W f a0 (j+1) (ag++h6)))) af g (cN (c6 a0 (j+1)))/\bb (k.set d (.K (cu W f a0 (j+1) (ag++h6)))) af/\cO k b (k.set d (.K (cu W f a0 (j+1) (ag++h6)))) af/\dv b ((ab aD.eval r).events P b.a #[]):=by
  intro q B cap aS s ak aG aH ah;have a4:Rd ({b with D:=q}:a6).D (aD.eval aC) (.B sd a5.size 1 dK):=by rw[aa];exact S.mono aG
  have ai:Rd ({b with D:=q}:a6).D (.slice B j cap) (.B v a5.size j (ma f ag)):=N;obtain⟨z,u,bq,o,X,f3,f4,f5⟩:=wa (P:=P) (b:={b with D:=q}) (ty:=r.type) A G y R K.elem ak ai a4 s x K.bytes;have f6:=vi (P:=P) (b:={b with D:=q}) (ty:=r.type) A G y R K.elem ak ai a4 s x K.bytes;rw[aa]at o f4;have bH:=o.len;have bA:c ag+f=(j+1)*f:=N;have aQ:0<f:=by have:=K.size;omega
  have aJ:∀t,t<f->∃g,z[j*f+t]?=h g/\h6[t]?=h g/\dT g=l:=λt bk=>by
   have aX:=o.bF j w;have aZ:ck j (ma f ag) dK j=dK 0:=by simp[ck]
   rw[aZ]at aX;obtain⟨g,a1,a2⟩:=o.rd j w t ((dK 0)[t]'w) N;grind
  have aU:z=ag++h6:=by
   apply qa;intro V;by_cases bu:V<c ag
   .have A:V / f<j:=sz N;have bE:=uJ V f;have aY:=NS (f:=f) H A;have bw:ck j (ma f ag) dK (V / f)=ma f ag (V / f):=by simp[ck,A]
    have aP:V % f<c (ma f ag (V / f)):=by rw[aY];exact p7 _ aQ
    obtain⟨g,a1,a2⟩:=o.rd (V / f) w (V % f) ((ma f ag (V / f))[V % f]) N;obtain⟨bZ,bW,bX⟩:=NR (bJ aP);grind[Rd.bd]
   grind
  subst aU;have aq:∀E∈h6,dT E=l:=λE T=>by grind[List.getElem_of_mem]
  let bi:au:=b.a.drew.alloc (.cells (ag++h6++u).toArray W);have bn:bi.heap[b.a.heap.size]?=h (.cells (ag++h6++u).toArray W (0,0)):=lY b.a.drew _;have bG:bi.heap.size=b.a.heap.size+1:=Oc;obtain⟨az,bc⟩:=bQ.b8 (d:=d) (j':=cu W f (.row b.a.heap.size bq) (j+1) (ag++h6)) (cw:=⟨L.v,[b.a.heap.size]⟩) (bi:=bi) Y Q rfl w
   (λi x _=>i7 b.a.drew _ x) (λi x=>by grind)
   ⟨λe=>if e=b.a.heap.size then h (.cells (ag++h6++u).toArray W (0,0))else n,⟨aB.1,λE T=>by grind,by grind,X,f3,u,by omega,rfl⟩,λi r x=>by grind,λi=>by by_cases bu:i=b.a.heap.size<;>simp[bu]⟩ a a a
  refine⟨.row b.a.heap.size bq,.value (.slice (h ⟨b.a.heap.size,0,n⟩) (j+1) bq),_,_,?_,.inl a,Rd.val a,az,bc,?_⟩
  .rw[ll Z,al,aS];simp[cL,d_];exact hI
  grind[ll,i4]
 cases bP with
 |nil B=>
  obtain⟨_,_,_,rfl,_⟩:=aB;refine mk b.D B 0 a D (by have:=bQ.dV;omega) (λ_ _ _ K=>K) Rd.dI (λK=>K)
 |row i cap=>
  obtain⟨u,bM,ao,bh⟩:=aB.lookup;obtain⟨aT,_,_,s,br,_⟩:=aB;have a8:i∈L.aj:=(aK i).2 N;have ba:=bN i _ ao;have bs:=aF i a8;have bg:=bQ.lt L bd i a8;have aL:∀r g,ag[r]?=h g->b.a.cell? ⟨i,r,n⟩=h g:=by intro r g Z;simp[aI,ba];grind
  obtain⟨aE,an⟩:=bQ.fx (i:=i) (z:=ag) bs aL;have ah:∀{O:Array aO},dv {b with D:=λe r=>if e=i then ag[r]? else b.D e r} O->dv b O:=λbj=>
   bj.gE (i:=i) bd a8 an λe r g al=>by grind
  have aH:=Rd.j6 (bB:=λe r=>if e=i then ag[r]? else b.D e r) (i:=i) (cap:=cap) (ag:=ag) aM H s br (λr=>by simp);by_cases a_:j+1<=cap
  .have a4:Rd ({b with D:=λe r=>if e=i then ag[r]? else b.D e r}:a6).D (aD.eval aC) (.B sd a5.size 1 dK):=by rw[aa];exact S.mono an
   obtain⟨C,o,X⟩:=Em (P:=P) (b:={b with D:=λe r=>if e=i then ag[r]? else b.D e r}) (ty:=r.type) (j:=j) (i:=i) (cap:=cap) A G y R K.elem aE ba N a4 a_;have f6:=Cx (P:=P) (b:=b) (ty:=r.type) (j:=j) (i:=i) (cap:=cap) A G y R K.elem bQ ba N (E:=aD.eval aC) (sd:=sd) (dK:=dK) N a_ bd a8 (λr _=>bs r);rw[aa]at o X;have aR:c C=f:=by have:=o.len;omega
   have bI:=o.bF 0 w;have aJ:∀t,t<f->∃g,C[t]?=h g/\h6[t]?=h g/\dT g=l:=λt bk=>by obtain⟨g,a1,a2⟩:=o.rd 0 w t ((dK 0)[t]'w) (bJ w);grind
   have bR:C=h6:=m3;subst bR;have aq:∀E∈C,dT E=l:=λE T=>by grind[List.getElem_of_mem]
   have bD:j*f+f<=cap*f:=by rw[<-o3];exact hf _ a_
   have bL:f<=c u:=N;have bO:((ag++u).take (j*f)++C++(ag++u).drop (j*f+c C))=ag++C++u.drop f:=by rw[<-H,aR];simp
   rw[bO]at X;have bo:(b.a.setRow i (ag++C++u.drop f).toArray).heap[i]?=h (.cells (ag++C++u.drop f).toArray W (0,0)):=setRow_heap b.a i _ _ W _ ba;have av:∀e,e≠i->(b.a.setRow i (ag++C++u.drop f).toArray).heap[e]?=b.a.heap[e]?:=λe a3=>setRow_other b.a i e _ a3;obtain⟨az,bc⟩:=bQ.b8 (d:=d) (j':=cu W f (.row i cap) (j+1) (ag++C)) (cw:=L) (bi:=b.a.setRow i (ag++C++u.drop f).toArray) Y Q rfl D
    (λe a3 bT=>av e N) (λe a3=>.inl a3)
    ⟨λe=>if e=i then h (.cells (ag++C++u.drop f).toArray W (0,0))else n,⟨aT,λE T=>by grind,by grind,a_,br,u.drop f,by grind,rfl⟩,λe r a3=>by grind,λe=>by grind⟩ a a a
   refine⟨.row i cap,.value (.slice (h ⟨i,0,n⟩) (j+1) cap),_,_,?_,.inl a,Rd.val a,az,bc,?_⟩
   .rw[ll Z,al];simp only[cL,d_,c6];exact hI
   rw[ll Z,al];exact i4 f6
  exact mk _ (h ⟨i,0,n⟩) cap a w aE an aH ah
def g.fu{f}{x y:ae}(D:j_ P r x y W a5)(J:a5.size=f){u}(C:r.dst=h u)(K:r.guard=n)(O:fp F r.dst=l){bP}{ag}(N:bF I x=cN (c6 bP j))(i:k[d]?=h (.K (cu W f bP j ag))){p}{b:Nat->m M}(E:bF I y=ay (.B p f 1 b)){h6}(A:c h6=f)(B:∀z s (w:Nat) t,(b 0)[w]?=h t->Rd z s t->h6[w]?=h s/\dT s=l)(e:(j+1)*a5.bytes<=140737488355328)(o:∀a:fv,g q F be (.al all bq::av) .normal ((u,cN (c6 a (j+1)))::I) (k.set d (.K (cu W f a (j+1) (ag++h6))))):g q F be (.al all (r::bq)::av) .normal I k:=
 g.cD (ι:=fv) (λa=>cN (c6 a (j+1))) (λa=>k.set d (.K (cu W f a (j+1) (ag++h6)))) K O (.fu D J N i E A B e) λa=>by rw[C];exact o a
def g.jx(o)(W)(f){u}(J:look I o=ay (.B l u 0 V))(s:∀e:fv,g q F be (.code t::av) .normal ((o,cN (c6 e 0))::I) (k++[.K (cu W f e 0 [])])):g q F be (.code t::av) .normal I k:=by
 refine b1.e6 (λy K i b=>?_) s;have x:=i.aL o;rw[J]at x;obtain⟨d,w,z,E,_,_,j,_,_⟩:=(b8 x).b0;have j:=j a;subst j;obtain⟨C,m⟩:=b.bY (bU:=.K (cu W f (.nil d) 0 [])) (L:=⟨.nilFunc,[]⟩) (.refl _ _) rfl b ⟨λ_=>n,⟨rfl,by simp,by simp,rfl,rfl⟩,by simp,by simp,by simp⟩ D;refine⟨.nil d,{y with s:=y.s++[⟨.nilFunc,[]⟩]},rfl,⟨i.size,i.defers.imp λ_ p=>p.mono m.ext,λA=>?_⟩,C,m⟩;simp only[look];cases r:ad o A with
 |false=>exact(i.aL A).mono m.ext b.len
 |true=>
  have B:=dp r;subst B;show Rd _ _ _;rw[E];exact Rd.val a
def g.iA(o d){f}{bP}{ag}(r:Nat->m M)(af:look I o=cN (c6 bP j))(w:k[d]?=h (.K (cu W f bP j ag)))(Z:∀D,D<j->c (r D)=f/\∀X N t V,(r D)[N]?=h t->ag[D*f+N]?=h V->Rd X V t)(K:g q F be (.code t::av) .normal ((o,ay (.B v f j r))::I) (k.set d .N)):g q F be (.code t::av) .normal I k:=by
 refine g.aP (λz ak C e=>?_) K;obtain⟨L,s,T,Q,O,ae,R,ai⟩:=cu.fJ w r Z z e;have Y:=(cP.1 w).1;have S:=C.aL o;rw[af]at S;have y:=Rd.bd S;have B:fw k z (k.set d .N) {z with D:=s}:=by
  refine⟨Q,λp bU cw b lW=>?_⟩;by_cases u:d=p
  .subst u;rw[w]at b;cases b;exact⟨.N,cw,by grind,lW,a⟩
  exact Fv
 have x:cO k z (k.set d .N) {z with D:=s}:=by refine⟨bC _,λ_ _ _=>rfl,Q,λA _ J ab=>O A (J L (b' T)) ab,λL aa A i=>.inr ⟨L,aa,i⟩,B.box,rfl,rfl,rfl,rfl⟩
 refine⟨{z with D:=s},rfl,⟨C.size,C.defers.imp λ_ E=>E.mono x.ext,λU=>?_⟩,⟨ae,by simp[e.len],?_,e.a4,e.lt,e.own⟩,x⟩
 .simp only[look];cases i:ad o U with
  |false=>exact(C.aL U).mono x.ext e.len
  |true=>
   have u:=dp i;subst u;show Rd _ _ _;grind
 intro p bU cw b lW;by_cases u:d=p
 .subst u;rw[ix Y]at b;cases b;trivial
 rw[kJ u]at b;exact(e.box p bU cw b lW).cc B e.len λA i=>⟨a,O A λah=>u (e.a4 d p L cw T lW A ah i)⟩
end
structure eo(f j:Nat)(V:Nat->m M)(ag:m X):Prop where
 len:c ag=j*f
 ez:∀e,e<j->c (V e)=f
 bU:∀e,e<j->∀u t,(V e)[u]?=h t->∃E,ag[e*f+u]?=h E/\∀bB,Rd bB E t
def eo.rd{f}{ag}(k:eo f j V ag):∀a,a<j->c (V a)=f/\∀bB e d i,(V a)[e]?=h d->ag[a*f+e]?=h i->Rd bB i d:=λa b=>
 ⟨k.ez a b,λbB e d i g p=>by obtain⟨q,m,o⟩:=k.bU a b e d g;grind⟩
def Nu(b:X):R->R
 |.x 0 _ _ _=>.v b
 |a=>a
def E3(d:X):E1->E1
 |.Q a=>.Q (Nu d a)
 |b=>b
def E4(a:X):m E1->m E1
 |[]=>[]
 |b::d=>E3 a b::E4 a d
def Nv(b:X):y->y
 |.n d=>.n (E3 b d)
 |.S a=>.S (E4 b a)
 |.any=>.any
def r4(d:Nat):R->Bool
 |.x 0 _ b _=>ad b d
 |a=>nu a
def vU(d:Nat):E1->Bool
 |.Q a=>r4 d a
 |b=>vu b
def vV(a:Nat):m E1->Bool
 |[]=>l
 |b::d=>match vU a b with|true=>vV a d|false=>v
def DT(b:Nat):y->Bool
 |.n d=>vU b d
 |.S a=>vV b a
 |.any=>l
section
variable {f:Nat}{L:Loc}
def aej(t:b.s[0]?=h L){e}(d:r4 j e=l)(i:cC [aq.x W f j V] b aa e):cC ar aE aa (Nu L.v e):=by
 cases e with
 |c x=>exact vt d i
 |any=>exact i
 |x p u w m=>
  cases p with
  |zero=>
   obtain⟨s,_,g⟩:=i;have g:=g W f j V a;have r:=dp d;obtain⟨q,o,k⟩:=g.2 r.symm;rw[t]at o;cases o;show Rd _ _ _;rw[k];exact .val (k▸s.cell)
  |succ p=>simp[r4,nu]at d
 |ptr=>simp[r4,nu]at d
 |aY=>simp[r4,nu]at d
 |O=>simp[r4,nu]at d
def Nx(g:b.s[0]?=h L){E}(d:vU j E=l)(e:eB [aq.x W f j V] b aa E):eB ar aE aa (E3 L.v E):=by
 cases E with
 |Q i=>exact aej g d e
 |agg a=>exact Dc (E:=.agg a) d e
def Ny(g:b.s[0]?=h L):∀{z:m X}{a:m E1},vV j a=l->e1 [aq.x W f j V] b z a->e1 ar aE z (E4 L.v a)
 |[],[],_,_=>trivial
 |[],_::_,_,d=>d.elim
 |_::_,[],_,d=>d.elim
 |o::z,k::a,e,d=>by
  simp[vV]at e;cases i:vU j k with
  |false=>grind
  |true=>simp[i]at e;exact⟨Nx g i d.1,Ny g e d.2⟩
def Nw(d:b.s[0]?=h L){a}(e:DT j a=l)(g:bx [aq.x W f j V] b aa a):bx ar aE aa (Nv L.v a):=by
 cases a with
 |n o=>exact Nx d e g
 |S m=>obtain⟨z,i,k⟩:=g;exact⟨z,i,Ny d e k⟩
 |any=>trivial
end
def zP:m ResultVar->Bool
 |[]=>l
 |.tmp _::a=>zP a
 |.cell _ _::_=>v
def NA{P}{x}:∀{rs:m ResultVar},zP rs=l->∃z,(∀a,(rs.mapM (il x)).run P a=Result.ok z a)/\dA P (rs.mapM (il x))
 |[],_=>⟨[],by simp,by rw[List.mapM_nil];exact .pure⟩
 |.tmp g::f,e=>by
  obtain⟨z,b,d⟩:=NA (P:=P) (x:=x) (rs:=f) e;refine⟨x.tmps.getD g J::z,λa=>?_,?_⟩
  .simp only[o5,cL,il,d_,c',b]
  rw[o5];exact .bind .pure λ_=>.bind d λ_=>.pure
def mg.tmp{j}{fn}{hK}(r:mg P j hK aa b)(F:P.funcs[j]?=h fn)(C:zP fn.results.toList=l)(o:∀p s t,b.D p s=h t->b.a.cell? ⟨p,s,n⟩=h t):mg P j hK aa aE:=by
 obtain⟨k,m,D,A,d,B,u⟩:=r;have f:d=fn:=N;subst f;let x:Act:={tmps:=hK.tmps,defers:=[]}
 obtain⟨z,k1,w⟩:=NA (P:=P) (x:=x) C;have g:∀a,(d.results.mapM (il x)).run P a=Result.ok z.toArray a:=λa=>by grind[Array.mapM_eq_mapM_toList,Sem.run_map,Go.Result.andThen_ok]
 have e:∀a,(results d hK.tmps).run P a=.ok (if r:z.toArray.size=1 then z.toArray[0]else .tuple z.toArray) a:=λa=>by unfold results;rw[cL];refine(eF (λE=>Result.andThen E _) (g a)).trans ?_;simp
 have i:dA P (results d hK.tmps):=by
  unfold results;have f:dA P (d.results.mapM (il x)):=by rw[xk];exact .map w
  exact .bind f λ_=>.pure
 have q:=(u b.a o).1;rw[e]at q;cases q;exact⟨k,m,D,A,d,B,λa _=>⟨e a,λf y=>by rw[i a #[]]at y;grind⟩⟩
def Y.thaw{aO:af P}[aO.b1]{aT}{args}{res}{f}(B:Y aO aT args [] res [.x W f j V]){fn}(al:P.funcs[aT]?=h fn)(ay:zP fn.results.toList=l)(bc:DT j res=l)(aM:∀y,y<j->c (V y)=f/\∀aQ∈V y,nv aQ=l):
  bl (ι:={S:fv×m X // eo f j V S.2}) aO aT args [] (λS=>Nv (c6 S.1.1 j) res) (λS=>[.K (cu W f S.1.1 j S.1.2)]):=by
 refine⟨B.1,λaB z a3 F br aS ag=>B.2 aB z a3 F br aS λZ bm aE au x b d=>?_⟩;have a9:aB.s=[]:=jJ F.len;have a0:c aE.s=1:=b.len;obtain⟨L,bb⟩:∃L,aE.s=[L]:=by
  match afj:aE.s with
  |[L]=>grind
  |[]=>grind
  |_::_::_=>grind
 have aP:aE.s[0]?=h L:=N;obtain⟨ah,ai⟩:=b.box 0 _ L rfl aP;rcases ai with⟨⟨bf,aw⟩,o⟩|⟨i,cap,cells,ae,R,ak,bB⟩
 .subst aw;obtain⟨bd,cap,bn,a5,aX,bg,az,_⟩:=o.b0;have G:cap=0:=az a;subst G;let A:a6:={aE with s:=[⟨.nilFunc,[]⟩]}
  have aY:e9 aE A:=⟨rfl,λ_ _ _ B=>B,λ_ _ _=>rfl,b.mem,λi E=>by grind⟩
  have aL:eo f 0 V []:=⟨by simp,λy r=>by omega,λy r=>by omega⟩
  refine .aP aY (ag ⟨(.nil bd,[]),aL⟩ Z bm A (au.tmp al ay b.mem) ?_ ?_ ?_)
  .have:=Nw (ar:=[aq.K (cu W f (.nil bd) 0 [])]) (aE:=A) aP bc x;rw[a5]at this;exact this
  .refine⟨b.mem,a,λK aN p aJ e=>?_,?_,by grind,λi E=>⟨(b.own i E).1,by grind⟩⟩
   .cases K with
    |zero=>cases aJ;cases e;exact⟨λ_=>n,⟨a,by simp,by simp,a,a⟩,by simp,by simp,by simp⟩
    |succ K=>grind
   grind
  refine⟨d.size,d.a7,d.mem,d.bA,λp e i E=>?_,λK aN p aJ=>by grind,d.os,d.tape,d.output,d.own⟩;grind
 .subst ae;have a':i∈(⟨.slice (h ⟨i,0,n⟩) j cap,[i]⟩:Loc).aj:=D;have aH:aB.a.heap.size<=i:=by
   rcases d.bS _ N i a' with aa|⟨bp,aa,_⟩
   .exact aa
   grind
  have aU:i<aE.a.heap.size:=b.lt _ N i a';obtain⟨bx,aR,C,bs,bk,bq,_,ab,a1⟩:=ah.b0;cases bs;have ba:c C=j*f:=ab.len;have a7:∀u T,C[u]?=h T->cells[u]?=h T:=λu T J=>by obtain⟨bz,a_,aG,bw⟩:=a1 u T J;cases aG;have:=b.mem _ _ _ bw;simp[aI,R]at this;simpa using this
  have bh:j*f<=c cells:=by rw[ak];exact hf _ bk
  have aK:cells.take (j*f)=C:=m3;have a4:C++cells.drop (j*f)=cells:=F6;have aL:eo f j V C:=by refine⟨ba,λy r=>(aM y r).1,λy r bA aQ I=>?_⟩;obtain⟨T,Q,aD⟩:=ab.rd y r bA aQ I;grind[vt]
  have H:∀aF∈C,dT aF=l:=λaF a8=>by
   obtain⟨u,J,rfl⟩:=hd a8;have aZ:0<f:=N;have r:u / f<j:=sz N;have bt:u / f*f+u % f=u:=uJ u f;have I:u % f<c (V (u / f)):=by rw[(aM _ r).1];exact p7 _ aZ
   obtain⟨T,Q,aD⟩:=aL.bU _ r _ _ (bJ I);rw[bt,bJ J]at Q;cases Q;exact(aD aB.D).cell
  have bo:∀g s k,aB.D g s=h k->g≠i:=λg s k av aG=>by have:=F.block av;omega
  let U:Mem:=λg s=>if g=i then n else aE.D g s;let O:a6:={aE with s:=[],own:=λaF=>aE.own aF∨aF=i}
  let aC:a6:={O with D:=U}
  let A:a6:={aE with s:=[⟨.nilFunc,[i]⟩],D:=U}
  have M:∀g s k,U g s=h k->aE.D g s=h k:=λg s k q=>by grind
  have ao:e9 aE O:=⟨rfl,λ_ _ _ B=>B,λ_ _ _=>rfl,b.mem,λg t=>by
   rcases t with(t|t)|⟨p,e,_⟩
   .grind
   .exact .inr ⟨_,by rw[bb];simp;rfl,by grind⟩
   grind⟩
  have an:nY O aC:=⟨rfl,rfl,rfl,M,λg s k q=>by grind⟩
  have bu:e9 aC A:=⟨rfl,λ_ _ _ B=>B,λ_ _ _=>rfl,λg s k q=>b.mem _ _ _ (M _ _ _ q),λg t=>by grind⟩
  refine .aP ao (.b2 af.b1.ok an (.aP bu (ag ⟨(.row i cap,C),aL⟩ Z bm A (au.tmp al ay b.mem) ?_ ?_ ?_)))
  .exact Nw (L:=⟨.slice (h ⟨i,0,n⟩) j cap,[i]⟩) aP bc x
  .refine⟨λg s k q=>b.mem _ _ _ (M _ _ _ q),a,λK aN p aJ e=>?_,?_,λp e g t=>?_,λg t=>⟨(b.own g t).1,λp e=>?_⟩⟩
   .cases K with
    |zero=>
     cases aJ;cases e;refine⟨λg=>if g=i then h (.cells (C++cells.drop (j*f)).toArray W (0,0))else n,⟨a,H,ba,bk,bq,cells.drop (j*f),N,a⟩,λg s t=>N,λg=>?_,λg t s=>?_⟩
     .by_cases aG:g=i<;>simp[aG]
     grind
    |succ K=>grind
   .grind
   .grind
   simp[A]at e;subst e;have:=(b.own g t).2 _ (by rw[bb];simp;rfl);grind
  refine⟨d.size,d.a7,λg s k q=>?_,λg t a2 s=>?_,λp e g t=>?_,λK aN p aJ=>by grind,d.os,d.tape,d.output,d.own⟩
  .simp only[A,U,bj (bo g s k q)];exact d.mem _ _ _ q
  .have:g≠i:=w;simp[A,U,bj this];exact d.bA g t a2 s
  grind
section
variable {q:af P}
def g.iL{d:Prop}(i:∀b,bb k b->d)(j:d->g q F be (.code t::av) .normal I k):g q F be (.code t::av) .normal I k:=
 λb e f a=>j (i b a) b e f a
def g.fC{d:Prop}(i:∀b,bb k b->d)(j:d->g q F be (.al all bq::av) .normal I k):g q F be (.al all bq::av) .normal I k:=
 λb e f a=>j (i b a) b e f a
def cu.len{W}{m e d:Nat}{bP}{ag}(f:k[d]?=h (.K (cu W m bP e ag)))(b)(bQ:bb k b):c ag=e*m/\e<=9223372036854775807/\(0<e->∃i a,bP=.row i a)/\∀g,bP=.nil g->e=0:=by
 have o:d<c b.s:=h7;obtain⟨p,j,_⟩:=bQ.box d _ _ f (bJ o);cases bP with
 |nil g=>obtain⟨_,_,q,rfl,_⟩:=j;grind
 |row i a=>obtain⟨_,_,q,r,s,_⟩:=j;grind
def g.jg(aZ:bZ P ac)(E:Nat){w:ae}{e}{eR}{f}{bP}{ag}(cy:r.op=.call {callee:=.builtin .len,args:=#[w],argTypes:=dt})(N:dt[0]?=h o)(s:bX ac o=h e)(J:e.desc=.slice eR)(R:bF I w=cN (c6 bP j))(t:k[E]?=h (.K (cu W f bP j ag)))(O:r.guard=n)(x:fp F r.dst=l)(u:g q F be (.al all bq::av) .normal (gh r.dst (ay (.int .i64 j)) I) k):g q F be (.al all (r::bq)::av) .normal I k:=by
 refine g.cD (ι:=Unit) (λ_=>ay (.int .i64 j)) (λ_=>k) O x (λm y K i=>?_) λ_=>u;obtain⟨_,B,_,M⟩:=cu.len t m i;have al:=eH K w;rw[R]at al;have al:=Rd.bd al;have A:=(aZ o e s).run_underlying (p:=m.a);rw[J]at A;have C:dt[0]?=h o:=N;have z:∃d b,c6 bP j=.slice d j b:=by
  cases bP with
  |nil d=>rw[M d rfl];exact⟨d,0,a⟩
  |row Q b=>exact⟨_,b,rfl⟩
 obtain⟨d,b,D⟩:=z;rw[D]at al;refine⟨(),.value (.int .i64 j),m,.int .i64 j,RZ,.inl a,Rd.int cV,i,.refl _ _,?_⟩;have:(ab y.eval r).events P m.a #[]=#[]:=RZ;rw[this];exact .nil
def vs:m R->Bool
 |[]=>l
 |.c b::a=>match nv b with|true=>vs a|false=>v
 |_=>v
def m'(z:m X)(a:m R):Prop:=c z=c a/\∀(d:Nat)b,a[d]?=h (R.c b)->∃e,z[d]?=h e/\∀f,Rd f e b
def m'.of{k}{b}:∀{z:m X}{d:m R},vs d=l->bN k b z d->m' z d
 |[],[],_,_=>⟨rfl,λi o e=>by grind⟩
 |[],_::_,_,f=>f.elim
 |_::_,[],_,f=>f.elim
 |r::z,.c s::d,e,f=>by
  simp[vs]at e;cases j:nv s with
  |false=>grind
  |true=>
   simp[j]at e;obtain⟨p,q⟩:=m'.of e f.2;refine⟨by grind,λi o g=>?_⟩;cases i with
   |zero=>simp at g;subst g;exact⟨r,a,λt=>vt j f.1⟩
   |succ i=>grind
 |_::_,.ptr _ _::_,e,_=>by exact cV
 |_::_,.x _ _ _ _::_,e,_=>by exact cV
 |_::_,.aY _::_,e,_=>by exact cV
 |_::_,.O _ _::_,e,_=>by exact cV
 |_::_,.any::_,e,_=>by exact cV
theorem bN.gk{k}{b}:∀{z:m X}{d:m R},bN k b z d->∀f∈z,AM.dT f=l
 |[],[],_,f,e=>by grind
 |[],_::_,a,_,_=>a.elim
 |_::_,[],a,_,_=>a.elim
 |i::z,g::d,a,f,e=>by
  rcases eT.1 e with rfl|e
  .exact cC.cell a.1
  exact bN.gk a.2 f e
def ei.eS(aZ:bZ P ac)(d){S s:ae}{f cap}{ag}{new}{e}(aq:r.op=.store o S s)(Q:bX ac o=h e)(R:bF I S=cN (.pointer (h ⟨i,off,n⟩)))(ah:mt (bF I s)=h new)(Y:c new=e.size)(O:vs new=l)(u:k[d]?=h (.K (cu W f (.row i cap) j ag)))(Z:off+c new<=c ag):
  ei P F r I k (ι:={z:m X // m' z new}) (λ_=>.any) (λz=>k.set d (.K (cu W f (.row i cap) j (ag.take off++z.1++ag.drop (off+c z.1))))):=by
 intro q t K bQ;have w:=eH K S;rw[R]at w;have w:=Rd.bd w;have M:=u_ ah (eH K s);have V:d<c k:=(cP.1 u).1;have aD:d<c q.s:=h7;have T:=bJ aD;generalize q.s[d]=L at T;obtain⟨aJ,C,aN,aH,E⟩:=bQ.box d _ L u T;obtain⟨p,ay,aM,U⟩:=cu.lookup C;obtain⟨aI,aP,aw,G,aG,_⟩:=C;have an:i∈L.aj:=(aH i).2 N;have ai:=aN i _ aM;let z:=(t.eval s).cells.toList;have ao:m' z new:=m'.of O M;have au:c z=c new:=ao.1;have az:off+0+c z<=(ag++p).toArray.size:=N;have al:=run_storeCells_at P i off W z 0 (ag++p).toArray q.a ai az M.cell;simp only[kk]at al;have aB:(ag++p).take off++z++(ag++p).drop (off+c z)=(ag.take off++z++ag.drop (off+c z))++p:=N;rw[aB]at al;have af:c (ag.take off++z++ag.drop (off+c z))=c ag:=N;have aa:=setRow_heap q.a i (ag++p).toArray ((ag.take off++z++ag.drop (off+c z))++p).toArray W (0,0) ai;have y:∀g,g≠i->(q.a.setRow i ((ag.take off++z++ag.drop (off+c z))++p).toArray).heap[g]?=q.a.heap[g]?:=λg A=>setRow_other q.a i g _ A;obtain⟨ak,t2⟩:=bQ.b8 (d:=d) (j':=cu W f (.row i cap) j (ag.take off++z++ag.drop (off+c z))) (cw:=L) (bi:=q.a.setRow i ((ag.take off++z++ag.drop (off+c z))++p).toArray) u T rfl D
  (λg A aL=>y g N) (λg A=>.inl A)
  ⟨λg=>if g=i then h (.cells ((ag.take off++z++ag.drop (off+c z))++p).toArray W (0,0))else n,⟨aI,λS R=>by grind[bN.gk],by grind,G,aG,p,by grind,rfl⟩,λg r A=>by simp_all,λg=>by simp_all⟩ a a a
 have H:(t.eval s).cells.size=e.size:=N;refine⟨⟨z,ao⟩,.skip,_,J,?_,.inr ⟨a,a⟩,B,ak,t2,?_⟩
 .have av:(storeCells ⟨i,off,n⟩ (t.eval s).cells.toList).run P q.a=_:=al;simp[ab,aq,w,Instr.storeAt,Instr.sureAddr,storeVar,(aZ o e Q).bb,H,av]
 intro x b;have aK:ab t.eval r=(do storeVar o ⟨i,off,n⟩ (t.eval s);pure .skip):=by simp[ab,aq,w,Instr.storeAt,Instr.sureAddr]
 rw[aK]at b;have aE:x∈(storeCells ⟨i,off,n⟩ (t.eval s).cells.toList).events P q.a #[]:=by
  simp[storeVar,aC,(aZ o e Q).bb,H,aF,events_sizeOf,d',hG,dn,cL,c',Sem.events_pure]at b;generalize(storeCells ⟨i,off,n⟩ (t.eval s).cells.toList).run P q.a=aO at b;cases aO with
  |ok aR bi=>simpa using b
  |halt S bi=>simpa using b
 rcases np (t.eval s).cells.toList 0 (ag++p).toArray q.a #[] ai az M.cell x aE with ar|⟨aQ,_,_,rfl⟩
 .grind
 exact oi (b' T) an (E i an _)
def g.eS{ac}(aZ:bZ P ac)(d){o}{p s}{W}{f j i cap off}{ag}{new}{e}(y:r.op=.store o p s)(a:bX ac o=h e)(B:bF I p=cN (.pointer (h ⟨i,off,n⟩)))(x:mt (bF I s)=h new)(u:c new=e.size)(w:vs new=l)(b:k[d]?=h (.K (cu W f (.row i cap) j ag)))(t:off+c new<=c ag)(A:r.guard=n)(C:fp F r.dst=l)(m:∀z,m' z new->g q F be (.al all bq::av) .normal (gh r.dst .any I) (k.set d (.K (cu W f (.row i cap) j (ag.take off++z++ag.drop (off+c z)))))):g q F be (.al all (r::bq)::av) .normal I k:=
 g.cD _ _ A C (ei.eS aZ d y a B x u w b t) λz=>m z.1 z.2
def g.swap(e u){i j:X->(Nat->Option Obj)->Prop}(ar:e≠u)(z:k[e]?=h (.K i))(A:k[u]?=h (.K j))(K:∀T p,i T p->T=.nilFunc)(al:∀T p,j T p->T=.nilFunc)(V:g q F be (.code t::av) .normal I ((k.set e (.K j)).set u (.K i))):g q F be (.code t::av) .normal I k:=by
 refine g.aP (λo ay aa bQ=>?_) V;have M:e<c k:=(cP.1 z).1;have R:u<c k:=(cP.1 A).1;have an:e<c o.s:=h7;have aq:u<c o.s:=h7;obtain⟨x,ae⟩:∃L,o.s[e]?=h L:=⟨_,bJ an⟩;obtain⟨C,ag⟩:∃L,o.s[u]?=h L:=⟨_,bJ aq⟩;have y:=bQ.box e _ x z ae;have ab:=bQ.box u _ C A ag;have aw:x.v=.nilFunc:=by obtain⟨p,G,_⟩:=y;grind
 have H:C.v=.nilFunc:=by obtain⟨p,G,_⟩:=ab;grind
 let m:a6:={o with s:=(o.s.set e C).set u x}
 have af:∀b,((k.set e (.K j)).set u (.K i))[b]?=if b=u then h (.K i)else if b=e then h (.K j)else k[b]?:=λb=>by grind
 have W:∀b,m.s[b]?=if b=u then h x else if b=e then h C else o.s[b]?:=λb=>by grind
 have Z:∀L∈m.s,L∈o.s:=λL f=>by grind
 have r:fw k o ((k.set e (.K j)).set u (.K i)) m:=by
  refine⟨λ_ _ _ J=>J,λb U L aJ f=>?_⟩;rw[af,W];by_cases w:b=u
  .subst w;rw[A]at aJ;cases aJ;rw[ag]at f;cases f;exact⟨.K i,x,by simp,by simp,by show x.v=_;grind⟩
  by_cases O:b=e
  .subst O;rw[z]at aJ;cases aJ;rw[ae]at f;cases f;exact⟨.K j,C,by simp[w],by simp[w],by show C.v=_;grind⟩
  exact⟨U,L,by grind,by grind,.refl _ _⟩
 have Y:cO k o ((k.set e (.K j)).set u (.K i)) m:=by exact⟨bC _,λ_ _ _=>rfl,λ_ _ _ J=>J,λ_ _ _ _=>rfl,λL J s d=>.inr ⟨L,Z L J,d⟩,r.box,rfl,rfl,rfl,rfl⟩
 refine⟨m,a,⟨aa.size,aa.defers.imp λ_ K=>K.mono r,λao=>(aa.aL ao).mono r bQ.len⟩,⟨bQ.mem,by simp[m,bQ.len],?_,?_,λL f s d=>bQ.lt L (Z L f) s d,λs d=>⟨(bQ.own s d).1,λL f=>(bQ.own s d).2 L (Z L f)⟩⟩,Y⟩
 .intro b U L aJ f;rw[af]at aJ;rw[W]at f;split at aJ
  .rename_i w;rw[bo w]at f;cases aJ;cases f;exact y
  rename_i w;rw[bj w]at f;split at aJ
  .rename_i O;rw[bo O]at f;cases aJ;cases f;exact ab
  rename_i O;rw[bj O]at f;exact(bQ.box b U L aJ f).cc r bQ.len λs d=>⟨a,λ_=>rfl⟩
 intro b B D E Q S s d N;rw[W]at Q S;have key:∀b L,(if b=u then h x else if b=e then h C else o.s[b]?)=h L->o.s[if b=u then e else if b=e then u else b]?=h L:=λb L az=>by grind
 have:=bQ.a4 _ _ D E (key b D Q) (key B E S) s d N;by_cases ah:b=u<;>by_cases ai:B=u<;>by_cases ak:b=e<;>by_cases au:B=e<;>simp_all
def g.jv(aZ:bZ P ac){S T:ae}{e}{H U}(aD:r.op=.makeSlice o S T)(ah:bX ac o=h e)(aL:e.desc=.slice W)(aa:bX ac W=h a5)(al:bF I S=ay (.int H j))(an:bF I T=ay (.int U j))(i:j*a5.bytes<=140737488355328)(aT:j<=140737488355328)(ag:r.guard=n)(af:fp F r.dst=l)(aq:∀A d,g q F be (.al all bq::av) .normal (gh r.dst (cN (c6 (.row A j) j)) I) (k++[.K (cu W a5.size (.row A j) j d)])):g q F be (.al all (r::bq)::av) .normal I k:=by
 refine g.cD (ι:=Nat×m X) (λx=>cN (c6 (.row x.1 j) j)) (λx=>k++[.K (cu W a5.size (.row x.1 j) j x.2)]) ag af (λb V aC s=>?_) λx=>aq x.1 x.2;have J:=eH aC S;rw[al]at J;have J:=b8 J;generalize az:V.eval S=aN at J;cases J;have K:=eH aC T;rw[an]at K;have K:=b8 K;generalize y:V.eval T=aO at K;cases K;have ao:=(aZ o e ah).et;rw[aL]at ao;obtain⟨B,O,Q,aP,aQ,aB,br,aR,aS⟩:=(aZ W a5 aa).cK;have C:(B.bytes:Int)*(j:Int)<=281474976710656:=N;have aH:=run_make (P:=P) (w:=b.a) o W B O ao Q aB H U j j w (uN _) C w;simp[cR]at aH;let d:=(madeCells O.cells (j*B.size)).toList;have G:c d=j*a5.size:=by grind[size_madeCells]
 have aE:∀E∈O.cells.toList,dT E=l:=bN.gk (uy (k:=k) (b:=b) br);have aG:c O.cells.toList=a5.size:=Ov;have aK:∀E∈d,dT E=l:=by intro E ak;simp[d,madeCells,Array.toList_map,g4]at ak;grind[Nat.mod_lt]
 have aJ:eA (k++[.K (cu W a5.size (.row b.a.heap.size j) j d)]) {b with a:=b.a.alloc (.cells d.toArray W),s:=b.s++[⟨.nilFunc,[b.a.heap.size]⟩]} (.K (cu W a5.size (.row b.a.heap.size j) j d)) ⟨.nilFunc,[b.a.heap.size]⟩:=by
  refine⟨λR=>if R=b.a.heap.size then h (.cells (d++[]).toArray W (0,0))else n,⟨a,aK,G,bC _,by omega,[],by grind,a⟩,λR r C=>?_,λR=>?_,λR C r=>?_⟩
  .by_cases t:R=b.a.heap.size
   .subst t;simp[dw]at C;grind[lY]
   grind
  .by_cases t:R=b.a.heap.size<;>simp[t]
  simp at C;subst C;cases u:b.D b.a.heap.size r with
  |none=>rfl
  |some E=>have:=s.block u;omega
 have M:bb k {b with a:=b.a.alloc (.cells d.toArray W)}/\cO k b k {b with a:=b.a.alloc (.cells d.toArray W)}:=
  s.cY D (λA i=>i7 b.a _ i) (λA i r=>rfl) (λA i r E u=>by have:=s.block u;omega) a a a
 obtain⟨Y,Z⟩:=M.1.bY M.2 rfl s aJ (λA i=>by simp_all);refine⟨(b.a.heap.size,d),.value (.slice (h ⟨b.a.heap.size,0,n⟩) j j),_,_,?_,.inl a,Rd.val a,Y,Z,?_⟩
 .simp[ab,aD,az,y,aH,d]
 have t:ab V.eval r=(do pure (.value (<-Instr.makeSlice o (.int H j) (.int U j)))):=by simp[ab,aD,az,y]
 rw[t];refine i4 ?_;intro t z;have ai:∀f,(underlying o).run P f=.ok (.slice W) f:=λf=>by simp[underlying,ao]
 have aI:∀f,(typeInfo W).run P f=.ok B f:=λf=>by simp[typeInfo,Q]
 have L:∀f,(zeroValue W).run P f=.ok O f:=λf=>by simp[zeroValue,typeInfo,Q,aB]
 have aM:∀f,(sizeOf W).run P f=.ok B.size f:=λf=>by simp[sizeOf,typeInfo,Q]
 have aw:IntKind.i64.wrap (j:Int)=j:=by grind[IntKind.wrap_i64]
 have ar:¬(j:Int)<0:=w;have au:¬(281474976710656<(B.bytes:Int)*j):=w;simp[Instr.makeSlice,ai,aI,aM,asInt,asIntOf,aw,ar,au]at z;rw[L]at z;simp[aF,(dA.newRow (P:=P)) _ _,ite_self]at z;unfold askRoom at z;split at z
 .have:t=⟨.mark .noRoom,v,l⟩:=by simpa using z
  rw[this];exact .inl a
 simp at z
end
section
variable {f O:Nat}{bA:X}
end
def Zm{a z:m α}{b}(f:b+c z<=c a)(d):(a.take b++z++a.drop (b+c z))[d]?=if b<=d/\d<b+c z then z[d-b]? else a[d]?:=by have e:c (a.take b)=b:=N;grind
def eo.fi{f}{d:Nat->m M}{ag}{new}(k:eo f j V ag)(e u)(bp:e<j)(r:m' z new)(D:u+c new<=f)(C:∀a,a<j->a≠e->d a=V a)(x:c (d e)=f)(q:∀b g,(d e)[b]?=h g->(u<=b/\b<u+c new/\new[b-u]?=h (R.c g))∨(¬(u<=b/\b<u+c new)/\(V e)[b]?=h g)):eo f j d (ag.take (e*f+u)++z++ag.drop (e*f+u+c z)):=by
 have J:e*f+f<=j*f:=F4;have I:=r.1;have E:=k.len;have s:e*f+u+c z<=c ag:=w;refine⟨by grind,λa i=>?_,λa i b g B=>?_⟩
 .by_cases o:a=e
  .grind
  rw[C a i o];exact k.ez a i
 rw[Zm s];by_cases o:a=e
 .subst o;rcases q b g B with⟨c8,dG,p⟩|⟨c8,dG⟩
  .rw[bo w,show a*f+b-(a*f+u)=b-u by omega];exact r.2 _ g p
  rw[bj w];exact k.bU a i b g dG
 have A:(V a)[b]?=h g:=N;have F:b<f:=by rw[<-k.ez a i];grind
 rw[bj ?_]
 .exact k.bU a i b g A
 rcases Nat.lt_or_gt_of_ne o with y|t
 .have:a*f+f<=e*f:=by rw[<-o3];exact hf _ y
  omega
 have:e*f+f<=a*f:=by rw[<-o3];exact hf _ t
 omega
def eo.gC{f}{a:Nat->m M}{ag}(g:eo f j V ag)(s:∀b,b<j->a b=V b)(t:c (a j)=f)(y:c z=f)(B:∀(d:Nat)e,(a j)[d]?=h e->∃o,z[d]?=h o/\∀p,Rd p o e):eo f (j+1) a (ag++z):=by
 have u:=g.len;refine⟨by grind,λb k=>?_,λb k d e A=>?_⟩
 .by_cases r:b=j
  .grind
  rw[s b w];exact g.ez b w
 by_cases r:b=j
 .grind
 have i:b<j:=w;have q:(V b)[d]?=h e:=N;have x:d<f:=by rw[<-g.ez b i];grind
 have:b*f+f<=j*f:=by rw[<-o3];exact hf _ i
 rw[jm w];exact g.bU b i d e q
def pC(b:m (Nat×cr))(a:bL):m ResultVar->Option (m y)
 |[]=>h []
 |.tmp i::g=>match pC b a g with
  |some f=>h (look a i::f)
  |none=>n
 |.cell d i::g=>match pC b a g with
  |some f=>match look a d with
   |.n (.Q (.c (.R e)))=>match bX b i with
    |some k=>match ht k (e.map R.c)with
     |some j=>h (.n j::f)
     |none=>n
    |none=>n
   |_=>n
  |none=>n
def Ek{P}{ac}(aZ:bZ P ac){F}{k}{b}{I}{V}(ab:bY F k b I V):∀{S:m ResultVar}{d:m y},pC ac I S=h d ->
  ∃z,b5 k b z d/\∀p,(∀i C T,b.D i C=h T->p.cell? ⟨i,C,n⟩=h T)->(S.mapM (il V)).run P p=Result.ok z p/\∀q,∀A∈(S.mapM (il V)).events P p q,A∈q∨∃i C T,A=⟨.cell ⟨i,C,n⟩,v,v⟩/\b.D i C=h T
 |[],d,o=>by cases o;exact⟨[],B,λp _=>⟨by simp,λq A r=>.inl (by simpa using r)⟩⟩
 |.tmp x::an,d,o=>by
  simp[pC]at o;cases W:pC ac I an with
  |none=>grind
  |some aJ=>
   simp[W]at o;subst o;obtain⟨z,af,aM⟩:=Ek aZ ab W;refine⟨V.tmps.getD x J::z,⟨ab.aL x,af⟩,λp D=>?_⟩;obtain⟨k1,Q⟩:=aM p D;refine⟨by simp[o5,cL,il,d_,c',k1],λq A r=>Q q A ?_⟩;simpa[o5,il,k1]using r
 |.cell u x::an,d,o=>by
  simp[pC]at o;cases W:pC ac I an with
  |none=>grind
  |some aJ=>
   simp[W]at o;have Z:=ab.aL u;generalize look I u=aN at o Z;split at o
   case h_2=>cases o
   rename_i e;cases K:bX ac x with
   |none=>grind
   |some t=>
    simp[K]at o;cases O:ht t (e.map R.c)with
    |none=>grind
    |some ag=>
     simp[O]at o;subst o;obtain⟨z,af,aM⟩:=Ek aZ ab W;have G:=b8 Z;generalize aG:V.tmps.getD u J=aL at G;cases G;rename_i i g X M aq;let U:=(aA (c e)).map X;have H:bN k b U (e.map R.c):=by
      have key:∀j d,(∀f aa,d[f]?=h aa->Rd b.D (X (j+f)) aa)->bN k b ((aA (c d)).map λf=>X (j+f)) (d.map R.c):=by
       intro j d;induction d generalizing j with
       |nil=>intro _;trivial
       |cons aI d ak=>
        intro Y;rw[fe,w_];refine⟨Y 0 aI a,?_⟩;have:=ak (j+1) (λf aa w=>by have:=Y (f+1) aa N;grind);grind[Function.comp_def]
      have:=key 0 e N;grind
     have ay:∀f s,U[f]?=h s->b.D i (g+f)=h s:=λf s w=>by
      simp[U,nd]at w;by_cases ar:f<c e
      .simp[ar]at w;subst w;exact M f e[f] (bJ ar)
      grind
     let ce:au:={b.a with heap:=b.a.heap}
     have aw:∃s,eB k b s ag/\∀p,(∀i C T,b.D i C=h T->p.cell? ⟨i,C,n⟩=h T)->(loadVar x ⟨i,g,n⟩).run P p=.ok s p:=by
      have ae:=aZ x t K;cases E:t.agg<;>simp[ht,E]at O
      .cases av:db 0 (e.map R.c)with
       |none=>grind
       |some aH=>
        simp[av]at O;subst O;obtain⟨s,ai,aD⟩:=H.get (er av);refine⟨s,aD,λp D=>?_⟩;have:=D _ _ _ (ay 0 s ai);simp[loadVar,cL,ae.eu,c',E];grind[run_load]
      cases av:m0 t.size (e.map R.c)with
      |none=>grind
      |some r0=>
       simp[av]at O;subst O;obtain⟨al,aK⟩:=tZ av;have ao:=H.take t.size;rw[<-al]at ao;have ah:c (U.take t.size)=t.size:=N;refine⟨.agg (U.take t.size).toArray,⟨U.take t.size,a,ao⟩,λp D=>?_⟩;have L:=run_loadCells_list (P:=P) p ⟨i,g,n⟩ (U.take t.size) (λf s w=>by grind[g6]);rw[ah]at L;simp[loadVar,cL,ae.eu,c',E];simp[ae.bb,L]
     obtain⟨s,aB,aE⟩:=aw;refine⟨s::z,⟨aB,af⟩,λp D=>?_⟩;obtain⟨k1,Q⟩:=aM p D;have az:(il V (.cell u x))=loadVar x ⟨i,g,n⟩:=by simp[il,aG,asAddr]
     refine⟨by grind[Go.Sem.run_bind,Go.Sem.run_pure,Go.Result.andThen_ok],λq A r=>?_⟩;rw[o5,az]at r;simp[aC,aE p D,aF,k1,Sem.events_pure]at r;rcases Q _ A r with r|r
     .rcases DG r with r|r
      .grind
      obtain⟨f,w,rfl⟩:=pc (aZ x t K) (p:=p) (j:=c e) (λf w=>⟨X f,D _ _ _ (M f e[f] (bJ w))⟩) (by have:=se O;grind) A r;exact .inr ⟨i,g+f,X f,a,M f e[f] (bJ w)⟩
     grind
theorem oV.fb(aZ:bZ P ac){fn}{bh}{o}(t:pC ac I fn.results.toList=h bh)(k:po bh=h o):oV P fn I o:=by
 intro A B x f r;obtain⟨z,i,j⟩:=Ek aZ r t;refine⟨_,KD k i,λe s=>?_⟩;obtain⟨k1,u⟩:=j e s;have g:(fn.results.mapM (il f)).run P e=Result.ok z.toArray e:=R2;have q:∀a,∀d∈(fn.results.mapM (il f)).events P e a,d∈a∨∃m p y,d=⟨.cell ⟨m,p,n⟩,v,v⟩/\x.D m p=h y:=by rw[xk];intro a d b;exact u a d (by simpa using b)
 constructor
 .unfold results;rw[cL];refine(eF (λw=>Result.andThen w _) (Eq.trans ?_ g)).trans ?_
  .congr 2
  simp
 intro d b;have C:d∈(fn.results.mapM (il f)).events P e #[]:=by unfold results at b;rw[aC]at b;change d∈((fn.results.mapM (il f)).run P e).evThen ((fn.results.mapM (il f)).events P e #[]) _ at b;rw[g]at b;simpa using b
 grind
section
variable {q:af P}
def tH(g:m (Nat×cr))(e:m ResultVar)(b:m Nat)(f:bL)(a:y):Option (m Prop):=
 match pC g f e with
 |some d=>match po d with
  |some i=>match hX (c b) a with
   |true=>kw i (fk b a)
   |false=>n
  |none=>n
 |none=>n
def g.cv(aZ:bZ P ac){fn}{d}{res}(aX)(e:tH ac fn.results.toList aX I res=h Z)(o:U Z)(m:dy aX k=h ar)(j:l7 ar=l)(i:fi aX=l)(f:∀b,b<d->aX[b]?=h b):
  g q F (k7 P fn d res ar) (.code .ret::av) .normal I k:=by refine g.ret ⟨.inl a,aX,?_⟩;unfold tH at e;grind[oV.fb]
def Y.bG{i}{fn}{args}{res}(f:P.funcs[i]?=h fn)(e:(fn.name== "runtime.NumGoroutine")=v)(d:fn.body=h t)(m:ax args.length fn.ntmps=l)(o:kG args k->g q fn.ntmps (k7 P fn k.length res ar) [.code t] .normal (h_ 0 args) k):Y q i args k res ar:=by refine⟨⟨fn,f,e,by grind⟩,λj z b a=>?_⟩;have:=bl.jb (q:=q) (ι:=Unit) (ar:=λ_=>ar) (res:=λ_=>res) f e d (fz m) (b1.mono (g.aO (o ⟨j,z,b,a⟩)) λ_ _ _ p=>⟨(),p⟩);exact this.toY.2 j z b a
def bW.mk{fn}{d}{res}(aX)(e:pD fn.results.toList aX I res=h Z)(m:U Z)(j:dy aX k=h ar)(i:l7 ar=l)(g:fi aX=l)(f:∀b,b<d->aX[b]?=h b):bW fn d res ar .ret I k:=by refine⟨.inl a,aX,?_⟩;unfold pD at e;grind
end
def GL{s:af P}{i:aG}{f}{x}{bq}{E}(I:i.kind≠.early)(o:aR[e]?=h r)(W:aP r (yielded aR x.tmps)=l)(F:bb k b)(S:∀u,(ab x.eval r).run P u=.ok (.enter E z.toArray) u)(Q:∀u,(ab x.eval r).events P u #[]=#[])(V:bl s E cS k res aU)(K:b5 k b z cS)(N:∀m q g,bx (aU m) g q (res m)->bb (aU m) g->dh k b (aU m) g->cj s br (G (i.U (x.put r.dst q) (.inRegion aR bq::f)) ah) g):
  cj s br (G (i.U x (.inRegion aR (e::bq)::f)) ah) b:=by
 obtain⟨_,O⟩:=V;refine .next a λD U=>?_;have C:=s.bJ U;have A:=F.rely C;have J:b5 k D z cS:=K.mono C.aT.ext F.len;refine⟨_,D,_,tP o W I (S D.a),?_,O _ z J A br _ λm M q T y j d p=>?_⟩
 .refine⟨⟨k,k,A,A,.refl _ _⟩,dv.seen ?_⟩;rw[Q];exact .nil
 refine uV (ah:=ah) (t:=i.U x (.inRegion aR (e::bq)::f)) d y λR w=>?_;have B:=qs (i:=i) (x:=x) (f:=f) aR e bq q;rw[o]at B;simp only[n5]at B;rw[B];exact N m q R (j.mono w.aT.ext d.len) (d.rely w) (C.aT.trans (p.trans w.aT))
def g.cH{t:af P}{Y:a0}(ae:bl t Y cS k res aU)(aH:r.guard=n)(o:r.op=.call {callee:=.value cQ,args:=ag,argTypes:=dt})(s:g8 (bF I cQ)=h (Y,cap))(aB:l2 (ag.toList.map (bF I)++fg cap) cS=h Z)(y:U Z)(H:fp F r.dst=l)(az:∀d,g t F be (.al all bq::av) .normal (gh r.dst (res d) I) (aU d)):g t F be (.al all (r::bq)::av) .normal I k:=by
 intro ai W q e aq O w ao idx i a C;cases idx with
 |nil=>exact a.elim
 |cons aJ idx=>
 obtain⟨D,a⟩:=a;have ah:=eH q cQ;unfold g8 at s;split at s
 case h_2=>cases s
 case h_1 vl u9 he=>
  cases s;rw[he]at ah;have aa:=b8 ah;generalize V:W.eval cQ=aw at aa;cases aa with
  |fn z b J m au x ay A aF Q=>
   have M:z=[]:=jJ J;subst M;have aC:b5 k ai b (fg cap):=qj (λd ar E=>⟨x d,A d N,Q d ar E⟩) m;have aE:b5 k ai (ag.toList.map W.eval++b) cS:=tm aB y ((m_ (eH q) ag.toList).append aC);obtain⟨fn,ak,ab,X⟩:=ae.1;refine GL i D (jf aH) e (λT=>(mR o ak ab X V T).1) (λT=>(mR o ak ab X V T).2) ae aE λd aK S K j f=>?_;refine az d S _ ?_ j aq O w ao idx i a λan R G u aD f3 B p=>C an R G u aD f3 B (f.trans p);have al:=lh H;cases aI:r.dst with
   |none=>exact q.mono f e.len
   |some aG=>exact(q.mono f e.len).put (al aG aI) K
def MD{k:Type}{d}{E}:∀{a:m Nat}{e g:m k},dy a e=h g->d∉a->dy a (e.set d E)=h g
 |[],e,g,b,_=>b
 |o::a,e,g,b,i=>by
  simp[eT,not_or]at i;simp[dy,lo]at b⊢;rw[kJ i.1];cases f:e[o]? with
  |none=>simp[f]at b
  |some q=>
   simp[f]at b⊢;cases j:dy a e with
   |none=>simp[j]at b
   |some p=>rw[MD j i.2];simp only[j]at b;exact b
def KZ{f}{d}(b:en f d=v):f∉d:=λa=>by rw[vN a]at b;cases b
def y3:Option (Tmp×E1)->m ResultVar
 |none=>[]
 |some a=>[.tmp a.1]
def Ll(a:m R):Option (Tmp×E1)->y
 |none=>.n (.agg a)
 |some b=>.S [.agg a,b.2]
def uA(w:m (Nat×cr))(fn:Func)(x:Nat)(b:y)(g:m aq):fD:=λs r d=>
 (s=.ret∨s=.normal)/\∃a o u e t j f i,∃p:Option (Tmp×E1),(∀q,p=h q->look r q.1=.n q.2)/\fn.results.toList=.cell t j::y3 p/\bX w j=h f/\f.agg=l/\c e=f.size/\look r t=aH o 0/\d[o]?=h (.cells u e)/\o∉a /\
  kw (Ll e p) (fk a b)=h i/\U i/\hX (c a) b=l/\dy a d=h g/\l7 g=l/\fi a=l/\(∀k,k<x->a[k]?=h k)
def bl.jB{q:af P}(aZ:bZ P ac){a2}{fn}{args}{ar:ι->m aq}(pj:P.funcs[a2]?=h fn)(aN:(fn.name== "runtime.NumGoroutine")=v)(cW:fn.body=h t)(bP:args.length<=fn.ntmps)(a4:∀b b8,bY fn.ntmps k b (h_ 0 args) b8->bb k b->∀i ca S (aY:ai->a6->Prop),i.kind≠.early->i.roundOf=n ->
  (∀C ae K aE a0,(∃s,uA ac fn (c k) (res s) (ar s) C ae K)->bY fn.ntmps K aE ae a0->bb K aE->dh k b K aE->kO q aY i ca S C a0 aE)->cj q aY (G (i.U b8 (.code t::ca)) S) b):bl q a2 args k res ar:=by
 refine⟨⟨fn,pj,aN,by rw[cW];rfl⟩,λb z bR bM aY S bI=>?_⟩;obtain⟨bO,bL⟩:=b5.get bR;let i:aG:={fn:=a2,tmps:=#[],todo:=[],defers:=[],mode:=.run,kind:=.normal,roundOf:=n}
 have cb:Frame.enter P a2 z.toArray .normal=i.U {tmps:=z.toArray++Array.replicate (fn.ntmps-z.toArray.size) J,defers:=[]} [.code t]:=Oi;rw[cb];refine a4 b {tmps:=z.toArray++Array.replicate (fn.ntmps-z.toArray.size) J,defers:=[]} ⟨by simp;omega,⟨[],B⟩,λaK=>?_⟩ bM i [] S aY (by simp[i]) rfl ?_
 .rw[yU];simp only[g5,dw,sD];have:=bL aK;rcases dY aK (c z) with b_|b9
  .have C:(z.toArray++Array.replicate (fn.ntmps-z.toArray.size) J).getD aK J=(z[aK]?).getD J:=F1;rw[C];exact this
  rw[w' w];trivial
 .rintro C ae aL e kI ⟨ak,V,aX,d,W,aH,aK,ty,it,Z,r,bT,aR,aS,tC,Ec,bU,bf,bV,bD,bE,bF,a5,a8,bG,cg⟩ f0 O bg;obtain⟨a7,a9⟩:=LU a8;have R:=f0.aL aK;rw[bU]at R;obtain⟨_,L,ea,F,a',aO⟩:=R;obtain⟨cd,A,a_,cc,b6,ck⟩:=O.box d _ L bf F;subst a_;cases a';let cl:Mem:=λy r=>if y=ea then A[r]? else e.D y r;have bp:∀r u,A[r]?=h u->e.a.cell? ⟨ea,r,n⟩=h u:=λr u bQ=>by simpa[aI,cc]using bQ
  have aB:∀y r u,e.D y r=h u->cl y r=h u:=λy r u Y=>by grind
  have au:∀y r u,cl y r=h u->e.a.cell? ⟨y,r,n⟩=h u:=λy r u Y=>by
   by_cases C:y=ea
   .grind
   simp[cl,C,dn]at Y;exact O.mem y r u Y
  obtain⟨U,H⟩:=O.b5 (cl:=cl) (bi:=e.a) (ed:=.N) (cw:=⟨.pointer (h ⟨ea,0,n⟩),[]⟩) bf F rfl (bC _) (λ_ _ _=>rfl) (λy _ aM r=>by grind) aB au D rfl rfl rfl B
  have al:e9 e ⟨e.s.set d ⟨.pointer (h ⟨ea,0,n⟩),[]⟩,cl,e.a,e.own⟩:=⟨rfl,aB,λy aM r=>by
   have:y≠ea:=by rintro rfl;exact aM _ (b' F) D
   simp[cl,this,dn],au,λy aM=>by grind⟩
  have bA:bY fn.ntmps (aL.set d .N) ⟨e.s.set d ⟨.pointer (h ⟨ea,0,n⟩),[]⟩,cl,e.a,e.own⟩ ae kI:=⟨f0.size,f0.defers.imp λ_ bB=>bB.mono H.ext,λI=>(f0.aL I).mono H.ext O.len⟩
  have ag:=MD (E:=aq.N) a5 bV;have aP:bN (aL.set d .N) ⟨e.s.set d ⟨.pointer (h ⟨ea,0,n⟩),[]⟩,cl,e.a,e.own⟩ A aH:=b6.mono H.ext O.len;have b0:=bg.trans (H.too0 O);let bo:X:=match r with|none=>.agg A.toArray|some bd=>.tuple #[.agg A.toArray,kI.tmps.getD bd.1 J]
  have b4:∀p,(∀i r I,cl i r=h I->p.cell? ⟨i,r,n⟩=h I)->(results fn kI.tmps).run P p=.ok bo p/\∀C∈(results fn kI.tmps).events P p #[],∃i r I,C=⟨.cell ⟨i,r,n⟩,v,v⟩/\cl i r=h I:=by
   intro p aQ;have bq:=aZ ty it aS;have aD:c A=it.size:=by rw[b6.cL,Ec]
   have ao:∀s u,A[s]?=h u->p.cell? ⟨ea,0+s,n⟩=h u:=λs u x=>aQ _ _ _ N;have a:=run_loadCells_list (P:=P) p ⟨ea,0,n⟩ A (λs u x=>by rw[g6];exact ao s u x);rw[aD]at a;have az:(loadVar ty ⟨ea,0,n⟩).run P p=.ok (.agg A.toArray) p:=by simp[loadVar,cL,bq.eu,c',tC];simp[bq.bb,a]
   have b7:fn.results=(ResultVar.cell aK ty::y3 r).toArray:=by apply Array.ext';simpa using aR
   have b3:asAddr (kI.tmps[aK]?.getD J)=(pure ⟨ea,0,n⟩:Sem Addr):=by rw[<-hF,aO];rfl
   refine⟨by cases r<;>simp[results,b7,b3,az,bo,y3],λC V=>?_⟩;have ba:C∈(loadVar ty ⟨ea,0,n⟩).events P p #[]:=by cases r<;>simpa[results,b7,b3,az,y3]using V
   obtain⟨s,x,rfl⟩:=pc bq (p:=p) (j:=c A) (λs x=>⟨_,ao s A[s] (bJ x)⟩) (by rw[tC,aD];simp) C ba;exact⟨ea,0+s,A[s],rfl,by grind⟩
  have fin:∀o f,cX (⟨e.s.set d ⟨.pointer (h ⟨ea,0,n⟩),[]⟩,cl,e.a,e.own⟩:a6) f->o.fn=a2->o.tmps=kI.tmps->o.defers=kI.defers->o.mode=.returning->o.kind=.normal->cj q aY (G o S) f:=by
   intro o f g bt bu bw a1 bz;have a3:=bA.rely g U;have aU:=U.rely g;have ab:=b0.trans g.aT;have bW:bx (aL.set d .N) f bo (Ll aH r):=by
    have aC:=aP.mono g.aT.ext U.len;cases r with
    |none=>exact⟨A,rfl,aC⟩
    |some bd=>
     have bc:=a3.aL bd.1;rw[bT bd rfl]at bc;exact⟨[.agg A.toArray,kI.tmps.getD bd.1 J],rfl,⟨A,rfl,aC⟩,bc,B⟩
   obtain⟨ah,bn⟩:=we (kS:=f.s) ag aU.len;have bX:=(pp bD bE bW).sub ag bn bF;obtain⟨cf,bs⟩:=l8 ag;obtain⟨d1,d2⟩:=l8 bn;have br:∀L∈ah,L∈f.s:=Er bn;have av:bb (ar ak) {f with s:=ah}:=by obtain⟨T,_⟩:=aU.sub ag bn a7 bG;refine⟨T.mem,T.len,λs bm L aJ F=>?_,T.a4,T.lt,λi cW=>⟨(aU.own i cW).1,λL F=>(aU.own i cW).2 L (br L F)⟩⟩;exact eA.plain (k:=ar ak) (b:={f with s:=ah,own:=oG f ah}) (aE:={f with s:=ah}) rfl rfl (v8 a7 bm (b' aJ)) (T.box s bm L aJ F)
   have bh:dh k b (ar ak) {f with s:=ah}:=by refine⟨ab.size,ab.a7,ab.mem,ab.bA,λL F i cW=>ab.bS _ (br L F) i cW,λd bm L aJ F=>?_,ab.os,ab.tape,ab.output,ab.own⟩;have bO:d<c k:=(cP.1 aJ).1;obtain⟨ed,cw,cm,cn,cp⟩:=ab.box d bm L aJ F;grind
   obtain⟨bS,ay⟩:=a3.defers;refine Bg bS o f _ aU.dV N a1 (by rw[bw];exact ay.gD aU) λaa Q=>?_;have M:cX {f with s:=ah} {aa with s:=ah}:=by
    refine⟨rfl,Q.D,Q.own,Q.size,λi cW=>Q.a7 i (cW.imp id ?_),Q.mem,Q.os,Q.tape,Q.output⟩;rintro⟨L,F,cW⟩;obtain⟨s,x,rfl⟩:=hd F;have aw:s<c aX:=by rw[<-d1];exact x
    obtain⟨cq,bk,b2⟩:=d2 s _ (bJ aw);obtain⟨E,b1,bj⟩:=bs s _ (bJ aw);rw[bJ x]at bk;cases bk;refine⟨_,_,b2,λbK=>?_,cW⟩;rw[ay.e8 _ bK]at bj;cases bj;exact vQ a9 _ (b' b1) rfl
   have bH:e9 aa {aa with s:=ah}:=⟨rfl,λ_ _ _ a4=>a4,λ_ _ _=>rfl,λi r u Y=>Q.mem i r u (by rw[<-Q.D];exact Y),λi cW=>cW.imp id λ⟨L,F,cW⟩=>⟨L,by rw[Q.s];exact br L F,cW⟩⟩
   have an:f.D=cl:=g.D;refine .aP bH (bI ak _ bo _ ⟨bt,a1,rfl,bz,fn,by grind,λp aQ=>?_⟩ (bX.mono M.aT.ext av.len) (av.rely M) (bh.trans M.aT));show(results fn o.tmps).run P p=_/\∀C∈(results fn o.tmps).events P p #[],_;rw[bu];have aF:∀i r I,cl i r=h I->p.cell? ⟨i,r,n⟩=h I:=λi r I a4=>aQ i r I (by show aa.D i r=h I;rw[Q.D,an];exact a4);refine⟨(b4 p aF).1,λC V=>?_⟩;obtain⟨i,r,I,aR,aS⟩:=(b4 p aF).2 C V;exact⟨i,r,I,aR,by show aa.D i r=h I;rw[Q.D,an];exact aS⟩
  rcases V with rfl|rfl
  .intro pre;exact .aP al (.ctl U rfl (λ_=>Ev rfl) λf g=>fin _ f g rfl rfl (g3 _) rfl rfl)
  exact .aP al (.ctl U rfl (λ_=>Et rfl) λf g=>fin _ f g rfl rfl (g3 _) rfl rfl)
def bl.bG{q:af P}(aZ:bZ P ac){i}{fn}{args}{ar:ι->m aq}(s:P.funcs[i]?=h fn)(r:(fn.name== "runtime.NumGoroutine")=v)(b:fn.body=h t)(C:ax args.length fn.ntmps=l)(D:kG args k->g q fn.ntmps (λB w f=>∃u,uA ac fn k.length (res u) (ar u) B w f) [.code t] .normal (h_ 0 args) k):bl q i args k res ar:=by refine⟨⟨fn,s,r,by rw[b];rfl⟩,λe z d a=>?_⟩;have:=bl.jB (q:=q) (ar:=ar) (res:=res) aZ s r b (fz C) λI y i o A E j x p _ F=>(show b1 q fn.ntmps t _ (h_ 0 args) k from g.aO (D ⟨e,z,d,a⟩)) I y i o A E j x p F;exact this.2 e z d a
def bN.set{k}{b}{i}{aa}:∀{z:m X}{a:m R}{g:Nat},bN k b z a->z[g]?=h aa->cC k b aa i->bN k b z (a.set g i)
 |[],[],_,_,d,_=>by grind
 |[],_::_,_,d,_,_=>d.elim
 |_::_,[],_,d,_,_=>d.elim
 |o::z,j::a,0,d,e,f=>by simp at e;subst e;exact⟨f,d.2⟩
 |o::z,j::a,g+1,d,e,f=>⟨d.1,bN.set d.2 N f⟩
section
variable {q:af P}
def g.cm(d u)(W f)(b:Nat->m M){eR}{ah}{gn}{ar:Nat->m M}(B:db d k=h (.cells eR ah))(A:db u ah=h (.c (.B l gn 0 ar)))(C:g q F be (.code t::av) .normal I ((k++[aq.x W f 0 b]).set d (.cells eR (ah.set u (.x (c k) f 0 b))))):g q F be (.code t::av) .normal I k:=by
 refine g.aP (λe az K bQ=>?_) C;have aJ:=er B;have X:=er A;have G:d<c k:=(cP.1 aJ).1;have ai:d<c e.s:=h7;have E:=bJ ai;generalize e.s[d]=L at E;obtain⟨s,z,au,Z,S,U⟩:=bQ.box d _ L aJ E;obtain⟨i,Y,V⟩:=S.get X;have j:Rd e.D i (.B l f 0 b):=(Rd.fS (f:=gn) (gn:=f) (.inr a) V).cA λR ae=>by omega
 have an:eA (k++[aq.x W f 0 b]) {e with s:=e.s++[⟨i,[]⟩]} (.x W f 0 b) ⟨i,[]⟩:=⟨j.ei,.inl ⟨⟨rfl,rfl⟩,j⟩⟩;obtain⟨H,O⟩:=bQ.bY (.refl _ _) rfl bQ an D
 have y:(k++[aq.x W f 0 b])[d]?=h (.cells eR ah):=N;have al:(e.s++[(⟨i,[]⟩:Loc)])[d]?=h L:=N;have ag:(e.s++[(⟨i,[]⟩:Loc)]).set d L=e.s++[⟨i,[]⟩]:=m3;have aw:fQ (.cells eR ah) L (.cells eR (ah.set u (.x (c k) f 0 b))) L:=rfl;have ay:c k≠d:=w;have ab:eA ((k++[aq.x W f 0 b]).set d (.cells eR (ah.set u (.x (c k) f 0 b)))) ⟨(e.s++[(⟨i,[]⟩:Loc)]).set d L,e.D,e.a,e.own⟩ (.cells eR (ah.set u (.x (c k) f 0 b))) L:=by
  rw[ag];refine⟨s,z,au,Z,?_,U⟩;have x:fw (k++[aq.x W f 0 b]) {e with s:=e.s++[⟨i,[]⟩]} ((k++[aq.x W f 0 b]).set d (.cells eR (ah.set u (.x (c k) f 0 b)))) {e with s:=e.s++[⟨i,[]⟩]}:=by
   refine⟨λ_ _ _ p=>p,λR bU cw Q lW=>?_⟩;by_cases aB:d=R
   .grind
   exact Fv
  have aa:bN (k++[aq.x W f 0 b]) {e with s:=e.s++[⟨i,[]⟩]} z ah:=S.mono O.ext bQ.len;refine bN.set (aa.mono x H.len) Y ?_;refine⟨j.ei,by simp,λT af ak kP p=>?_⟩;rw[kJ w,hx w,sI]at p;cases p;refine⟨bC _,λ_=>⟨⟨i,[]⟩,?_,a⟩⟩;exact uk
 obtain⟨aM,J⟩:=H.b5 (cl:=e.D) (bi:=e.a) (cw:=L) y al aw (bC _) (λ_ _ _=>rfl) (λ_ _ _ _=>rfl) (λ_ _ _ p=>p) bQ.mem (λs r=>⟨.inl r,bQ.lt L (b' E) s r⟩) rfl rfl rfl ab;have o:=O.trans J;exact⟨⟨(e.s++[(⟨i,[]⟩:Loc)]).set d L,e.D,e.a,e.own⟩,a,⟨K.size,K.defers.imp λ_ j=>j.mono o.ext,λao=>(K.aL ao).mono o.ext bQ.len⟩,aM,o⟩
end
section
variable {q:af P}
def g.e_(o)(W f)(dK:Nat->m M){e}{r:Nat->m M}(u:look I o=ay (.B l e 0 r))(i:g q F be (.code t::av) .normal ((o,cF (c k) (.B 0 f 0 0))::I) (k++[.q W f 0 dK])):g q F be (.code t::av) .normal I k:=by
 refine g.aP (λj w a bQ=>?_) i;have C:=a.aL o;rw[u]at C;obtain⟨s,b⟩:=bQ.bY (bU:=.q W f 0 dK) (L:=⟨.slice n 0 0,[]⟩) (.refl _ _) rfl bQ (.inl ⟨rfl,rfl⟩) D;refine⟨{j with s:=j.s++[⟨.slice n 0 0,[]⟩]},rfl,⟨a.size,a.defers.imp λ_ d=>d.mono b.ext,λp=>?_⟩,s,b⟩;simp only[look];cases cW:ad o p with
 |false=>exact(a.aL p).mono b.ext bQ.len
 |true=>
  exact Pt
def g.ep(d u)(W f)(b:Nat->m M){eR}{ah}{B}{ai:Nat->m M}(A:db d k=h (.cells eR ah))(x:db u ah=h (.c (.B l B 0 ai)))(C:g q F be (.code t::av) .normal I ((k++[aq.q W f 0 b]).set d (.cells eR (ah.set u (.O (c k) (.B 0 f 0 0)))))):g q F be (.code t::av) .normal I k:=by
 refine g.aP (λe ao J bQ=>?_) C;have aJ:=er A;have T:=er x;have H:d<c k:=(cP.1 aJ).1;have ae:d<c e.s:=h7;have E:=bJ ae;generalize e.s[d]=L at E;obtain⟨p,z,al,X,O,R⟩:=bQ.box d _ L aJ E;obtain⟨au,U,S⟩:=O.get T;let i:Loc:=⟨.slice n 0 0,[]⟩
 obtain⟨K,G⟩:=bQ.bY (bU:=.q W f 0 b) (L:=i) (.refl _ _) rfl bQ (.inl ⟨rfl,rfl⟩) N;have Q:(k++[aq.q W f 0 b])[d]?=h (.cells eR ah):=N;have af:(e.s++[i])[d]?=h L:=N;have ab:(e.s++[i]).set d L=e.s++[i]:=m3;have y:fQ (.cells eR ah) L (.cells eR (ah.set u (.O (c k) (.B 0 f 0 0)))) L:=rfl;have aa:eA ((k++[aq.q W f 0 b]).set d (.cells eR (ah.set u (.O (c k) (.B 0 f 0 0))))) ⟨(e.s++[i]).set d L,e.D,e.a,e.own⟩ (.cells eR (ah.set u (.O (c k) (.B 0 f 0 0)))) L:=by
  rw[ab];refine⟨p,z,al,X,?_,R⟩;have r:fw (k++[aq.q W f 0 b]) {e with s:=e.s++[i]} ((k++[aq.q W f 0 b]).set d (.cells eR (ah.set u (.O (c k) (.B 0 f 0 0))))) {e with s:=e.s++[i]}:=by
   refine⟨λ_ _ _ s=>s,λZ bU L an ak=>?_⟩;by_cases ar:d=Z
   .grind
   exact⟨bU,L,by grind,ak,.refl _ _⟩
  have Y:bN (k++[aq.q W f 0 b]) {e with s:=e.s++[i]} z ah:=O.mono G.ext bQ.len;exact bN.set (Y.mono r K.len) U (DP (W:=W) (V:=b) S N (by simp[<-bQ.len,i]))
 obtain⟨aM,D⟩:=K.b5 (cl:=e.D) (bi:=e.a) (cw:=L) Q af y (bC _) (λ_ _ _=>rfl) (λ_ _ _ _=>rfl) (λ_ _ _ s=>s) bQ.mem (λp o=>⟨.inl o,bQ.lt L (b' E) p o⟩) rfl rfl rfl aa;have j:=G.trans D;exact⟨⟨(e.s++[i]).set d L,e.D,e.a,e.own⟩,a,⟨J.size,J.defers.imp λ_ w=>w.mono j.ext,λag=>(J.aL ag).mono j.ext bQ.len⟩,aM,j⟩
end
def ii:Nat->(Nat->m M)->Nat->m M
 |0,a=>a
 |b+1,a=>fH (b+1) a
def y5(r)(a:Nat->m M)(e):ii r a e=a (r+e):=by cases r<;>simp[ii,fH]
def xW(g f j:Nat)(b:Nat->m M)(a:R):Option (R×m Prop):=match l0 g a with
 |true=>h (a,[])
 |false=>match a with
  |.O e (.B o d k i)=>match ad e g,ad d f with
   |true,l=>h (.c (.B v f i (ii k b)),[o=j,k+i<=j])
   |_,_=>n
  |_=>n
def xY(f e g:Nat)(a:Nat->m M):m R->Option (m R×m Prop)
 |[]=>h ([],[])
 |i::o=>match xW f e g a i with
  |some (b,j)=>match xY f e g a o with
   |some (d,k)=>h (b::d,gQ j k)
   |none=>n
  |none=>n
def va(g f i:Nat)(b:Nat->m M):E1->Option (E1×m Prop)
 |.Q d=>match xW g f i b d with|some (d,e)=>h (.Q d,e)|none=>n
 |.agg a=>match xY g f i b a with|some (a,e)=>h (.agg a,e)|none=>n
def xX(f e g:Nat)(a:Nat->m M):m E1->Option (m E1×m Prop)
 |[]=>h ([],[])
 |i::o=>match va f e g a i with
  |some (b,j)=>match xX f e g a o with
   |some (d,k)=>h (b::d,gQ j k)
   |none=>n
  |none=>n
def u'(g f i:Nat)(b:Nat->m M):y->Option (y×m Prop)
 |.n e=>match va g f i b e with|some (e,d)=>h (.n e,d)|none=>n
 |.S a=>match xX g f i b a with|some (a,d)=>h (.S a,d)|none=>n
 |.any=>h (.any,[])
section
variable {aU:m aq}{b6:a6}{W f:Nat}
structure m5(aU:m aq)(W f j:Nat)(V:Nat->m M)(b b6:a6):Prop where
 a7:∀aa x,cC (aU++[.q W f j V]) b aa x->l0 (c aU) x=l->cC aU b6 aa x
 e3:∀aa gn r A,cC (aU++[.q W f j V]) b aa (.O (c aU) (.B j gn r A))->gn=f->r+A<=j->Rd b6.D aa (.B v f A (ii r V))
def m5.cP(m:m5 aU W f j V b b6){aa}{x i}{Z}(g:xW (c aU) f j V x=h (i,Z))(p:U Z)(o:cC (aU++[.q W f j V]) b aa x):cC aU b6 aa i:=by
 unfold xW at g;split at g
 .rename_i t;cases g;exact m.a7 aa x o t
 split at g
 .rename_i s C q r A _;split at g
  .rename_i d e;cases g;have d:=dp d;have e:=dp e;subst d e;obtain⟨rfl,k⟩:C=j/\r+A<=j:=p;exact m.e3 aa _ _ _ o a k
  grind
 grind
def m5.fv(o:m5 aU W f j V b b6):∀{z:m X}{d a:m R}{e:m Prop},xY (c aU) f j V d=h (a,e)->U e->bN (aU++[.q W f j V]) b z d->bN aU b6 z a
 |[],[],_,_,g,_,_=>by cases g;trivial
 |[],_::_,_,_,_,_,i=>i.elim
 |_::_,[],_,_,_,_,i=>i.elim
 |u::z,r::d,a,e,g,k,i=>by
  simp[xY]at g;split at g
  .rename_i p s c8;split at g
   .rename_i q t dG;cases g;rw[U.Y]at k;exact⟨o.cP c8 k.1 i.1,o.fv dG k.2 i.2⟩
   grind
  grind
def m5.n(k:m5 aU W f j V b b6){e i}(a:va (c aU) f j V e=h (i,Z))(g:U Z)(m:eB (aU++[.q W f j V]) b aa e):eB aU b6 aa i:=by
 cases e with
 |Q s=>
  simp[va]at a;split at a
  .rename_i d r c8;cases a;exact k.cP c8 g m
  grind
 |agg o=>
  simp[va]at a;split at a
  .rename_i d r c8;cases a;obtain⟨z,q,p⟩:=m;exact⟨z,q,k.fv c8 g p⟩
  grind
def m5.gX(o:m5 aU W f j V b b6):∀{z:m X}{d a:m E1}{e:m Prop},xX (c aU) f j V d=h (a,e)->U e->e1 (aU++[.q W f j V]) b z d->e1 aU b6 z a
 |[],[],_,_,g,_,_=>by cases g;trivial
 |[],_::_,_,_,_,_,i=>i.elim
 |_::_,[],_,_,_,_,i=>i.elim
 |u::z,r::d,a,e,g,k,i=>by
  simp[xX]at g;split at g
  .rename_i p s c8;split at g
   .rename_i q t dG;cases g;rw[U.Y]at k;exact⟨o.n c8 k.1 i.1,o.gX dG k.2 i.2⟩
   grind
  grind
def m5.c'(i:m5 aU W f j V b b6){d t}(a:u' (c aU) f j V d=h (t,Z))(g:U Z)(k:bx (aU++[.q W f j V]) b aa d):bx aU b6 aa t:=by
 cases d with
 |n d=>
  simp[u']at a;split at a
  .rename_i e p c8;cases a;exact i.n c8 g k
  grind
 |S q=>
  simp[u']at a;split at a
  .rename_i e p c8;cases a;obtain⟨z,o,m⟩:=k;exact⟨z,o,i.gX c8 g m⟩
  grind
 |any=>cases a;trivial
def bb.e3(o:bb (aU++[.q W f j V]) b)(av:kt (c aU) aU=l):
  ∃x:a6,bb aU x/\e9 b x/\m5 aU W f j V b x/\∀{s:m aq} {Q:a6},dh s Q (aU++[.q W f j V]) b->s.length<=c aU->dh s Q aU x:=by
 have aJ:(aU++[aq.q W f j V])[c aU]?=h (.q W f j V):=D;have G:c b.s=c aU+1:=by rw[o.len];simp
 have X:b.s[c aU]?=h b.s[c aU]:=bJ w;generalize b.s[c aU]=L at X;have aH:=o.box _ _ L aJ X;obtain⟨cl,ak,M,y,aB⟩:∃cl:Mem,(∀i d g,b.D i d=h g->cl i d=h g)/\(∀i,i∉L.aj->∀d,cl i d=b.D i d)/\(∀i d g,cl i d=h g->b.a.cell? ⟨i,d,n⟩=h g) /\
   (∀g e d A,cC (aU++[.q W f j V]) b g (.O (c aU) (.B j e d A))->e=f->d+A<=j->Rd cl g (.B v f A (ii d V))):=by
  rcases aH with⟨rfl,rfl⟩|⟨i,aC,z,aN,rfl,br,aP,ac,F,H,aF⟩
  .refine⟨b.D,λ_ _ _ aE=>aE,λ_ _ _=>rfl,o.mem,λg e d A O E aa=>?_⟩;obtain⟨ae,⟨ao,Z,S,aC,I,T,ab,az,au,aw⟩,_,al⟩:=O;grind[Rd.dI]
  let cl:Mem:=λr d=>if r=i then z[d]? else b.D r d;have an:∀r d g,b.D r d=h g->cl r d=h g:=λr d g I=>by grind
  refine⟨cl,an,λr aO d=>N,λr d g I=>?_,λg e d A O E aa=>?_⟩
  .by_cases E:r=i
   .subst E;simp[cl,dw]at I;simp[aI,br];grind
   simp[cl,E,dn]at I;exact o.mem r d g I
  subst E;obtain⟨ae,⟨ao,Z,S,aD,I,T,ab,az,au,aw⟩,_,al⟩:=O;obtain⟨cw,Y,ar⟩:=(al _ _ _ _ aJ).2 rfl;rw[X]at Y;cases Y;rw[au]at ar;cases ar;rw[I];have R:∀q,q<A->∀u C,(ii d V q)[u]?=h C->∃ah,z[(d+q)*e+u]?=h ah/\Rd b.D ah C:=λq t u C p=>by rw[y5]at p;exact H.rd (d+q) w u C p
  refine .B i (d*e) (λq u=>(z[(d+q)*e+u]?).getD J) T w D (λq t=>by rw[y5];exact H.bF _ w) (λaG=>N) (λq t u C p=>N) (λq t u C p=>?_);obtain⟨ah,ay,aM⟩:=R q t u C p;rw[ay];exact aM.mono an
 have aK:(aU++[aq.q W f j V]).set (c aU) .N=aU++[.N]:=D;obtain⟨ai,K⟩:=o.b5 (cl:=cl) (bi:=b.a) (ed:=.N) (cw:=⟨L.v,[]⟩) aJ X B (bC _) (λ_ _ _=>rfl) (λi _ k d=>M i k d) ak y D rfl rfl rfl B;rw[aK]at ai K;have af:=ai.drop (bq:=[.N]) av;refine⟨_,af,⟨a,ak,λi k d=>M i (k L (b' X)) d,y,λi k=>?_⟩,⟨λg ao O aL=>?_,λg e d A O E aa=>aB g e d A O E aa⟩,λ{s Q} ag U=>(ag.trans (K.too0 o)).drop (bq:=[.N]) U⟩
 .rcases k with k|⟨cw,Y,k⟩
  .exact .inl k
  have:=gN Y;grind
 exact(O.mono K.ext o.len).drop (bq:=[.N]) aL
end
def bl.bK{C:af P}{D}{args}{b:ι->y}{aU:ι->m aq}{W f}{j:ι->Nat}{V:ι->Nat->m M}(E:bl C D args k res (λa=>aU a++[.q W f (j a) (V a)])){i:ι->m Prop}(N:∀a,u' (c (aU a)) f (j a) (V a) (res a)=h (b a,i a))(K:∀a,U (i a))(J:∀a,kt (c (aU a)) (aU a)=l)(I:∀a,c k<=c (aU a)):bl C D args k b aU:=by refine⟨E.1,λO z x u F r t=>E.2 O z x u F r λa s R Q w d g B=>?_⟩;obtain⟨A,o,e,p,q⟩:=g.e3 (J a);exact .aP e (t a s R A (w.mono e.mem) (p.c' (N a) (K a) d) o (q B (I a)))
def Y.bK{P:aD}{b:af P}{d}{args}{k}{res a}{aU}{W f j}{V:Nat->m M}(p:Y b d args k res (aU++[.q W f j V])){Z}(o:u' (c aU) f j V res=h (a,Z))(i:U Z)(g:kt (c aU) aU=l)(e:c k<=c aU):Y b d args k a aU:=
 (bl.bK (ι:=Unit) p.tocE (λ_=>o) (λ_=>i) (λ_=>g) (λ_=>e)).toY
section
def YV{b:ae}(s:r.op=.call {callee:=.builtin .clear,args:=#[b],argTypes:=#[o]})(a:ae->X):
  ab a r=(do pure (.value (<-Builtin.clear_ #[o] r.type #[a b]))):=Sf
def N_{a:X}{b}{f}(k:a.cells.toList.map k'=b.map h)(e:c b=f):e0 bB f A (λ_=>b) (Builtin.zeroCells a.cells A).toList:=by
 have j:a.cells.size=f:=by have:=eF List.length k;grind
 have r:bN [] ⟨[],bB,default,λ_=>False⟩ a.cells.toList (b.map R.c):=uy k;refine⟨by simp[Builtin.zeroCells,j],λ_ _=>e,λg d u o B=>?_⟩;have y:u<f:=N;obtain⟨i,t,s⟩:=r.get (u:=u) (x:=R.c o) N;refine⟨i,?_,s⟩;have q:g*f+u<A*f:=by
  have:g*f+f<=A*f:=by rw[<-o3];exact hf f d
  omega
 have m:(g*f+u) % f=u:=by grind[Nat.add_mul_mod_self_right,Nat.mod_eq_of_lt]
 have z:u<a.cells.size:=w;have C:a.cells[u]=i:=N;have p:a.cells[u]! = i:=N;simp[Builtin.zeroCells,j,q,m,p]
def a2.e1(aZ:bZ P ac){I:ae}(aQ:r.op=.call {callee:=.builtin .clear,args:=#[I],argTypes:=#[o]}){e}(T:bX ac o=h e)(aL:e.desc=.slice W)(Q:bX ac W=h a5){b}{y}(aa:η I=cF d (.B j a5.size b A))(q:k[d]?=h (.q y a5.size j V))(al:b+A<=j):
  a2 P r η k .any (k.set d (.q y a5.size j (nQ b (b+A) a5.zero V))):=by
 intro s ak p X;have m:=X I;rw[aa]at m;change cC k s (ak I) (.O d _)at m;obtain⟨aS,⟨au,aN,ay,aP,Z,aB,aD,aE,aM,aJ⟩,_,G⟩:=m;obtain⟨L,J,ag⟩:=(G _ _ _ _ q).2 rfl;rw[aM]at ag;have x:=(aZ o e T).et;rw[aL]at x;rw[YV aQ,Z];by_cases U:A=0
 .subst U;have ab:nQ b (b+0) a5.zero V=V:=by funext u;simp only[nQ];grind
  have Y:k.set d (.q y a5.size j V)=k:=m3;rw[ab,Y];refine⟨.value (.tuple #[]),s,?_,B,p,.refl _ _,?_⟩
  .cases au<;>simp[Builtin.clear_,run_underlying x]
  intro i f;cases au<;>simp[Builtin.clear_,run_underlying x,aC]at f
 obtain⟨aw,rfl,rfl⟩:=aJ w;rcases p.box d _ L q J with⟨_,rfl⟩|⟨aO,hi,z,E,rfl,K,aI,av,aK,ar,an⟩
 .cases ag
 cases ag;obtain⟨aH,g,aq,aU,aX,ao,ai,aY,a⟩:=(aZ W a5 Q).cK;have af:=N_ (bB:=s.D) (A:=A) ai a;have a0:=af.len;have aG:=ar.len;have aR:b*a5.size+A*a5.size<=j*a5.size:=by rw[<-jL];exact hf _ al
 have C:=ar.hG af al;have S:(λe=>if b<=e/\e<b+A then(λ_=>a5.zero) (e-b)else V e)=nQ b (b+A) a5.zero V:=rfl;rw[S]at C;obtain⟨ah,t2⟩:=p.gy q J aI av aK K C N an;have az:=af.cell;have O:=run_storeCells_at P aw (b*a5.size) y (Builtin.zeroCells g.cells A).toList 0 (z++E).toArray s.a K N az;have M:((z++E).toArray.toList.take (b*a5.size+0)++(Builtin.zeroCells g.cells A).toList++(z++E).toArray.toList.drop (b*a5.size+0+(Builtin.zeroCells g.cells A).toList.length))=z.take (b*a5.size)++(Builtin.zeroCells g.cells A).toList++z.drop (b*a5.size+(Builtin.zeroCells g.cells A).toList.length)++E:=N;rw[M]at O;have R:∀t,(zeroValue W).run P t=.ok g t:=λt=>by simp[zeroValue,typeInfo,aq,ao]
 have H:∀t V,(zeroValue W).events P t V=V:=λt V=>by simp[zeroValue,typeInfo,aq,ao,aC]
 obtain⟨F,rfl⟩:∃F,A=F+1:=⟨A-1,by omega⟩
 refine⟨.value (.tuple #[]),_,?_,B,ah,t2,?_⟩
 .simp[Builtin.clear_,run_underlying x,R,O]
 intro i f;have aT:i∈(storeCells ⟨aw,b*a5.size,n⟩ (Builtin.zeroCells g.cells (F+1)).toList).events P s.a #[]:=by simp only[Builtin.clear_,aC,kg,ml]at f;simpa[run_underlying x,R,H,O]using f
 rcases np (Builtin.zeroCells g.cells (F+1)).toList 0 (z++E).toArray s.a #[] K N az i aT with aF|⟨u,_,_,rfl⟩
 .grind
 exact oi (b' J) D (an _)
end
section
variable {q:af P}
theorem g.g'{f}(K:∀e i,bY F k e I i->bb k e->∃a:a6,a.a=e.a/\bY F ar a f i/\bb ar a/\cO k e ar a)(N:g q F be (.al all bq::av) .normal f ar):g q F be (.al all bq::av) .normal I k:=by intro e i M b C w p B idx u d t;obtain⟨a,J,D,z,y⟩:=K e i M b;have A:=y.too0 b;refine .aP (.of b z J A) ?_;exact N a i D z C w p B idx u d λE m x o O r s j=>t E m x o O r s (A.trans j)
def g.dH(o)(W f)(dK:Nat->m M){e}{r:Nat->m M}(t:look I o=ay (.B l e 0 r))(i:g q F be (.al all bq::av) .normal ((o,cF (c k) (.B 0 f 0 0))::I) (k++[.q W f 0 dK])):g q F be (.al all bq::av) .normal I k:=by
 refine g.g' (λj u a bQ=>?_) i;have C:=a.aL o;rw[t]at C;obtain⟨s,b⟩:=bQ.bY (bU:=.q W f 0 dK) (L:=⟨.slice n 0 0,[]⟩) (.refl _ _) rfl bQ (.inl ⟨rfl,rfl⟩) D;refine⟨{j with s:=j.s++[⟨.slice n 0 0,[]⟩]},rfl,⟨a.size,a.defers.imp λ_ d=>d.mono b.ext,λp=>?_⟩,s,b⟩;simp only[look];cases cW:ad o p with
 |false=>exact(a.aL p).mono b.ext bQ.len
 |true=>
  exact Pt
def g.ey(aZ:bZ P ac){x:ae}{C u}(O:r.op=.binOp .eql o x (.const (.slice n C u)) ty){e}(D:bX ac o=h e)(ak:e.desc=.slice W){eQ}{f}(U:bF I x=ay (.B eQ f j V))(X:r.guard=n)(M:fp F r.dst=l)(J:∀i:Bool,(i=l->j=0)->g q F be (.al all bq::av) .normal (gh r.dst (ay (.bool i)) I) k):g q F be (.al all (r::bq)::av) .normal I k:=by
 refine g.cD (ι:={i:Bool // i=l->j=0}) (λi=>ay (.bool i.1)) (λ_=>k) X M (λp N T B=>?_) λi=>J i.1 i.2;have w:=eH T x;rw[U]at w;obtain⟨b,d,z,w,_,_,_,_,E⟩:=(b8 w).b0;have A:=(aZ o e D).et;rw[ak]at A;have S:=b8 (by have:=eH T x;rw[U]at this;exact this);have ai:b.isNone=l->j=0:=by
  intro ag;rw[w]at S;cases S with
  |B i Q al an aa ah af Z E m=>
   grind
 refine⟨⟨b.isNone,ai⟩,.value (.bool b.isNone),p,.bool b.isNone,?_,.inl a,Rd.bool,B,.refl _ _,?_⟩
 .have m:(binOp .eql o (.slice b j d) (.slice n C u)).run P p.a=.ok (.bool b.isNone) p.a:=Go.Lib.run_eql_slice_nil p.a o W b j d C u A;have K:∀y,eqGuard .eql o x y (.slice b j d) (.slice n C u)=pure ():=λy=>by simp[eqGuard]
  have t:N.eval (.const (.slice n C u))=.slice n C u:=rfl;simp[ab,O,w,t,K];simp[m]
 have R:∀V,(Op.equal o (.slice b j d) (.slice n C u)).events P p.a V=V:=λV=>by show(aL (9999+1) o _ _).events P p.a V=V;unfold aL;cases b<;>simp[underlying,A]
 have m:(Op.equal o (.slice b j d) (.slice n C u)).run P p.a=.ok b.isNone p.a:=by show(aL (9999+1) o _ _).run P p.a=_;grind[Go.Lib.run_equalIn_slice_nil]
 have K:∀y,eqGuard .eql o x y (.slice b j d) (.slice n C u)=pure ():=λy=>by simp[eqGuard]
 have t:N.eval (.const (.slice n C u))=.slice n C u:=rfl;intro Y s;exfalso;simp[ab,O,w,t,K,binOp]at s;simp[m,R,aC]at s
end
def gb(a:m UInt8):m X:=a.map λb=>.int .u8 b.toNat
theorem NG{ag}:c (gb ag)=c ag:=by simp[gb]
def aer{ag i}:gb (ag++i)=gb ag++gb i:=by simp[gb]
def jQ(b:Option (Nat×Nat))(e:Nat):X:=match b with|none=>.slice n 0 0|some (d,a)=>.slice (h ⟨d,0,n⟩) e a
def eK(r q:ak)(s:Bool)(g:X)(i:Option (Nat×Nat))(b:m UInt8)(o:Nat):X->(Nat->Option Obj)->Prop:=λp d=>
 ∃f,p=.pointer (h ⟨f,0,n⟩)/\dT g=l/\d f=h (.cells #[if s then p else .pointer n,g] r (0,0)) /\
 match i with
 |none=>b=[]/\∀e,(d e).isSome=l↔e=f
 |some (j,a)=>j≠f/\c b<=a/\0<a/\a<=9223372036854775807/\o<=c b/\(∃k,c (gb b++k)=a/\d j=h (.cells (gb b++k).toArray q (0,o)))/\∀e,(d e).isSome=l↔e=f∨e=j
section
variable {q:af P}{f:m (Nat×cr)}{ac:ak}{x:Bool}{v1:X}{bP:Option (Nat×Nat)}{ag:m UInt8}{al:Nat}
structure m4(P:aD)(k:m aq)(b:a6)(d:Nat)(ac W:ak)(x:Bool)(v1:X)(bP:Option (Nat×Nat))(ag:m UInt8)(al:Nat)(L:Loc)(i:Nat)(cI:Nat->Option Obj):Prop where
 s:b.s[d]?=h L
 v:L.v=.pointer (h ⟨i,0,n⟩)
 ga:eK ac W x v1 bP ag al L.v cI
 heap:∀(i:Nat) (r:Obj),cI i=h r->b.a.heap[i]?=h r
 aj:∀i,i∈L.aj↔(cI i).isSome=l
 D:∀i∈L.aj,∀r,b.D i r=n
 cI:cI i=h (.cells #[if x then L.v else .pointer n,v1] ac (0,0))
 cell:dT v1=l
def eK.row(bQ:bb k b)(m:k[d]?=h (.K (eK ac W x v1 bP ag al))):∃L e a,m4 P k b d ac W x v1 bP ag al L e a:=by have p:d<c b.s:=h7;have f:=bJ p;generalize b.s[d]=L at f;obtain⟨a,o,g,i,s⟩:=bQ.box d _ L m f;have q:=o;obtain⟨e,r,t,j,_⟩:=q;exact⟨L,e,a,f,r,o,g,i,s,j,t⟩
def m4.mem{L}(a:m4 P k b d ac W x v1 bP ag al L i ld):i∈L.aj:=(a.aj i).2 (by rw[a.cI];rfl)
def m4.ptr{L}(f:m4 P k b d ac W x v1 bP ag al L i ld)(g:bx k b aa (aH d off)):aa=.pointer (h ⟨i,off,n⟩):=by obtain⟨_,j,m,a,e,rfl⟩:=(g:cC k b aa (.ptr d off));rw[f.s]at a;cases a;rw[f.v]at e;grind
def Bn(aZ:bZ P f){q:ae}{e}(w:r.op=.load o q)(p:bX f o=h e)(C:e.agg=v)(M:k[d]?=h (.K (eK ac W x v1 bP ag al))){u}(E:η q=aH d off)(R:∀a L b g,bb k a->m4 P k a d ac W x v1 bP ag al L b g->∃m,(#[if x then L.v else .pointer n,v1]:Array X)[off]?=h m/\bx k a m u):a2 P r η k u k:=by
 refine .dr λa s B G=>?_;obtain⟨L,b,g,i⟩:=eK.row (P:=P) B M;have A:=i.ptr (by have:=G q;rwa [E]at this);obtain⟨m,H,O⟩:=R a L b g B i;have I:a.a.cell? ⟨b,off,n⟩=h m:=by simp only[aI,i.heap _ _ i.cI];grind
 have t:(loadVar o ⟨b,off,n⟩).run P a.a=.ok m a.a:=by simp[loadVar,(aZ o e p).eu,C,run_load,I]
 refine⟨m,by simp[ab,w,A,Instr.loadAt,Instr.sureAddr,t],O,λz y=>?_⟩;have K:z∈(loadVar o ⟨b,off,n⟩).events P a.a #[]:=by
  have F:ab s r=(do pure (.value (<-loadVar o ⟨b,off,n⟩))):=by simp[ab,w,A,Instr.loadAt,Instr.sureAddr]
  rw[F]at y;simpa[t]using y
 obtain⟨J,D,rfl⟩:=pc (aZ o e p) (j:=1) (λJ D=>by grind) N z K;exact qp (b' i.s) i.mem
def a2.eT(aZ:bZ P f){g:ae}{e}(p:r.op=.load o g)(a:bX f o=h e)(i:e.agg=v)(b:k[d]?=h (.K (eK ac W x v1 bP ag al)))(m:η g=aH d 1):a2 P r η k (cN v1) k:=
 Bn aZ p a i b m λu L t j q s=>⟨v1,by simp,Rd.val s.cell⟩
def aaF(e:k[d]?=h (.K H)):∀a,k[d]?=h a->a.dL=v:=by intro a b;rw[e]at b;cases b;rfl
def a2.gH(aZ:bZ P f){i:ae}{e}(s:r.op=.load o i)(b:bX f o=h e)(m:e.agg=v)(a:k[d]?=h (.K (eK ac W l v1 bP ag al)))(q:η i=aH d 0):a2 P r η k (aH d 0) k:=
 Bn aZ s b m a q λu L j p t g=>⟨L.v,by simp,aaF a,L,j,g.s,g.v,g.v⟩
def a2.il(aZ:bZ P f){g:ae}{e}(p:r.op=.load o g)(a:bX f o=h e)(j:e.agg=v)(b:k[d]?=h (.K (eK ac W v v1 bP ag al)))(m:η g=aH d 0):a2 P r η k (ay .bp) k:=
 Bn aZ p a j b m λu L s i q t=>⟨.pointer n,by simp,Rd.bp⟩
def setRow_size(a:au)(i)(row):(a.setRow i row).heap.size=a.heap.size:=by simp[World.setRow]
def G6(aZ:bZ P f){D p:ae}{e}(Z:r.op=.store o D p)(A:bX f o=h e)(y:e.size=1)(V:k[d]?=h (.K (eK ac W x v1 bP ag al))){t}{s}(Q:η D=aH d off)(O:off<2)(J:dT s=l)(ao:∀m L i q z,bb k m->m4 P k m d ac W x v1 bP ag al L i q->bx k m z (η p)->dT z=l/\(#[if x then L.v else .pointer n,v1]:Array X).setIfInBounds off z=#[if t then L.v else .pointer n,s]):a2 P r η k .any (k.set d (.K (eK ac W t s bP ag al))):=by
 intro m b I Y;obtain⟨L,i,q,j⟩:=eK.row (P:=P) I V;have G:=j.ptr (by have:=Y D;rwa [Q]at this);obtain⟨M,H⟩:=ao m L i q (b p) I j (Y p);have af:(b p).cells=#[b p]:=by cases F:b p<;>simp[F,dT,Value.cells]at M⊢
 have ai:∀z∈[b p],z.oneCell'=l:=by intro z G;simp at G;subst G;cases F:b p<;>simp[F,dT,Value.oneCell']at M⊢
 have S:=j.heap _ _ j.cI;have T:=run_storeCells_at P i off ac [b p] 0 _ m.a S N ai;have R:((#[if x then L.v else .pointer n,v1]:Array X).toList.take (off+0)++[b p]++(#[if x then L.v else .pointer n,v1]:Array X).toList.drop (off+0+[b p].length)).toArray=#[if t then L.v else .pointer n,s]:=by
  rw[<-H]
  match off,O with
  |0,_=>grind
  |1,_=>grind
 rw[R]at T;have ay:(m.a.setRow i #[if t then L.v else .pointer n,s]).heap[i]?=h (.cells #[if t then L.v else .pointer n,s] ac (0,0)):=setRow_heap m.a i _ _ ac _ S;have ah:∀g,g≠i->(m.a.setRow i #[if t then L.v else .pointer n,s]).heap[g]?=m.a.heap[g]?:=λg w=>setRow_other m.a i g _ w;obtain⟨C,t2⟩:=I.b8 (d:=d) (j':=eK ac W t s bP ag al) (cw:=L) (bi:=m.a.setRow i #[if t then L.v else .pointer n,s]) V j.s rfl (by rw[setRow_size];grind)
  (λg w K=>ah g (by rintro rfl;exact K j.mem)) (λg w=>.inl w)
  ⟨λg=>if g=i then h (.cells #[if t then L.v else .pointer n,s] ac (0,0))else q g,by
   obtain⟨E,U,ar,au,av⟩:=j.ga;have:E=i:=by rw[j.v]at U;grind
   subst this;have aw:∀g,(if g=E then h (Obj.cells #[if t then L.v else .pointer n,s] ac (0,0))else q g).isSome=l↔(q g).isSome=l:=N;refine⟨E,U,J,by simp,?_⟩;grind,λg aq w=>by
   by_cases u:g=i
   .grind
   .simp only[u,dn]at w;rw[ah g u];exact j.heap _ _ w,λg=>by
   rw[j.aj g];by_cases u:g=i
   .subst u;simp[j.cI]
   grind⟩ a a a
 have ak:m.s.set d L=m.s:=by
  apply qa;intro aa;by_cases u:d=aa
  .subst u;rw[ix (cP.1 j.s).1,j.s]
  grind
 rw[ak]at C t2;refine⟨.skip,{m with a:=m.a.setRow i #[if t then L.v else .pointer n,s]},?_,rfl,C,t2,?_⟩
 .simp[ab,Z,G,Instr.storeAt,Instr.sureAddr,storeVar,(aZ o e A).bb,y,af,T]
 intro aM B;have u:ab b r=(do storeVar o ⟨i,off,n⟩ (b p);pure .skip):=by simp[ab,Z,G,Instr.storeAt,Instr.sureAddr]
 rw[u]at B;have an:aM∈(storeCells ⟨i,off,n⟩ [b p]).events P m.a #[]:=by
  simp only[storeVar,aC,(aZ o e A).bb,af,y,aF,events_sizeOf,d',hG,dn,cL,c',Sem.events_pure,List.size_toArray,fT]at B;generalize(storeCells ⟨i,off,n⟩ [b p]).run P m.a=j at B;cases j with
  |ok z bi=>simpa using B
  |halt D bi=>simpa using B
 rcases np [b p] 0 _ m.a #[] S N ai aM an with az|⟨aa,_,_,rfl⟩
 .grind
 exact oi (b' j.s) j.mem (j.D _ j.mem _)
def a2.f'(aZ:bZ P f){i j:ae}{e}(q:r.op=.store o i j)(a:bX f o=h e)(p:e.size=1)(b:k[d]?=h (.K (eK ac W x v1 bP ag al))){t}(z:η i=aH d 1)(u:η j=cN t)(y:dT t=l):a2 P r η k .any (k.set d (.K (eK ac W x t bP ag al))):=
 G6 aZ q a p b z w y λC L A m D s B g=>by rw[u]at g;have:=Rd.bd g;grind
def a2.im(aZ:bZ P f){m p:ae}{e}(u:r.op=.store o m p)(b:bX f o=h e)(q:e.size=1)(g:k[d]?=h (.K (eK ac W x v1 bP ag al)))(A:η m=aH d 0)(t:η p=aH d 0)(z:dT v1=l):a2 P r η k .any (k.set d (.K (eK ac W l v1 bP ag al))):=
 G6 aZ u b q g A w z λC L B s D y j i=>by rw[t]at i;have:=j.ptr i;subst this;refine⟨a,?_⟩;rw[<-j.v];rfl
def a2.ie{ac}(p:r.op=.alloc ac)(q:∀j,(zeroValue ac).run P j=.ok (.agg #[.pointer n,.slice n 0 0]) j)(u:∀j f,(zeroValue ac).events P j f=f):a2 P r η k (aH (c k) 0) (k++[.K (eK ac W v (.slice n 0 0) n [] 0)]):=by
 intro b A bQ w;let bi:=b.a.alloc (.cells #[.pointer n,.slice n 0 0] ac);obtain⟨y,x⟩:=bQ.cY (cl:=b.D) (bi:=bi) (by simp[bi]) (λt g=>i7 b.a _ g) (λ_ _ _=>rfl) (λt g r z e=>by have:=bQ.block e;omega) rfl rfl rfl;have C:bi.heap.size=b.a.heap.size+1:=by simp[bi]
 have B:bi.heap[b.a.heap.size]?=h (.cells #[.pointer n,.slice n 0 0] ac (0,0)):=lY b.a _;obtain⟨o,t2⟩:=y.bY x rfl bQ (bU:=.K (eK ac W v (.slice n 0 0) n [] 0)) (L:=⟨.pointer (h ⟨b.a.heap.size,0,n⟩),[b.a.heap.size]⟩)
  ⟨λd=>if d=b.a.heap.size then h (.cells #[.pointer n,.slice n 0 0] ac (0,0))else n,⟨b.a.heap.size,rfl,rfl,by simp,rfl,λd=>by by_cases m:d=b.a.heap.size<;>simp[m]⟩,λd s i=>by
   grind,λd=>by by_cases m:d=b.a.heap.size<;>simp[m],λd i s=>by
   simp at i;subst i;show b.D _ _=n;cases e:b.D b.a.heap.size s with
   |none=>rfl
   |some z=>have:=bQ.block e;omega⟩ (λd i=>by grind)
 refine⟨.value (.pointer (h ⟨b.a.heap.size,0,n⟩)),_,?_,⟨by simp,⟨.pointer (h ⟨b.a.heap.size,0,n⟩),[b.a.heap.size]⟩,b.a.heap.size,?_,a,a⟩,o,t2,?_⟩
 .simp[ab,p,Instr.alloc,q,Go.newVar,newRow,Value.cells,bi]
 .exact uk
 simp[ab,p,Instr.alloc,q,u,Go.newVar,newRow];exact .nil
end
section
variable {q:af P}{bm:m (Nat×cr)}{ac:ak}{O:Bool}{v1:X}{bP:Option (Nat×Nat)}{ag:m UInt8}{f:Nat}
def JG{P}{i r}{o}{f}:∀(z:m X)a(g:Array X)d(b:Array aO),d.heap[i]?=h (.cells g o f)->f.2<=r+a->r+a+c z<=g.size->(∀e∈z,e.oneCell'=l) ->
  ∀k∈(storeCells ⟨i,r,n⟩ z a).events P d b,k∈b∨∃p,a<=p/\p<a+c z/\k=ua i (r+p)
 |[],_,_,_,_,_,_,_,_=>λk q=>.inl cV
 |e::j,a,g,d,b,C,F,I,s=>λk q=>by
  have bp:r+a<g.size:=N;have t:d.cell? ⟨i,r+a,n⟩=h g[r+a]:=OA;have B:d.frozen? ⟨i,r+a,n⟩=v:=by obtain⟨y,E⟩:=f;simp[World.frozen?,C,AN,dq];grind
  have u:(store (⟨i,r+a,n⟩:Addr) e).run P d=.ok () (d.setRow i (g.setIfInBounds (r+a) e)):=Ol;have x:(store (⟨i,r+a,n⟩:Addr) e).events P d b=b.push (ua i (r+a)):=by rw[events_store P d b _ e _ (s e D),t];exact hI
  simp[storeCells,aC,g6,u,x,aF]at q;rcases JG j (a+1) (g.setIfInBounds (r+a) e) _ _ (setRow_heap _ _ _ _ _ _ C) w N (λA M=>s A N) k q with J|⟨p,R,K,rfl⟩
  .grind
  grind
def m4.at{L}{i C cap}{e:Nat->Option Obj}(s:m4 P k b d ac W O v1 (h (C,cap)) ag f L i e):
  C≠i/\c ag<=cap/\0<cap/\cap<=9223372036854775807/\f<=c ag/\(∃g,c (gb ag++g)=cap/\e C=h (.cells (gb ag++g).toArray W (0,f)))/\(∀r,(e r).isSome=l↔r=i∨r=C)/\C∈L.aj:=by
 obtain⟨u,w,_,_,j,m,o,p,q,a,t⟩:=s.ga;have:u=i:=by rw[s.v]at w;grind
 subst this;obtain⟨g,a,x⟩:=a;exact⟨j,m,o,p,q,⟨g,a,x⟩,t,(s.aj C).2 N⟩
def ab8{L}(a:b.s[d]?=h L):b.s.set d L=b.s:=m3
def m4.b8{L}{i C cap}{g:Nat->Option Obj}(s:bb k b)(t:k[d]?=h (.K (eK ac W O v1 (h (C,cap)) ag f)))(e:m4 P k b d ac W O v1 (h (C,cap)) ag f L i g){oR}{pg}{uo}{bi}(B:c (gb oR++uo)=cap)(J:c oR<=cap)(F:pg<=c oR)(M:bi.heap.size=b.a.heap.size)(o:∀a,a≠C->bi.heap[a]?=b.a.heap[a]?)(S:bi.heap[C]?=h (.cells (gb oR++uo).toArray W (0,pg)))(u:bi.os=b.a.os)(I:bi.tape=b.a.tape)(D:bi.output=b.a.output):
  bb (k.set d (.K (eK ac W O v1 (h (C,cap)) oR pg))) {b with a:=bi}/\cO k b (k.set d (.K (eK ac W O v1 (h (C,cap)) oR pg))) {b with a:=bi}:=by
 obtain⟨j,y,q,r,z,⟨bA,A,R⟩,Q,K⟩:=e.at;obtain⟨x,t2⟩:=s.b8 (d:=d) (j':=eK ac W O v1 (h (C,cap)) oR pg) (cw:=L) (bi:=bi) t e.s rfl w
  (λa m E=>o a N) (λa m=>.inl m)
  ⟨λa=>if a=C then h (.cells (gb oR++uo).toArray W (0,pg))else g a,⟨i,e.v,e.cell,(show(if i=C then _ else g i)=_ from(bj λp=>j p.symm).trans e.cI),j,J,q,r,F,⟨uo,B,by simp⟩,λa=>by
   grind⟩,λa T m=>by
   by_cases p:a=C
   .grind
   .simp only[p,dn]at m;rw[o a p];exact e.heap _ _ m,λa=>by
   rw[e.aj a]
   grind⟩ u I D
 rw[ab8 e.s]at x t2;grind
def a2.ig{t2:ak}{T x:ae}(q:r.op=.call {callee:=.builtin .append,args:=#[T,x],argTypes:=#[o,t2]}){a5}(aM:P.underlying o=h (.slice W))(M:P.underlying t2=h .string)(Y:P.info? W=h a5)(X:a5.size=1){C cap}(p:k[d]?=h (.K (eK ac W O v1 (h (C,cap)) ag f)))(K:η T=cN (jQ (h (C,cap)) j))(J:c ag=j){b}(Q:η x=ay (.T b))(aN:j+c b<=cap):
  a2 P r η k (cN (jQ (h (C,cap)) (j+c b))) (k.set d (.K (eK ac W O v1 (h (C,cap)) (ag++b) f))):=by
 intro i V m s;subst J;obtain⟨L,aP,aC,t⟩:=eK.row (P:=P) m p;obtain⟨ar,au,av,aw,z,⟨g,az,A⟩,aB,ah⟩:=t.at;have y:=s T;rw[K]at y;have y:=Rd.bd y;have R:=s x;rw[Q]at R;have R:=b8 R;generalize H:V x=aJ at R;cases R with
 |@T e _ Z aL=>
 have ai:e.size=c b:=by rw[<-Z,nb];rfl
 have u:=t.heap _ _ A;have aK:(gb ag++g).toArray.size=cap:=N;have af:=Lib.run_append_room_stringF (P:=P) i.a o t2 r.type W a5 aM M Y X C (c ag) cap _ _ u z e w N;have G:((gb ag++g).toArray.toList.take (c ag)++Lib.strCells e++(gb ag++g).toArray.toList.drop (c ag+e.size))=gb (ag++b)++g.drop (c b):=by
  have D:(gb ag++g).take (c ag)=gb ag:=Fl;have E:(gb ag++g).drop (c ag+e.size)=g.drop (c b):=by rw[List.drop_append,NG,Gt N,ai];simp
  have F:Lib.strCells e=gb b:=by simp[Lib.strCells,gb,Z]
  rw[List.toList_toArray,D,E,F,aer]
 rw[G,ai]at af;have ab:c g=cap-c ag:=Fl;have aH:c (gb (ag++b)++g.drop (c b))=cap:=Fl;have aI:(i.a.setRow C (gb (ag++b)++g.drop (c b)).toArray).heap[C]?=h (.cells (gb (ag++b)++g.drop (c b)).toArray W (0,f)):=setRow_heap i.a C _ _ W _ u;obtain⟨S,al⟩:=t.b8 (pg:=f) (bi:=i.a.setRow C (gb (ag++b)++g.drop (c b)).toArray) m p aH N N (setRow_size _ _ _) (λB ao=>setRow_other i.a C B _ ao) aI rfl rfl rfl;refine⟨.value (.slice (h ⟨C,0,n⟩) (c ag+c b) cap),_,?_,Rd.val a,S,al,?_⟩
 .rw[ll q,y,H];simp[cL,d_];have aO:(Builtin.append_ #[o,t2] r.type #[jQ (h (C,cap)) (c ag),.string e]).run P i.a=_:=af;exact hI
 rw[ll q,y,H];refine i4 λaD aa=>?_;have I:=Lib.run_firstCells_string (P:=P) i.a 1 e;have an:=run_storeCells_atF P C (c ag) W (0,f) (Lib.strCells e) 0 _ i.a u N N (Lib.strCells_oneCell e);have aE:c ag+e.size<=cap:=w;have aq:(Builtin.firstCells 1 e.size (.string e)).events P i.a #[]=#[]:=rfl;simp[jQ,Builtin.append_,run_underlying aM,run_underlying M,sizeOf,typeInfo,Y,X,Builtin.lenOf,aE,I,aq,g6,an]at aa;rcases JG (Lib.strCells e) 0 _ i.a _ u N N (Lib.strCells_oneCell e) aD aa with aQ|⟨aR,aF,aG,rfl⟩
 .grind
 exact oi (b' t.s) ah (t.D _ ah _)
def a2.ij{t2:ak}{p i:ae}(f:r.op=.call {callee:=.builtin .append,args:=#[p,i],argTypes:=#[o,t2]}){a5}(w:P.underlying o=h (.slice W))(t:P.underlying t2=h .string)(s:P.info? W=h a5)(B:η p=cN (jQ n 0))(A:η i=ay (.T [])):a2 P r η k (cN (jQ n 0)) k:=by
 refine .aQ λx q y g=>?_;have e:=g p;rw[B]at e;have e:=Rd.bd e;have d:=g i;rw[A]at d;have d:=b8 d;generalize u:q i=C at d;cases d with
 |@T b _ E D=>
 have j:b.size=0:=by have:c b.data.toList=0:=N;rw[nb]at this;exact this
 have m:=Lib.run_firstCells_string (P:=P) x.a a5.size b;rw[j]at m;have z:(Builtin.firstCells a5.size 0 (.string b)).events P x.a #[]=#[]:=rfl;refine⟨.slice n 0 0,?_,Rd.val a,?_⟩
 .rw[ll f,e,u];simp[jQ,Builtin.append_,run_underlying w,run_underlying t,sizeOf,typeInfo,s,Builtin.lenOf,j,m]
 rw[ll f,e,u];simp[jQ,Builtin.append_,run_underlying w,run_underlying t,sizeOf,typeInfo,s,Builtin.lenOf,j,m,z]
def S5{s}{fn}{Z}(ak:P.underlying o=h (.slice W))(A:P.funcs[s]?=h fn)(R:(fn.name== "runtime.NumGoroutine")=v)(al:fn.body.isNone=l)(Q:Extern.findNext fn=n)(G:Extern.find fn=h (Extern.BytealgMakeNoZero.makeNoZero Z #[o])){E:ae}(C:r.op=.call {callee:=.value cQ,args:=#[E],argTypes:=dt})(aC:η cQ=.n (.Q (.c (.fn (.func s) [] []))))(Y:η E=.n (.Q (.c (.int .i64 j))))(aL:0<j)(T:j<=140737488355328)(B:k[d]?=h (.K (eK ac W O v1 n ag f))):
  ∀b g,bb k b->(∀av,bx k b (g av) (η av))->∃(F:{aP:Nat×Nat // j<=aP.2}) (t:a6) (I:X),(ab g r).run P b.a=.ok (.value I) t.a/\bx (k.set d (.K (eK ac W O v1 (h F.1) [] 0))) t I (cN (jQ (h F.1) j)) /\
   bb (k.set d (.K (eK ac W O v1 (h F.1) [] 0))) t/\cO k b (k.set d (.K (eK ac W O v1 (h F.1) [] 0))) t/\dv b ((ab g r).events P b.a #[]):=by
 intro b g aM D;obtain⟨L,an,aH,m⟩:=eK.row (P:=P) aM B;have y:g cQ=.func (.func s) #[] #[]:=by
  have i:=D cQ;rw[aC]at i;have i:=b8 i;generalize g cQ=I at i;cases i with
  |fn aK e aT an aI aJ aF aG d1 d2=>
   grind
 have ai:g E=.int .i64 j:=by have i:=D E;rw[Y]at i;have i:=b8 i;generalize g E=I at i;cases i;rfl
 obtain⟨e,i,J,K⟩:=Lib.run_makeNoZero (P:=P) b.a Z o W ak j w;have K:=K (by simp[maxLen];omega);have aw:(callFunc s #[.int .i64 j]).run P b.a=.ok (.value (.slice (h ⟨b.a.heap.size,0,n⟩) j e.size)) (b.a.drew.drew.alloc (.cells e W)):=by rw[run_callFunc_extern A R al Q G,i];rfl
 let bi:au:=b.a.drew.drew.alloc (.cells e W);have V:bi.heap[b.a.heap.size]?=h (.cells e W (0,0)):=lY b.a.drew.drew _;have ar:bi.heap.size=b.a.heap.size+1:=by show(b.a.drew.drew.heap.push _).size=_;simp
 obtain⟨z,af,aQ,aR,aS⟩:=m.ga;have aD:z=an:=by rw[m.v]at af;grind
 subst aD;have M:=aM.lt L (b' m.s) z m.mem;have ay:b.a.heap.size≠z:=w;obtain⟨ah,t2⟩:=aM.b8 (d:=d) (j':=eK ac W O v1 (h (b.a.heap.size,e.size)) [] 0) (cw:=⟨L.v,[z,b.a.heap.size]⟩) (bi:=bi) B m.s rfl w
  (λp x Q=>i7 b.a.drew.drew _ x) (λp x=>by
   simp at x;rcases x with rfl|rfl
   .exact .inl m.mem
   grind)
  ⟨λp=>if p=z then h (.cells #[if O then L.v else .pointer n,v1] ac (0,0))else if p=b.a.heap.size then h (.cells e W (0,0))else n,⟨z,m.v,m.cell,by simp,ay,by simp,by omega,by simp[maxLen]at K;omega,by simp,⟨e.toList,by simp[gb],by exact hI⟩,λp=>by
   grind⟩,λp aN x=>by
   by_cases u:p=z
   .subst u;simp[dw]at x;have:bi.heap[p]?=b.a.heap[p]?:=i7 b.a.drew.drew _ M;rw[this,<-x];exact m.heap _ _ m.cI
   grind,λp=>by grind⟩ rfl rfl rfl
 refine⟨⟨(b.a.heap.size,e.size),J⟩,_,_,?_,Rd.val rfl,ah,t2,?_⟩
 .simp[ab,C,resolve,Deferred.ofValue,invoke,y,ai,aw,bi,jQ]
 intro a aB;simp[ab,C,resolve,Deferred.ofValue,invoke,y,ai]at aB;have H:a∈(callFunc s #[.int .i64 j]).events P b.a #[]:=N;have az:fn.name≠ "runtime.NumGoroutine":=N;have aE:fn.body=n:=by simpa using al
 have key:∀q:Array aO,∀u∈(Extern.BytealgMakeNoZero.makeNoZero Z #[o] #[.int .i64 j]).events P b.a q,u∈q∨∃aa,u=⟨.mark aa,v,l⟩/\Go.Conc.Neutral aa:=by
  intro q u G;change u∈Sem.events P (underlying _ >>= _) _ _ at G;have i:¬(j:Int)<0:=w;have J:¬(281474976710656:Int)<(j:Int):=w;have aq:u∈(askRoom (grownCap b.a j 0 W)).events P b.a.drew q:=by simpa[run_underlying ak,i,J,Question.forced,newRow,grownCap]using G
  grind[Go.Conc.events_askRoom]
 have:a∈(Extern.BytealgMakeNoZero.makeNoZero Z #[o] #[.int .i64 j]).events P b.a ((#[]:Array aO).push ⟨.mark (.extern s),v,l⟩):=by have u:callFunc s #[.int .i64 j]=callFunc s #[.int .i64 j]:=rfl;simpa[callFunc,A,az,aE,Q,G,i]using H
 rcases key _ _ this with ao|⟨aa,rfl,S⟩
 .simp at ao;subst ao;exact .inr ⟨s,rfl⟩
 exact .inl S
def S6{M av}{i s:ae}(cy:r.op=.call {callee:=.builtin .unsafeString,args:=#[i,s],argTypes:=#[M,av]})(J:P.underlying M=h (.pointer W))(H:P.cellsOf W=1){C cap}(V:k[d]?=h (.K (eK ac W O v1 (h (C,cap)) ag f)))(Z:η i=cN (.pointer (h ⟨C,0,n⟩)))(aa:η s=ay (.int .i64 (c ag))):
  a2 P r η k (ay (.T ag)) (k.set d (.K (eK ac W O v1 (h (C,cap)) ag (c ag)))):=by
 intro b p u K;obtain⟨L,aX,aU,Q⟩:=eK.row (P:=P) u V;obtain⟨aN,t,aP,aQ,aR,⟨S,B,X⟩,aS,aH⟩:=Q.at;have R:=K i;rw[Z]at R;have R:=Rd.bd R;have ah:p s=.int .i64 (c ag):=by have y:=K s;rw[aa]at y;have y:=b8 y;generalize p s=aY at y;cases y;rfl
 have aM:=Q.heap _ _ X;have ai:ab p r=(do pure (.value (<-Builtin.unsafeString_ #[M,av] r.type #[p i,p s]))):=Sa;have Y:(gb ag++S).toArray.size=cap:=N;by_cases E:ag=[]
 .subst E;have aw:=Lib.run_unsafeString_none (P:=P) b.a M av r.type (h ⟨C,0,n⟩);obtain⟨x,t2⟩:=Q.b8 (oR:=[]) (pg:=0) (uo:=S) (bi:=b.a) u V B t D rfl (λ_ _=>rfl) N rfl rfl rfl;refine⟨.value (.string .empty),_,hI,Rd.T a D,x,t2,?_⟩;rw[ai,R,ah];exact PY
 .have e:∀j i,ag[j]?=h i->b.a.cell? ((⟨C,0,n⟩:Addr).add j)=h (.int .u8 i.toNat):=by
   intro j i T;rw[g6];simp[aI,aM,cZ];have ar:=(cP.1 T).1;have:(gb ag)[j]?=h (.int .u8 i.toNat):=by simp[gb,T]
   grind
  have ak:b.a.shape? C=h (W,cap):=by simp[World.shape?,aM];grind
  have aw:=Lib.run_unsafeString_row (P:=P) b.a M av r.type W J H C cap ak ag E t w e;have al:c ag≠0:=N;have F:(b.a.freeze ⟨C,0,n⟩ (c ag)).heap[C]?=h (.cells (gb ag++S).toArray W (0,c ag)):=by simp[World.freeze,al,dn,AY,dw,aM,lK];grind
  obtain⟨x,t2⟩:=Q.b8 (oR:=ag) (pg:=c ag) (uo:=S) (bi:=b.a.freeze ⟨C,0,n⟩ (c ag)) u V B t (bC _) Ak (λaT aq=>by
   simp only[World.freeze,al,dn,AY]
   grind) F Ak Ak Ak
  refine⟨.value (.string ⟨ag.toArray⟩),_,?_,Rd.T D w,x,t2,?_⟩
  .rw[ai,R,ah];simp only[cL,d_,aw];rfl
  rw[ai,R,ah];refine i4 λq z=>?_;have aB:¬(c ag:Int)<0:=w;have aJ:¬(9223372036854775807:Int)<(c ag:Int):=w;have au:=Lib.liesAt_bytes (P:=P) H (cap / P.cellsOf W) (c ag) N;have az:IntKind.i64.max=9223372036854775807:=rfl;have I:=Lib.run_loadBytes (P:=P) b.a ag ⟨C,0,n⟩ .empty e;have aG:∀(G:m UInt8) (A:Nat) (o:ByteArray) (g:Array aO),(∀j i,G[j]?=h i->b.a.cell? ⟨C,A+j,n⟩=h (.int .u8 i.toNat))->∀q∈(loadBytes ⟨C,A,n⟩ o (c G)).events P b.a g,q∈g∨∃j,q=pA C j:=by
   intro G;induction G with
   |nil=>intro A o g _ q z;exact .inl (by simpa[loadBytes]using z)
   |cons s G af=>
    intro A o g H q z;have an:=H 0 s a;simp only[kk]at an;have aE:(load ⟨C,A,n⟩).run P b.a=.ok (.int .u8 s.toNat) b.a:=by grind[run_load]
    simp only[fe,loadBytes,aC,aE,aF,CE an,g6]at z;rcases af (A+1) _ _ (λj i T=>by have:=H (j+1) i N;grind) q z with ao|ao
    .grind
    grind
  have aK:(variablesAt ⟨C,0,n⟩ W (c ag)).run P b.a=.ok l b.a:=by simp[variablesAt,ak,au]
  have aD:∀g,(variablesAt ⟨C,0,n⟩ W (c ag)).events P b.a g=g:=λg=>by simp[variablesAt,ak,au]
  have aL:q∈(loadBytes ⟨C,0,n⟩ .empty (c ag)).events P b.a #[]:=by change q∈Sem.events P (asInt (.int .i64 (c ag:Int)) >>= _) _ _ at z;simpa[asInt,asIntOf,az,aB,aJ,al,elemOf,run_underlying J,aK,aD,I]using z
  rcases aG ag 0 .empty #[] (λj i T=>by grind[g6]) q aL with ao|⟨j,rfl⟩
  .grind
  exact qp (b' Q.s) aH
end
section
variable {q:af P}{S:m (Nat×cr)}{ac:ak}{C:Bool}{v1:X}{bP:Option (Nat×Nat)}{ag:m UInt8}{e:Nat}
def a2.exact{g:ae}{j}{i}(m:η g=cN aa)(o:∀(a:ae->X) f,a g=aa->(ab a r).run P f=.ok (.value j) f/\(ab a r).events P f #[]=#[])(t:∀k e,bx k e j i):a2 P r η k i k:=by refine .aQ λe a s d=>?_;have b:=d g;rw[m]at b;have b:=Rd.bd b;obtain⟨p,q⟩:=o a e.a b;grind
def a2.fI{a:ae}(g:r.op=.call {callee:=.builtin .len,args:=#[a],argTypes:=dt})(f:dt[0]?=h o)(e:P.underlying o=h (.slice W)){b}{t}(m:η a=cN (.slice b j t))(i:j<=9223372036854775807):a2 P r η k (ay (.int .i64 j)) k:=
 .exact m (λp q d=>by constructor<;>simp[ab,g,resolve,invoke,builtin,Builtin.len_,d,run_underlying e,goInt,f]) (λ_ _=>Rd.int nS)
def a2.gT{a:ae}(g:r.op=.call {callee:=.builtin .cap,args:=#[a],argTypes:=dt})(f:dt[0]?=h o)(e:P.underlying o=h (.slice W)){b}{t}(m:η a=cN (.slice b j t))(i:t<=9223372036854775807):a2 P r η k (ay (.int .i64 t)) k:=
 .exact m (λp q d=>by constructor<;>simp[ab,g,resolve,invoke,builtin,Builtin.cap_,d,run_underlying e,goInt,f]) (λ_ _=>Rd.int nS)
def a2.h2{b:ae}(g:r.op=.call {callee:=.builtin .unsafeSliceData,args:=#[b],argTypes:=dt}){t}(e:η b=cN (.slice n j t)):a2 P r η k (cN (.pointer n)) k:=
 .exact e (λi m d=>by
  have f:Builtin.unsafeSliceData_ dt r.type #[.slice n j t]=pure (.pointer n):=rfl
  constructor<;>simp[ab,g,resolve,invoke,builtin,d,f]) (λ_ _=>Rd.val a)
def a2.h3{d:ae}(m:r.op=.call {callee:=.builtin .unsafeSliceData,args:=#[d],argTypes:=dt}){b}{t}(i:η d=cN (.slice (h b) j t))(f:t≠0):a2 P r η k (cN (.pointer (h b))) k:=
 .exact i (λp q e=>by
  obtain⟨o,rfl⟩:=Nat.exists_eq_succ_of_ne_zero f;have g:Builtin.unsafeSliceData_ dt r.type #[.slice (h b) j (o+1)]=pure (.pointer (h b)):=rfl
  constructor<;>simp[ab,m,resolve,invoke,builtin,e,g]) (λ_ _=>Rd.val a)
def a2.iY{B x:ae}(D:r.op=.slice o B n (h x) n)(E:P.underlying o=h (.slice W)){a5}(p:P.info? W=h a5){g}{m f:Nat}(N:η B=cN (.slice (h g) j m))(M:η x=ay (.int .i64 f))(z:f<=j)(s:j<=m)(F:m≠0)(K:g.add 0=g):a2 P r η k (cN (.slice (h g) f m)) k:=by
 refine .aQ λI y e u=>?_;have i:=u B;rw[N]at i;have i:=Rd.bd i;have C:y x=.int .i64 f:=by have b:=u x;rw[M]at b;have b:=b8 b;generalize y x=O at b;cases b;rfl
 have q:((n:Option X)=n/\(n:Option Int)=n)∨∃f w,(n:Option X)=h (.int f w)/\(n:Option Int)=h w:=.inl ⟨rfl,rfl⟩;have e:(h (Value.int .i64 f)=n/\(h (f:Int))=n)∨∃A w,h (Value.int .i64 f)=h (.int A w)/\(h (f:Int))=h w:=.inr ⟨_,_,rfl,rfl⟩;have t:U (jq j n (h (f:Int))):=by simp[jq,z]
 obtain⟨d,_,_⟩:=wb (P:=P) (ku:=l) s q e t I.a;have J:=vj (P:=P) (ku:=l) s q e t I.a;simp only[bV,cR]at d;refine⟨.slice (h g) f m,?_,Rd.val a,?_⟩
 .simp[ab,D,i,C,Instr.sliceAt,run_underlying E,Instr.slice,d,sizeOf,typeInfo,p,F,K]
 simp[ab,D,i,C,Instr.sliceAt,run_underlying E,Instr.slice,d,J,sizeOf,typeInfo,p,F]
def a2.iF{t2:ak}{f g:ae}(m:r.op=.call {callee:=.builtin .copy,args:=#[f,g],argTypes:=#[o,t2]})(q:P.underlying o=h (.slice W)){a5}(e:P.info? W=h a5){i}{t}(s:η f=cN (.slice (h i) 0 t))(j:η g=cN (.slice n 0 0)):a2 P r η k (ay (.int .i64 0)) k:=by
 refine .aQ λw u p a=>?_;have d:=a f;rw[s]at d;have d:=Rd.bd d;have b:=a g;rw[j]at b;have b:=Rd.bd b;refine⟨.int .i64 0,?_,Rd.int lF,?_⟩<;>
 simp[ab,m,resolve,invoke,builtin,Builtin.copy_,d,b,run_underlying q,sizeOf,typeInfo,e,Builtin.lenOf,Builtin.firstCells,storeCells,goInt]
def a2.jO{u m}{j f:ae}(cy:r.op=.call {callee:=.builtin .unsafeString,args:=#[j,f],argTypes:=#[u,m]})(w:η j=cN (.pointer n))(t:η f=ay (.int .i64 ((0:Nat):Int))):a2 P r η k (ay (.T [])) k:=by
 refine .dr λb e s i=>?_;have g:=i j;rw[w]at g;have g:=Rd.bd g;have o:e f=.int .i64 0:=by have d:=i f;rw[t]at d;have d:=b8 d;generalize e f=x at d;cases d;rfl
 have p:ab e r=(do pure (.value (<-Builtin.unsafeString_ #[u,m] r.type #[e j,e f]))):=Sa;have q:=Lib.run_unsafeString_none (P:=P) b.a u m r.type n;refine⟨.string .empty,?_,Rd.T a D,?_⟩
 .rw[p,g,o];simp only[cL,d_,q];rfl
 rw[p,g,o];exact PY
def a2.iq(A:k[d]?=h (.K (eK ac W C v1 bP ag e))){a dst:ak}{f:ae}(w:r.op=.convert a dst f)(z:P.underlying a=h (.pointer ac))(x:P.underlying dst=h .unsafePointer){u}(b:P.info? ac=h u)(t:u.size≠0)(B:η f=aH d 0):a2 P r η k (aH d 0) k:=by
 refine .aQ λo p j m=>?_;obtain⟨L,g,ld,ba⟩:=eK.row (P:=P) j A;have i:=m f;rw[B]at i;have y:=ba.ptr i;have s:o.a.shape? g=h (ac,2):=Oh;have q:=Lib.run_to_unsafe (P:=P) o.a ⟨g,0,n⟩ z x b t s D;refine⟨p f,by simp[ab,w,y,q],i,?_⟩;have:(convert a dst (.pointer (h ⟨g,0,n⟩))).events P o.a #[]=#[]:=by simp[convert,run_underlying z,run_underlying x,Conv.unsafePointer,Conv.seenAt,viewAt,cellsIn,s,sizeOf,typeInfo,b,t]
 simp[ab,w,y,q,this]
def a2.ik(A:k[d]?=h (.K (eK ac W C v1 bP ag e))){a dst:ak}{f:ae}(w:r.op=.convert a dst f)(z:P.underlying a=h .unsafePointer)(x:P.underlying dst=h (.pointer ac)){u}(b:P.info? ac=h u)(B:u.size≠0)(q:liesAt P P.depth ac (2 / P.cellsOf ac) 0 ac 1=l)(D:η f=aH d 0):a2 P r η k (aH d 0) k:=by
 refine .aQ λo p j m=>?_;obtain⟨L,g,ld,ba⟩:=eK.row (P:=P) j A;have i:=m f;rw[D]at i;have y:=ba.ptr i;have t:o.a.shape? g=h (ac,2):=Oh;have s:=Lib.run_from_unsafe (P:=P) o.a ⟨g,0,n⟩ z x b t q;refine⟨p f,by simp[ab,w,y,s],i,?_⟩;have:(convert a dst (.pointer (h ⟨g,0,n⟩))).events P o.a #[]=#[]:=by simp[convert,run_underlying z,run_underlying x,Conv.unsafePointer,Conv.seenAt,viewAt,variablesAt,t,sizeOf,typeInfo,b,B,q]
 simp[ab,w,y,s,this]
def a2.jy{i}{fn}(t:P.funcs[i]?=h fn)(q:(fn.name== "runtime.NumGoroutine")=v)(e:fn.body.isNone=l)(f:Extern.findNext fn=n)(u:Extern.find fn=h Extern.AbiNoEscape.same){d:ae}(g:r.op=.call {callee:=.value cQ,args:=#[d],argTypes:=dt})(F:η cQ=.n (.Q (.c (.fn (.func i) [] [])))){o}(M:η d=o):a2 P r η k o k:=by
 refine .dr λm a D j=>?_;have s:a cQ=.func (.func i) #[] #[]:=by
  have b:=j cQ;rw[F]at b;have b:=b8 b;generalize a cQ=N at b;cases b with
  |fn C y J K A B w x d1 d2=>
   grind
 have E:(callFunc i #[a d]).run P m.a=.ok (.value (a d)) m.a:=by rw[run_callFunc_extern t q e f u];rfl
 have I:=IW (P:=P) t q e f u #[a d] (λ_ _=>rfl) m.a #[];refine⟨a d,?_,by grind,λz p=>?_⟩
 .simp[ab,g,resolve,Deferred.ofValue,invoke,s,E]
 simp[ab,g,resolve,Deferred.ofValue,invoke,s,I]at p;subst p;exact .inr ⟨_,rfl⟩
end
def DR{a o:Type}{e:a->o}:∀{f:m a},(f.map e).Nodup->∀{b d:a},b∈f->d∈f->e b=e d->b=d
 |[],_,_,_,r,_,_=>by grind
 |t::s,j,b,d,p,q,k=>by
  simp only[kj,List.nodup_cons]at j;rcases eT.1 p with i|i<;>rcases eT.1 q with g|g
  .grind
  .grind
  .grind
  exact DR j.2 i g k
def qK{bU}{a}(d:bU≠.bn)(b:jY a=l):jY (bU::a)=l:=by cases bU<;>first|exact b|grind
section
variable {q:af P}
def g.bV{aM o}(f:∀j b d,aM j b d->o j b d):∀{av:m iu}{j:Exit}{b:bL}{d:m aq},g q F aM av j b d->g q F o av j b d
 |[],j,b,d,a=>f j b d a
 |.code k::av,.normal,b,d,a=>b1.mono a λ_ _ _ a=>g.bV f a
 |.code k::av,.exit _,b,d,a=>g.bV (av:=av) f a
 |.code k::av,.ret,b,d,a=>g.bV (av:=av) f a
 |.code k::av,.panic _,b,d,a=>g.bV (av:=av) f a
 |.code k::av,.goto _,b,d,a=>g.bV (av:=av) f a
 |.code k::av,.outgrown,b,d,a=>g.bV (av:=av) f a
 |.blk id::av,.exit p,b,d,a=>by
  simp only[g]at a⊢;split
  .rename_i j;rw[bo j]at a;exact g.bV (av:=av) f a
  rename_i j;rw[bj j]at a;exact g.bV (av:=av) f a
 |.blk id::av,.normal,b,d,a=>g.bV (av:=av) f a
 |.blk id::av,.ret,b,d,a=>g.bV (av:=av) f a
 |.blk id::av,.panic _,b,d,a=>g.bV (av:=av) f a
 |.blk id::av,.goto _,b,d,a=>g.bV (av:=av) f a
 |.blk id::av,.outgrown,b,d,a=>g.bV (av:=av) f a
 |.al i e::av,.normal,b,d,a=>fm.mono a λ_ _ a=>g.bV f a
 |.al i e::av,.exit _,b,d,a=>g.bV (av:=av) f a
 |.al i e::av,.ret,b,d,a=>g.bV (av:=av) f a
 |.al i e::av,.panic _,b,d,a=>g.bV (av:=av) f a
 |.al i e::av,.goto _,b,d,a=>g.bV (av:=av) f a
 |.al i e::av,.outgrown,b,d,a=>g.bV (av:=av) f a
def g.fH{id}{R:bL->m aq->Prop}{d t i}(a:i5 id d=n)(b:i5 id t=h i)(o:g q F be i .normal I k):
  g q F (wt R (g q F be t)) (.code (.exit id)::d) .normal I k:=
 g.bV (λj e f p=>by cases j<;>exact p) (g.bs (q:=q) (F:=F) (AI:=be) (R:=R) (I:=I) (k:=k) a b o)
end
section
variable {q:af P}
def g.bf{fn}{s}{ar:ι->m aq}(e)(aX){ah}{o}{i}(f:U Z)(b3:∀u,u<s->aX[u]?=h u)(j:fn.results.toList=[.cell o ty]:=by exact rfl)(bp:bX ac ty=h i:=by exact rfl)(A:i.agg=l:=by exact rfl)(r:look I o=aH d 0:=by exact rfl)(gU:db d k=h (.cells W ah):=by exact rfl)(x:ad (c ah) i.size=l:=by exact rfl)(t:en d aX=v:=by exact rfl)(al:kw (.n (.agg ah)) (fk aX (res e))=h Z:=by exact rfl)(O:hX (c aX) (res e)=l:=by exact rfl)(S:dy aX k=h (ar e):=by exact rfl)(C:l7 (ar e)=l:=by exact rfl)(ju:fi aX=l:=by exact rfl):
  g q F (λap I aU=>∃u,uA ac fn s (res u) (ar u) ap I aU) (.code .ret::av) .normal I k:=
 g.ret ⟨e,.inl a,aX,d,W,ah,o,ty,i,Z,n,nofun,j,bp,A,dp x,r,er gU,KZ t,al,f,O,S,C,ju,b3⟩
def g.b9{fn}{f}{ar:ι->m aq}(e)(aX){ah}{o bA}{i}{E}(A:U Z)(b3:∀u,u<f->aX[u]?=h u)(r:fn.results.toList=[.cell o ty,.tmp bA]:=by exact rfl)(bp:bX ac ty=h i:=by exact rfl)(j:i.agg=l:=by exact rfl)(bm:look I o=aH d 0:=by exact rfl)(S:look I bA=.n E:=by exact rfl)(gU:db d k=h (.cells W ah):=by exact rfl)(x:ad (c ah) i.size=l:=by exact rfl)(t:en d aX=v:=by exact rfl)(al:kw (.S [.agg ah,E]) (fk aX (res e))=h Z:=by exact rfl)(O:hX (c aX) (res e)=l:=by exact rfl)(ba:dy aX k=h (ar e):=by exact rfl)(C:l7 (ar e)=l:=by exact rfl)(ju:fi aX=l:=by exact rfl):
  g q F (λap I aU=>∃u,uA ac fn f (res u) (ar u) ap I aU) (.code .ret::av) .normal I k:=
 g.ret ⟨e,.inl a,aX,d,W,ah,o,ty,i,Z,h (bA,E),λ_ s=>by cases s;exact S,r,bp,j,dp x,bm,er gU,KZ t,al,A,O,ba,C,ju,b3⟩
def Y.bg(aZ:bZ P ac){d}{fn}{args}{res}(j:P.funcs[d]?=h fn)(i:(fn.name== "runtime.NumGoroutine")=v)(b:fn.body=h t)(f:ax args.length fn.ntmps=l)(o:kG args k->g q fn.ntmps (λm e a=>∃_:Unit,uA ac fn k.length res ar m e a) [.code t] .normal (h_ 0 args) k):Y q d args k res ar:=
 (bl.bG (ι:=Unit) (ar:=λ_=>ar) (res:=λ_=>res) aZ j i b f o).toY
end
end Go.AM
